import PyProof.Rows.All
import Wide.All
import OpenK.AllK
import Wide.FinOn
import KE.KStateDown
import HandS.ForMost
import HandS.ForExc
import HandS.Evl
import HandS.Steps
import HandS.RaiseMore
import HandS.Flow
import HandS.Wide
import HandS.IsInst
import HandS.Defaults
import HandS.Head0
import HandS.Head1
import HandS.Head2
import HandS.HeadEnd
import HandS.HeadHook1
import HandS.HeadHook2
import HandS.TupAny
import KE.KUnpackStar
import HandS.Style
import HandS.HeadHook3
import HandS.HeadHook4
import HandS.Deep
import HandS.Zip
import HandS.Rev
import HandS.More
import HandS.SortInts
import HandS.SortKw
import HandS.MakeKwOnly
import HandS.SetFor
import HandS.Set
import HandS.Text
import HandS.StrMore
import HandS.Conv
import HandS.Dict
import PyProof.StrOps2
import HandS.Finally
import HandS.Small
import HandS.TryOnly
import HandS.ExcIs
import HandS.Lambda
import PyProof.ReprRoads
import HandS.ClsMeth
import HandS.DictComp
import HandS.HeadNt
import PySem.Challenge.RW_notefall_k02_rules
set_option Elab.async false
set_option linter.all false
set_option maxRecDepth 100000
set_option maxHeartbeats 4000000
/-! The layer over the hand layer: hidden lists, calls in short, one lemma for each construct's reading. -/
namespace Ny
open PySem PySem.Spec PyProof.Rows L2 Evl

/-! ### a list whose items are told by a property alone -/
def LstP (a : Addr) (Pw : List V → Prop) (h : Heap) : Prop := ∃ xs, Pw xs ∧ xs.length ≤ sizeLine ∧ ∃ (its : List Value) (n : Nat), Vals xs its ∧ h.get? a = some { cls := .type "list", data := .seq its.toArray n }
def Hid (a : Addr) (Pw : List V → Prop) : HO := .ext (LstP a Pw)
section
variable {P : Program} {w : World} {H H' : Hp} {h h' : Heap} {a : Addr} {xs : List V} {Pw : List V → Prop}
theorem hid_ok (x : ObjOk P w H h a (.lst xs)) (p : Pw xs) : ObjOk P w H' h a (Hid a Pw) := by
  obtain ⟨z, its, n, r, e⟩ := x
  refine ⟨⟨xs, p, z, its, n, r, e⟩, ⟨_, e⟩, ?_⟩
  rintro h1 h2 ⟨ys, py, zy, jts, m, ry, ey⟩ k
  exact ⟨ys, py, zy, jts, m, ry, k _ ey⟩
theorem hok_hide (x : HOk P w H h) (e : H a = some (.lst xs)) (p : Pw xs) : HOk P w (upd H a (Hid a Pw)) h := fun b u q => by
  by_cases hb : b = a
  · subst hb
    rw [upd_same] at q
    cases q
    exact hid_ok (x b _ e) p
  · rw [upd_ne hb] at q
    refine (x b u q).stay (fun _ _ _ r => r) (fun c r => ?_) (fun c ys r => ?_)
    · rw [upd_ne]
      · exact r
      · intro z; subst z; rw [e] at r; cases r
    · rw [upd_ne]
      · exact r
      · intro z; subst z; rw [e] at r; cases r
theorem hok_open (x : HOk P w H h) (e : H a = some (Hid a Pw)) : ∃ xs, Pw xs ∧ HOk P w (upd H a (.lst xs)) h := by
  obtain ⟨⟨xs, p, z, its, n, r, eo⟩, _, _⟩ := (show ObjOk P w H h a (Hid a Pw) from x a _ e)
  refine ⟨xs, p, fun b u q => ?_⟩
  by_cases hb : b = a
  · subst hb
    rw [upd_same] at q
    cases q
    exact ⟨z, its, n, r, eo⟩
  · rw [upd_ne hb] at q
    refine (x b u q).stay (fun _ _ _ r => r) (fun c r => ?_) (fun c ys r => ?_)
    · rw [upd_ne]
      · exact r
      · intro z; subst z; rw [e] at r; cases r
    · rw [upd_ne]
      · exact r
      · intro z; subst z; rw [e] at r; cases r
theorem un_hide {fs ex : List Addr} {o : HO} (u : Un fs ex H H' h h') (e : H' a = some (.lst xs)) : Un fs ex H (upd H' a o) h h' := by
  have ne : ∀ b, ∀ v : Option HO, v ≠ some (.lst xs) → H' b = v → b ≠ a := fun b v hv hb z => by
    subst z; rw [e] at hb; exact hv hb.symm
  refine ⟨u.keep, u.slot, fun b o q n hx => ?_, u.there, fun b ys q => ?_, fun b o v q => ?_, fun b ps q => ?_⟩
  · have r := u.free b o q n hx
    rw [upd_ne (ne b none (fun z => nomatch z) r)]; exact r
  · have r := u.tups b ys q
    rw [upd_ne (ne b (some (.tup ys)) (by intro z; cases z) r)]; exact r
  · have r := u.frzs b o v q
    rw [upd_ne (ne b (some (.frz o v)) (by intro z; cases z) r)]; exact r
  · obtain ⟨m, r⟩ := u.tbls b ps q
    exact ⟨m, by rw [upd_ne (ne b (some (.tbl (ps ++ m))) (by intro z; cases z) r)]; exact r⟩
theorem un_open {fs ex : List Addr} {H1 : Hp} {φ : Heap → Prop} (u : Un fs ex (upd H a (.lst xs)) H1 h h') (e : H a = some (.ext φ)) : Un fs ex H H1 h h' := by
  have ne : ∀ b, ∀ v : Option HO, v ≠ some (.ext φ) → H b = v → b ≠ a := fun b v hv hb z => by
    subst z; rw [e] at hb; exact hv hb.symm
  refine ⟨fun b o q n hb hx => u.keep b o q ?_ hb hx, fun b o q n hb hx => u.slot b o q ?_ hb hx, fun b o q n hx => u.free b o q ?_ hx, u.there, fun b ys q => u.tups b ys ?_, fun b o v q => u.frzs b o v ?_, fun b ps q => u.tbls b ps ?_⟩
  · rw [upd_ne (ne b none (fun z => nomatch z) n)]; exact n
  · rw [upd_ne (ne b none (fun z => nomatch z) n)]; exact n
  · rw [upd_ne (ne b none (fun z => nomatch z) n)]; exact n
  · rw [upd_ne (ne b (some (.tup ys)) (by intro z; cases z) q)]; exact q
  · rw [upd_ne (ne b (some (.frz o v)) (by intro z; cases z) q)]; exact q
  · rw [upd_ne (ne b (some (.tbl ps)) (by intro z; cases z) q)]; exact q
end
section
variable {P : Program} {w : World} {K : PySem.W.Frag} {mg : Str → Option Value} {base : Heap} {k : Nat} {f : Addr} {fd : FuncData} {ps : List Str} {sp sp' : Sp}
/-- a def that works on a list is promised over the hidden list -/
theorem fn_hide (F : FnOk P w K mg base CX0 k f fd ps sp) (len : ∀ vs H Q E, sp' vs H Q E → vs.length = ps.length)
    (h : ∀ vs H Q E, sp' vs H Q E → ∃ a Pw, H a = some (Hid a Pw) ∧ ∀ xs, Pw xs → sp vs (upd H a (.lst xs)) (fun v H1 => ∃ xs', H1 a = some (.lst xs') ∧ Pw xs' ∧ Q v (upd H1 a (Hid a Pw))) E) :
    FnOk P w K mg base CX0 k f fd ps sp' := by
  refine ⟨len, fun A outer s H args us vs Q E hr e0 hb hv hs => ?_⟩
  obtain ⟨a, Pw, ea, hk⟩ := h _ _ _ _ hs
  obtain ⟨xs, px, ok2⟩ := hok_open e0.hok ea
  have ne : ∀ b, H b = none → b ≠ a := fun b n z => by subst z; rw [ea] at n; cases n
  have e1 : Env0 P w K mg base A outer s (upd H a (.lst xs)) := ⟨e0.frames, e0.mod, fun b o q => ⟨(e0.bs b o q).1, by rw [upd_ne (ne b (e0.bs b o q).2)]; exact (e0.bs b o q).2⟩, e0.bsz, e0.funs,
    fun b hb => by rw [upd_ne (ne b (e0.frf b hb))]; exact e0.frf b hb, ok2, e0.bare⟩
  refine codeAny_mono (F.run A outer s _ args us vs _ E hr e1 hb hv (hk xs px)) fun r s' q => ?_
  cases r with
  | error e => exact (show False from q).elim
  | ok fl =>
    cases fl with
    | next => exact q
    | brk => exact q
    | cont => exact q
    | ret u =>
      obtain ⟨v, H1, os, bare, un, hok, rv, xs', e2, p2, qq⟩ := (show CE outer P w (upd H a (.lst xs)) s _ u s' from q)
      exact ⟨v, upd H1 a (Hid a Pw), os, bare, un_hide (un_open un ea) e2, hok_hide hok e2 p2, rv, qq⟩
end
section
variable {X : Cx} {pins : List (Addr × Obj)} {σ : L2.St} {H : Hp} {s : Shared} {a : Addr} {xs : List V} {Pw : List V → Prop}
theorem inv_hide (I : Inv X pins σ H s) (e : H a = some (.lst xs)) (p : Pw xs) : Inv X pins σ (upd H a (Hid a Pw)) s := by
  have ne : ∀ b, H b = none → b ≠ a := fun b n z => by subst z; rw [e] at n; cases n
  refine ⟨I.ok, I.os, I.bare, un_hide I.base e, I.loc, I.cell, ?_, fun x c hc => ?_, fun q hq => ?_, hok_hide I.hok e p, I.len⟩
  · rw [upd_ne (ne _ I.free)]; exact I.free
  · rw [upd_ne (ne _ (I.freeC x c hc))]; exact I.freeC x c hc
  · obtain ⟨h1, h2, h3⟩ := I.pin q hq
    exact ⟨h1, by rw [upd_ne (ne _ h2)]; exact h2, h3⟩
/-- the list that an expression makes is hidden at once -/
def tHid (Pw : List V → Prop) (te : TE) : TE := fun σ H Q => te σ H fun v H1 => ∃ a xs, v = .ref a ∧ H1 a = some (.lst xs) ∧ Pw xs ∧ Q v (upd H1 a (Hid a Pw))
theorem pe_hid {e : Expr} {te : TE} (Pw : List V → Prop) (he : PE X e te) : PE X e (tHid Pw te) := ⟨fun pins s σ H Q I h => thn (he.run pins s σ H _ I h) fun u s1 ⟨v, H1, I1, r, a, xs, ev, ea, pa, q⟩ => ⟨v, _, inv_hide I1 ea pa, r, q⟩⟩
end
end Ny

set_option Elab.async false
set_option linter.all false
set_option maxRecDepth 100000
set_option maxHeartbeats 4000000
namespace Ny
open PySem PySem.Spec PyProof.Rows L2 Evl

/-! ### calls in short -/
structure CallOk (P : Program) (w : World) (K : PySem.W.Frag) (mg : Str → Option Value) (base : Heap) (CX : CXT) (k : Nat) (x : Str) (ps : List Str) (dvs : List V) (sp : Sp) : Prop where
  ex : ∃ f fd ds, mg x = some (.ref f) ∧ PySem.W.keepIn K (.ref f) = true ∧ Binds K fd ps ds ∧ Vals dvs ds ∧ FnOk P w K mg base CX k f fd ps sp
section
variable {X : Cx} {CX : CXT} {k : Nat} {x : Str} {ps : List Str} {dvs : List V} {sp : Sp} {E : XK} {e : Expr} {es : List Expr} {t : TA} {p pos : Pos}
theorem pe_callF (C : CallOk X.prog X.w X.K X.mg X.base CX k x ps dvs sp) (hr : Room k X.A) (hx : Passes CX X E) (ha : PA X (e :: es) t) (hg : Gl X x := by rfl) (hdb : (x == ("__debug__" : Str)) = false := by decide)
    (he : starEach (e :: es) X.env = (false, eval e X.env) :: starEach es X.env := by rfl) (hpl : (backTo pos (starEach es X.env)).any (·.1) = false := by rfl) :
    PE X (.Call (.Name x p) (e :: es) [] pos) (tCall sp dvs E t) := by
  obtain ⟨f, fd, ds, hm, hk, hb, hd, F⟩ := C.ex
  exact pe_call F hr hg hm hk hb hd hx ha hdb he hpl
theorem pe_callF0 (C : CallOk X.prog X.w X.K X.mg X.base CX k x ps dvs sp) (hr : Room k X.A) (hx : Passes CX X E) (hg : Gl X x := by rfl) (hdb : (x == ("__debug__" : Str)) = false := by decide) :
    PE X (.Call (.Name x p) [] [] pos) (tCall sp dvs E tNil) := by
  obtain ⟨f, fd, ds, hm, hk, hb, hd, F⟩ := C.ex
  exact pe_call0 F hr hg hm hk hb hd hx hdb
theorem CallOk.mono {P : Program} {w : World} {K : PySem.W.Frag} {mg : Str → Option Value} {base : Heap} {j : Nat} (C : CallOk P w K mg base CX j x ps dvs sp) (h : j ≤ k) : CallOk P w K mg base CX k x ps dvs sp := by
  obtain ⟨f, fd, ds, hm, hk, hb, hd, F⟩ := C.ex
  exact ⟨f, fd, ds, hm, hk, hb, hd, F.mono h⟩
theorem CallOk.hide {P : Program} {w : World} {K : PySem.W.Frag} {mg : Str → Option Value} {base : Heap} {sp' : Sp} (C : CallOk P w K mg base CX0 k x ps [] sp) (len : ∀ vs H Q E, sp' vs H Q E → vs.length = ps.length)
    (h : ∀ vs H Q E, sp' vs H Q E → ∃ a Pw, H a = some (Hid a Pw) ∧ ∀ xs, Pw xs → sp vs (upd H a (.lst xs)) (fun v H1 => ∃ xs', H1 a = some (.lst xs') ∧ Pw xs' ∧ Q v (upd H1 a (Hid a Pw))) E) :
    CallOk P w K mg base CX0 k x ps [] sp' := by
  obtain ⟨f, fd, ds, hm, hk, hb, hd, F⟩ := C.ex
  cases hd
  exact ⟨f, fd, [], hm, hk, hb, .nil, fn_hide F len h⟩
end

/-! ### data in a heap that grows -/
theorem ex_at {H H' : Hp} {a : Addr} {o : HO} (e : Ex H H') (h : H a = some o) : H' a = some o := e a o h
mutual
theorem dp_mono {K : PySem.W.Frag} {H H' : Hp} (e : Ex H H') : ∀ (d : PyData) {v : V}, Dp K H v d → Dp K H' v d
  | .none, _, h => by cases h; exact .non
  | .bool b, _, h => by cases h; exact .bl b
  | .int i, _, h => by cases h; exact .int i
  | .str x, _, h => by cases h; exact .str x
  | .list ds, _, h => by
    cases h with
    | lst hs ha => exact .lst (ex_l e hs) (dpAll_mono e ds ha)
  | .tuple ds, _, h => by
    cases h with
    | tup hs ha => exact .tup (ex_t e hs) (dpAll_mono e ds ha)
  | .dict _, _, h => by cases h
theorem dpAll_mono {K : PySem.W.Frag} {H H' : Hp} (e : Ex H H') : ∀ (ds : List PyData) {vs : List V}, DpAll K H vs ds → DpAll K H' vs ds
  | [], _, h => by cases h; exact .nil
  | d :: ds, _, h => by
    cases h with
    | cons h1 h2 => exact .cons (dp_mono e d h1) (dpAll_mono e ds h2)
end
theorem ex_new {H : Hp} {p : Addr} {o : HO} (h : H p = none) : Ex H (upd H p o) := Ex.new h

/-! ### list + list, of lists that may be frozen -/
def rCatS (K : PySem.W.Frag) : R2 := fun x y H Q => ∃ l b xs zs, x = .ref l ∧ y = .ref b ∧ SqL K H l xs ∧ SqL K H b zs ∧ xs.length + zs.length ≤ sizeLine ∧ ∀ p, H p = none → Q (.ref p) (upd H p (.lst (xs ++ zs)))
theorem op_catS {X : Cx} : OpR X (binaryOp .Add) (rCatS X.K) := by
  intro pins s σ H x y v u Q I rx ry h
  obtain ⟨l, b, xs, zs, rfl, rfl, hH, hB, hz, q⟩ := h
  cases rx
  cases ry
  obtain ⟨its, r, pl, z⟩ := I.list hH
  obtain ⟨its2, r2, pl2, z2⟩ := I.list hB
  have hl := r.length
  have hl2 := r2.length
  obtain ⟨⟨cls, dd, data, sl⟩, ho, hc, n, hd⟩ := id pl.isList
  obtain ⟨⟨cls2, dd2, data2, sl2⟩, ho2, hc2, n2, hd2⟩ := id pl2.isList
  simp only at hc hd hc2 hd2
  subst hc hd hc2 hd2
  have e : its.toArray ++ its2.toArray = (its ++ its2).toArray := by simp
  refine concat_meets ⟨_, ho, rfl⟩ ⟨_, ho2, rfl⟩ noFill_list_add seq_list_add PySem.F.slot_list_add PySem.F.entry_list_add (PySem.F.args_list_add_2 _ _) (list_addW l b its.toArray its2.toArray n n2 dd dd2 sl sl2 (by simp only [List.size_toArray]; omega)) ⟨ho, ho2, ?_⟩
  rw [e]
  exact ⟨.ref _, _, I.lnew (t' := s.toks) (r.append r2) (by rw [List.length_append]; omega), rfl, q _ I.fresh⟩
/-! ### operators that take several kinds -/
section
variable (K : PySem.W.Frag)
def uAdd : R2 := fun x y H Q => rI0 (fun i j => .int (i + j)) x y H Q ∨ rCatS K x y H Q ∨ (∃ i j, x = .str i ∧ y = .str j ∧ i.length + j.length ≤ sizeLine ∧ Q (.str (i ++ j)) H) ∨ rCatA K x y H Q
def uMul : R2 := fun x y H Q => rI CMul (fun i j => .int (i * j)) x y H Q ∨ rI CMulW (fun i j => .int (i * j)) x y H Q
def uEq : R2 := fun x y H Q => rEq x y H Q ∨ rEqD K x y H Q
def uNe : R2 := fun x y H Q => rNe x y H Q ∨ rNeD K x y H Q
def uSub : R2 := rI0 fun i j => .int (i - j)
def uLt : R2 := rI0 fun i j => .bl (decide (i < j))
def uLe : R2 := rI0 fun i j => .bl (decide (i ≤ j))
def uGt : R2 := rI0 fun i j => .bl (decide (j < i))
def uGe : R2 := rI0 fun i j => .bl (decide (j ≤ i))
def uMod : R2 := rI (fun _ j => 0 < j) fun i j => .int (i % j)
def uDiv : R2 := rI CDivW fun i j => .int (i / j)
def uPow : R2 := rI CPow fun i j => .int (i ^ j.toNat)
def uIs : R2 := fun x y H Q => y = .non ∧ Q (.bl (decide (x = .non))) H
def uIsN : R2 := fun x y H Q => y = .non ∧ Q (.bl (!decide (x = .non))) H
def uNeg : V → Hp → VK → Prop := rU fun i => .int (-i)
end
section
variable {X : Cx}
theorem ou_add : OpR X (binaryOp .Add) (uAdd X.K) := op_add.or (op_catS.or (op_add_str.or op_catA))
theorem ou_mul : OpR X (binaryOp .Mult) uMul := op_mul.or op_mulW
theorem ou_sub : OpR X (binaryOp .Sub) uSub := op_sub
theorem ou_mod : OpR X (binaryOp .Mod) uMod := op_mod
theorem ou_div : OpR X (binaryOp .FloorDiv) uDiv := op_fdivW
theorem ou_pow : OpR X (binaryOp .Pow) uPow := op_pow
theorem ou_eq (hu : X.A.units + 64 < cLine) : OpR X (compareOp .Eq) (uEq X.K) := op_eq.or (op_eqD hu)
theorem ou_ne (hu : X.A.units + 64 < cLine) : OpR X (compareOp .NotEq) (uNe X.K) := op_ne.or (op_neD hu)
theorem ou_lt : OpR X (compareOp .Lt) uLt := op_lt
theorem ou_le : OpR X (compareOp .LtE) uLe := op_le
theorem ou_gt : OpR X (compareOp .Gt) uGt := op_gt
theorem ou_ge : OpR X (compareOp .GtE) uGe := op_ge
theorem ou_is : OpR X (compareOp .Is) uIs := op_isN
theorem ou_isn : OpR X (compareOp .IsNot) uIsN := op_notN
theorem ou_neg : UnR X (unaryOp .USub) uNeg := un_neg
/-- len of a list, a tuple, a text -/
def uLen (K : PySem.W.Frag) : List V → Hp → VK → Prop := fun xs H Q => (∃ x n, xs = [x] ∧ LenV K x H n ∧ Q (.int n) H) ∨ ∃ p kvs, xs = [.ref p] ∧ Rd H p (.dK kvs) ∧ Q (.int kvs.length) H
def uIsi (K : PySem.W.Frag) : List V → Hp → VK → Prop := rIsi K
theorem cu_isi : CallR X (.builtin "isinstance") (uIsi X.K) := call_isi
def uInt : List V → Hp → VK → Prop := fun xs H Q => ((∃ i, xs = [.int i] ∧ Q (.int i) H) ∨ ∃ k, xs = [.bl k] ∧ Q (.int (if k then 1 else 0)) H) ∨ (∃ a n, xs = [.str a] ∧ PySem.intText? a = some n ∧ a.length ≤ 640 ∧ Q (.int n) H)
theorem cu_int : CallR X (.type "int") uInt := call_int1.or call_int_str
def uMax (K : PySem.W.Frag) : List V → Hp → VK → Prop := fun xs H Q => (∃ i j, xs = [.int i, .int j] ∧ Q (.int (if j > i then j else i)) H) ∨ rMax K xs H Q
theorem cu_max (hc : X.calm = true) : CallR X (.builtin "max") (uMax X.K) := (call_max2 hc).or (cr_max hc)
def uMin (K : PySem.W.Frag) : List V → Hp → VK → Prop := fun xs H Q => (∃ i j, xs = [.int i, .int j] ∧ Q (.int (if j < i then j else i)) H) ∨ rMin K xs H Q
theorem cu_min (hc : X.calm = true) : CallR X (.builtin "min") (uMin X.K) := (call_min2 hc).or (cr_min hc)
def uStr : List V → Hp → VK → Prop := fun xs H Q => (∃ i, xs = [.int i] ∧ i.natAbs.log2 < 1920 ∧ Q (.str (toString i)) H) ∨ (∃ a, xs = [.str a] ∧ Q (.str a) H) ∨ (xs = [.non] ∧ Q (.str "None") H)
theorem call_str_none : CallR X (.type "str") (fun xs H Q => xs = [.non] ∧ Q (.str "None") H) := by
  intro pins s σ H xs us Q I r h
  obtain ⟨rfl, q⟩ := h
  cases r with
  | cons r1 r2 =>
    cases r2; cases r1
    exact PySem.P.str_of_none ⟨.str _, H, I.tok _, ⟨_, rfl⟩, q⟩
theorem cu_str : CallR X (.type "str") uStr := call_str_int.or (SkE.call_str_str.or call_str_none)
def uList (K : PySem.W.Frag) : List V → Hp → VK → Prop := fun xs H Q => ∃ p ys, xs = [.ref p] ∧ (SqL K H p ys ∨ SqT K H p ys) ∧ ∀ l, H l = none → Q (.ref l) (upd H l (.lst ys))
theorem cu_list : CallR X (.type "list") (uList X.K) := call_list_of
def uAny (K : PySem.W.Frag) : List V → Hp → VK → Prop := rAny K
theorem cu_any (hc : X.calm = true) : CallR X (.builtin "any") (uAny X.K) := cr_any hc
def uAll (K : PySem.W.Frag) : List V → Hp → VK → Prop := rAll K
theorem cu_all (hc : X.calm = true) : CallR X (.builtin "all") (uAll X.K) := cr_all hc
/-- a[i:j] of a list, of a text -/
def uSl (K : PySem.W.Frag) : V → Option Int → Option Int → Hp → VK → Prop := rSlL K
theorem su_list : SlR X (uSl X.K) := sl_list
/-- truth of any value -/
def TruW (K : PySem.W.Frag) (x : V) (H : Hp) (k : Bool) : Prop := TruV K x H k ∨ ∃ p kvs, x = .ref p ∧ Rd H p (.dK kvs) ∧ k = !kvs.isEmpty
theorem truW_ok : TruR X (fun x H Q => ∃ k, TruW X.K x H k ∧ Q k H) := by
  intro pins s σ H x v Q I rx h
  obtain ⟨k, e | ⟨p, kvs, rfl, e, rfl⟩, q⟩ := h
  · exact tru_ok pins s σ H x v Q I rx ⟨k, e, q⟩
  · cases rx
    exact d_truth I e fun s' I' => ⟨_, I', q⟩
def tTr (K : PySem.W.Frag) (ta : TE) : TT := fun σ H Q => ta σ H fun x H' => ∃ k, TruW K x H' k ∧ Q k H'
theorem pt_tr {a : Expr} {ta : TE} (ha : PE X a ta) (he : ∀ whole, isTrue a X.env whole = (do let v ← whole; standAt a.pos; holding [v] (truthy v)) := by intro _; rfl) : PT X a (tTr X.K ta) := by
  refine ⟨fun pins s σ H Q I h => ?_⟩
  exact isTrue_plain (thn (ha.run pins s σ H _ I h) fun v s1 ⟨x, H1, I1, r1, q1⟩ => truW_ok pins s1 σ H1 x v Q I1 r1 q1) (he _)
/-- len of a list, a tuple, a text, a dict -/
theorem cu_lenD : CallR X (.builtin "len") (fun xs H Q => ∃ p kvs, xs = [.ref p] ∧ Rd H p (.dK kvs) ∧ Q (.int kvs.length) H) := by
  intro pins s σ H xs us Q I r h
  obtain ⟨p, kvs, rfl, e, q⟩ := h
  cases r with
  | cons r1 r2 =>
    cases r2; cases r1
    exact d_len I e fun t s' I' => ⟨.int kvs.length, H, I', ⟨t, rfl⟩, q⟩
theorem cu_len : CallR X (.builtin "len") (uLen X.K) := call_len.or cu_lenD
/-- xs[i], d[k] -/
def rDIx : V → V → Hp → VK → Prop := fun x y H Q => ∃ a v, x = .ref a ∧ DGet H a y (some v) ∧ Q v H
theorem ix_dct (hu : X.A.units + 64 < cLine) : IxR X rDIx := by
  intro value slice pins s σ H x y v u Q I rx ry h hs
  obtain ⟨a, w, rfl, g, q⟩ := h
  obtain rfl : v = Value.ref a := rx
  exact tail_any (dict_typeIs I g) PySem.F.slot_dict_getitem.lookup (d_getItem (by omega) I g ry fun w' s' I' rw => ⟨w, H, I', rw, q⟩) hs
def rIxW (K : PySem.W.Frag) : V → V → Hp → VK → Prop := fun x y H Q => rIx K x y H Q ∨ rDIx x y H Q
theorem ix_sd (hu : X.A.units + 64 < cLine) : IxR X (rIxW X.K) := ix_seq.or (ix_dct hu)
def rDIn (neg : Bool) : R2 := fun y x H Q => ∃ a o, x = .ref a ∧ DGet H a y o ∧ Q (.bl (if neg then !o.isSome else o.isSome)) H
theorem op_dIn (hu : X.A.units + 64 < cLine) : OpR X (compareOp .In) (rDIn false) := by
  intro pins s σ H x y v u Q I rx ry h
  obtain ⟨a, o, rfl, g, q⟩ := h
  cases ry
  exact d_in (by omega) I g rx fun s' I' => ⟨.bl o.isSome, H, I', rfl, q⟩
theorem op_dNin (hu : X.A.units + 64 < cLine) : OpR X (compareOp .NotIn) (rDIn true) := by
  intro pins s σ H x y v u Q I rx ry h
  obtain ⟨a, o, rfl, g, q⟩ := h
  cases ry
  exact d_notIn (by omega) I g rx fun s' I' => ⟨.bl (!o.isSome), H, I', rfl, q⟩
end
end Ny

set_option Elab.async false
set_option linter.all false
set_option maxRecDepth 100000
set_option maxHeartbeats 4000000
namespace Ny
open PySem PySem.Spec PyProof.Rows L2 Evl

/-! ### kinds of values, isinstance -/
inductive Kd where
  | non | bl | int | str | lst | tup | dct
def Kd.ty : Kd → String
  | .non => "NoneType" | .bl => "bool" | .int => "int" | .str => "str" | .lst => "list" | .tup => "tuple" | .dct => "dict"
def Kd.isi : Kd → Kd → Bool
  | .non, .non => true | .bl, .bl => true | .bl, .int => true | .int, .int => true | .str, .str => true | .lst, .lst => true | .tup, .tup => true | .dct, .dct => true
  | _, _ => false
theorem kit_kd {K : PySem.W.Frag} (k c : Kd) (h : c ≠ .non) : PySem.W.kitOne K (.type k.ty) (.type c.ty) = some (k.isi c) := by
  cases c <;> first | exact absurd rfl h | (cases k <;> exact kit_ty (by decide +kernel))
inductive KdOf (K : PySem.W.Frag) (H : Hp) : V → Kd → Prop where
  | non : KdOf K H .non .non
  | bl (b : Bool) : KdOf K H (.bl b) .bl
  | int (i : Int) : KdOf K H (.int i) .int
  | str (x : Str) : KdOf K H (.str x) .str
  | lst {a : Addr} {xs : List V} (h : SqL K H a xs) : KdOf K H (.ref a) .lst
  | tup {a : Addr} {xs : List V} (h : SqT K H a xs) : KdOf K H (.ref a) .tup
  | dct {a : Addr} {kvs : List (Key × V)} (h : Rd H a (.dK kvs)) : KdOf K H (.ref a) .dct
theorem KdOf.tyX {K : PySem.W.Frag} {H : Hp} {x : V} {k : Kd} (h : KdOf K H x k) : TyX K H x (.type k.ty) := by
  cases h with
  | non => exact .base .non
  | bl b => exact .base (.bl b)
  | int i => exact .base (.int i)
  | str x => exact .base (.str x)
  | lst h =>
    rcases h with (h | ⟨o, h⟩) | ⟨o, its, n, hk, hc, _⟩
    · exact .base (.lst h)
    · exact .base (.frz h)
    · exact .kList hk hc
  | tup h =>
    rcases h with (h | ⟨o, h⟩) | ⟨o, its, n, hk, hc, _⟩
    · exact .base (.tup h)
    · exact .fTuple h
    · exact .kTuple hk hc
  | dct h =>
    rcases h with h | ⟨_, h⟩
    · exact .base (.dK h)
    · exact .fDict h
theorem KdOf.mono {K : PySem.W.Frag} {H H' : Hp} {x : V} {k : Kd} (e : Ex H H') (h : KdOf K H x k) : KdOf K H' x k := by
  cases h with
  | non => exact .non
  | bl b => exact .bl b
  | int i => exact .int i
  | str x => exact .str x
  | lst h => exact .lst (ex_l e h)
  | tup h => exact .tup (ex_t e h)
  | dct h => exact .dct (h.imp (e _ _) fun ⟨o, h⟩ => ⟨o, e _ _ h⟩)
def PyData.kd : PyData → Kd
  | .none => .non | .bool _ => .bl | .int _ => .int | .str _ => .str | .list _ => .lst | .tuple _ => .tup | .dict _ => .dct
theorem kd_dp {K : PySem.W.Frag} {H : Hp} {v : V} {d : PyData} (h : Dp K H v d) : KdOf K H v (PyData.kd d) := by
  cases h with
  | non => exact .non
  | bl b => exact .bl b
  | int i => exact .int i
  | str x => exact .str x
  | lst h _ => exact .lst h
  | tup h _ => exact .tup h

section
variable {K : PySem.W.Frag} {σ σ' : L2.St} {H : Hp} {D : Ends} {Q : VK} {R : L2.St → Hp → Prop} {x y v : V} {b : Bool} {A B : Prop} {i j : Int} {n : Nat}
/-! ### statements -/
theorem w_seq {t u : TS} (h : t { D with nx := u D } σ H) : tSeq t u D σ H := h
theorem w_next (h : D.nx σ H) : tNext D σ H := h
theorem w_brk (h : D.bk σ H) : tBreak D σ H := h
theorem w_cont (h : D.ct σ H) : tCont D σ H := h
theorem w_asg {te : TE} {g : TG} (h : te σ H (fun x H1 => g x σ H1 D.nx)) : tAsg te g D σ H := h
theorem w_gname {k : Nat} (e : σ.set k (some v) = σ') (h : R σ' H) : gName k v σ H R := by subst e; exact h
theorem w_drop {te : TE} (h : te σ H (fun _ H1 => D.nx σ H1)) : tDrop te D σ H := h
theorem w_ret {te : TE} (h : te σ H D.rt) : tRet te D σ H := h
theorem w_retN (h : D.rt .non H) : tRetN D σ H := h
theorem w_if {c : TT} {t u : TS} (h : c σ H fun b H1 => if b = true then t D σ H1 else u D σ H1) : tIfS c t u D σ H := h
theorem w_gtup {t : TGs} {a : Addr} {xs : List V} (h : SqT K H a xs) (hl : xs.length = n) (q : t xs σ H R) : gTup K n t (.ref a) σ H R := ⟨a, xs, rfl, h, hl, q⟩
theorem w_gcons {t : TG} {u : TGs} {r : List V} (q : t v σ H fun σ' H' => u r σ' H' R) : gCons t u (v :: r) σ H R := ⟨v, r, rfl, q⟩
theorem w_gnil (q : R σ H) : gNil [] σ H R := ⟨rfl, q⟩
/-- ways that meet again: what holds there, then the rest -/
theorem w_cut {t u : TS} (I : L2.St → Hp → Prop) (h2 : ∀ σ' H', I σ' H' → u D σ' H') (h1 : ∀ nx : L2.St → Hp → Prop, (∀ σ' H', I σ' H' → nx σ' H') → t { D with nx := nx } σ H) : tSeq t u D σ H := h1 (u D) h2
/-! ### expressions -/
theorem w_var {k : Nat} (h : σ[k]? = some (some v)) (q : Q v H) : tVar k σ H Q := ⟨v, h, q⟩
theorem w_c (q : Q v H) : tC v σ H Q := q
theorem w_op {r : R2} {ta tb : TE} (q : ta σ H fun x H1 => tb σ H1 fun y H2 => r x y H2 Q) : tOp r ta tb σ H Q := q
theorem w_un {r : V → Hp → VK → Prop} {ta : TE} (q : ta σ H fun x H1 => r x H1 Q) : tUn r ta σ H Q := q
theorem w_nil {QA : List V → Hp → Prop} (q : QA [] H) : tNil σ H QA := q
theorem w_cons {ta : TE} {tr : TA} {QA : List V → Hp → Prop} (q : ta σ H fun x H1 => tr σ H1 fun xs H2 => QA (x :: xs) H2) : tCons ta tr σ H QA := q
theorem w_cb {r : List V → Hp → VK → Prop} {t : TA} (q : t σ H fun vs H1 => r vs H1 Q) : tCB r t σ H Q := q
theorem w_call {sp : Sp} {E : XK} {t : TA} (q : t σ H fun vs H1 => sp vs H1 Q E) : tCall sp [] E t σ H Q := by
  have e : (fun (vs : List V) (H1 : Hp) => sp (vs ++ []) H1 Q E) = fun vs H1 => sp vs H1 Q E := by
    funext vs H1
    rw [List.append_nil]
  show t σ H fun vs H1 => sp (vs ++ []) H1 Q E
  rw [e]
  exact q
/-- a new tuple, a new list -/
def mkT (xs : List V) (H : Hp) (Q : VK) : Prop := xs.length ≤ sizeLine ∧ ∀ p, H p = none → Q (.ref p) (upd H p (.tup xs))
def mkL (xs : List V) (H : Hp) (Q : VK) : Prop := xs.length ≤ sizeLine ∧ ∀ p, H p = none → Q (.ref p) (upd H p (.lst xs))
theorem w_tup {t : TA} (q : t σ H fun xs H1 => mkT xs H1 Q) : tTup t σ H Q := q
theorem w_lst {t : TA} (q : t σ H fun xs H1 => mkL xs H1 Q) : tLst t σ H Q := q
theorem w_mkT {xs : List V} (hl : xs.length ≤ 1000000) (q : ∀ p H2, H p = none → Ex H H2 → H2 p = some (.tup xs) → Q (.ref p) H2) : mkT xs H Q :=
  ⟨Nat.le_trans hl (by decide), fun p hp => q p _ hp (Ex.new hp) upd_same⟩
theorem w_mkL {xs : List V} (hl : xs.length ≤ 1000000) (q : ∀ p H2, H p = none → Ex H H2 → H2 p = some (.lst xs) → Q (.ref p) H2) : mkL xs H Q :=
  ⟨Nat.le_trans hl (by decide), fun p hp => q p _ hp (Ex.new hp) upd_same⟩
theorem w_hid {te : TE} {Pw : List V → Prop} (q : te σ H fun v H1 => ∃ a xs, v = .ref a ∧ H1 a = some (.lst xs) ∧ Pw xs ∧ Q v (upd H1 a (Hid a Pw))) : tHid Pw te σ H Q := q
theorem w_ife {t : TT} {ta tb : TE} (q : t σ H fun c H1 => if c = true then ta σ H1 Q else tb σ H1 Q) : tIf t ta tb σ H Q := q
theorem w_andV {ta tb : TE} (q : ta σ H fun x H1 => ∃ c, x = .bl c ∧ if c = true then tb σ H1 Q else Q (.bl false) H1) : tAndV ta tb σ H Q := q
theorem w_orV {ta tb : TE} (q : ta σ H fun x H1 => ∃ c, x = .bl c ∧ if c = true then Q (.bl true) H1 else tb σ H1 Q) : tOrV ta tb σ H Q := q
theorem w_notV {ta : TE} (q : ta σ H fun x H1 => ∃ c, x = .bl c ∧ Q (.bl (!c)) H1) : tNotV ta σ H Q := q
theorem w_chain {r r' : R2} {ta tb tc : TE} (q : ta σ H fun x H1 => tb σ H1 fun y H2 => r x y H2 fun z H3 => ∃ k, z = .bl k ∧ (if k = true then tc σ H3 fun w' H4 => r' y w' H4 Q else Q (.bl false) H3)) : tChain r r' ta tb tc σ H Q := q
theorem w_bl {R : Bool → Prop} (q : R b) : ∃ c, V.bl b = V.bl c ∧ R c := ⟨b, rfl, q⟩
theorem w_sl {r : V → Option Int → Option Int → Hp → VK → Prop} {te : TE} {tl th : TO} (q : te σ H fun x H1 => tl σ H1 fun l H2 => th σ H2 fun u H3 => r x l u H3 Q) : tSl r te tl th σ H Q := q
theorem w_part {t : TE} {QO : Option Int → Hp → Prop} (q : t σ H fun x H1 => ∃ i, x = .int i ∧ QO (some i) H1) : tPart t σ H QO := q
theorem w_nopart {QO : Option Int → Hp → Prop} (q : QO none H) : tNoPart σ H QO := q
theorem w_int {R : Int → Prop} (q : R i) : ∃ c, V.int i = V.int c ∧ R c := ⟨i, rfl, q⟩
/-! ### tests -/
section
variable {QB : Bool → Hp → Prop}
theorem w_test {t : TE} (q : t σ H fun x H' => ∃ k, x = .bl k ∧ QB k H') : tTest t σ H QB := q
theorem w_tB {t : TE} (q : t σ H fun x H' => ∃ k, x = .bl k ∧ QB k H') : tB t σ H QB := q
theorem w_tr {t : TE} (q : t σ H fun x H' => ∃ k, TruW K x H' k ∧ QB k H') : tTr K t σ H QB := q
theorem w_and {t u : TT} (q : t σ H fun c H1 => if c = true then u σ H1 QB else QB false H1) : tAnd t u σ H QB := q
theorem w_or {t u : TT} (q : t σ H fun c H1 => if c = true then QB true H1 else u σ H1 QB) : tOr t u σ H QB := q
theorem w_not {t : TT} (q : t σ H fun c H1 => QB (!c) H1) : tNot t σ H QB := q
theorem w_tr_bl (q : QB b H) : ∃ k, TruW K (.bl b) H k ∧ QB k H := ⟨b, .inl rfl, q⟩
theorem w_tr_non (q : QB false H) : ∃ k, TruW K .non H k ∧ QB k H := ⟨false, .inl rfl, q⟩
theorem w_tr_lst {a : Addr} {xs : List V} (h : SqL K H a xs) (q : QB (!xs.isEmpty) H) : ∃ k, TruW K (.ref a) H k ∧ QB k H := ⟨_, .inl (.inl ⟨xs, h, rfl⟩), q⟩
theorem w_tr_tup {a : Addr} {xs : List V} (h : SqT K H a xs) (q : QB (!xs.isEmpty) H) : ∃ k, TruW K (.ref a) H k ∧ QB k H := ⟨_, .inl (.inr (.inl ⟨xs, h, rfl⟩)), q⟩
end
/-! ### ends -/
theorem q_bl {c : Bool} (q : Q (.bl b) H) (e : c = b) : Q (.bl c) H := by subst e; exact q
theorem q_int (q : Q (.int i) H) (e : j = i) : Q (.int j) H := by subst e; exact q
/-! ### ways -/
theorem w_itn (h : if b = true then B else A) : if (!b) = true then A else B := by cases b <;> exact h
theorem w_itd {c : Prop} [Decidable c] (h1 : c → A) (h2 : ¬ c → B) : if decide c = true then A else B := by
  by_cases h : c
  · rw [decide_eq_true h]; exact iteT (h1 h)
  · rw [decide_eq_false h]; exact iteF (h2 h)
theorem w_itd1 {c : Prop} [Decidable c] (h : c) (h1 : A) : if decide c = true then A else B := by
  rw [decide_eq_true h]; exact iteT h1
theorem w_itd0 {c : Prop} [Decidable c] (h : ¬ c) (h1 : B) : if decide c = true then A else B := by
  rw [decide_eq_false h]; exact iteF h1
theorem w_itb (h1 : b = true → A) (h2 : b = false → B) : if b = true then A else B := by
  cases b
  · exact iteF (h2 rfl)
  · exact iteT (h1 rfl)
/-! ### operators by their values -/
theorem w_I0 {g : Int → Int → V} (q : Q (g i j) H) : rI0 g (.int i) (.int j) H Q := ⟨i, j, rfl, rfl, q⟩
theorem w_sub (q : Q (.int (i - j)) H) : uSub (.int i) (.int j) H Q := ⟨i, j, rfl, rfl, q⟩
theorem w_lt (q : Q (.bl (decide (i < j))) H) : uLt (.int i) (.int j) H Q := ⟨i, j, rfl, rfl, q⟩
theorem w_le (q : Q (.bl (decide (i ≤ j))) H) : uLe (.int i) (.int j) H Q := ⟨i, j, rfl, rfl, q⟩
theorem w_gt (q : Q (.bl (decide (j < i))) H) : uGt (.int i) (.int j) H Q := ⟨i, j, rfl, rfl, q⟩
theorem w_ge (q : Q (.bl (decide (j ≤ i))) H) : uGe (.int i) (.int j) H Q := ⟨i, j, rfl, rfl, q⟩
theorem w_mod (h : 0 < j) (q : Q (.int (i % j)) H) : uMod (.int i) (.int j) H Q := ⟨i, j, rfl, rfl, h, q⟩
theorem w_div (h : 0 < j) (h2 : j.natAbs.log2 < 9000) (q : Q (.int (i / j)) H) : uDiv (.int i) (.int j) H Q := ⟨i, j, rfl, rfl, ⟨h, h2⟩, q⟩
theorem w_pow {m : Int} (h : 0 ≤ j) (h1 : j ≤ 1000000) (h2 : i.natAbs < 2 ^ 64) (hm : i ^ j.toNat = m) (q : Q (.int m) H) : uPow (.int i) (.int j) H Q := by
  subst hm
  exact ⟨i, j, rfl, rfl, ⟨h, h1, h2⟩, q⟩
theorem w_mulL (h : -(2 ^ 64) < i ∧ i < 2 ^ 64) (q : Q (.int (i * j)) H) : uMul (.int i) (.int j) H Q := .inl ⟨i, j, rfl, rfl, .inl h, q⟩
theorem w_mulR (h : -(2 ^ 64) < j ∧ j < 2 ^ 64) (q : Q (.int (i * j)) H) : uMul (.int i) (.int j) H Q := .inl ⟨i, j, rfl, rfl, .inr h, q⟩
theorem w_mulW (h : CMulW i j) (q : Q (.int (i * j)) H) : uMul (.int i) (.int j) H Q := .inr ⟨i, j, rfl, rfl, h, q⟩
theorem w_neg (q : Q (.int (-i)) H) : uNeg (.int i) H Q := ⟨i, rfl, q⟩
theorem w_add (q : Q (.int (i + j)) H) : uAdd K (.int i) (.int j) H Q := .inl ⟨i, j, rfl, rfl, q⟩
theorem w_addL {a b : Addr} {xs ys : List V} (h1 : SqL K H a xs) (h2 : SqL K H b ys) (hl : xs.length + ys.length ≤ sizeLine) (q : ∀ p H2, H p = none → Ex H H2 → H2 p = some (.lst (xs ++ ys)) → Q (.ref p) H2) : uAdd K (.ref a) (.ref b) H Q :=
  .inr (.inl ⟨a, b, xs, ys, rfl, rfl, h1, h2, hl, fun p hp => q p _ hp (Ex.new hp) upd_same⟩)
theorem w_addS {x y : Str} (hl : x.length + y.length ≤ sizeLine) (q : Q (.str (x ++ y)) H) : uAdd K (.str x) (.str y) H Q := .inr (.inr (.inl ⟨x, y, rfl, rfl, hl, q⟩))
theorem w_is (q : Q (.bl (decide (x = .non))) H) : uIs x .non H Q := ⟨rfl, q⟩
theorem w_isn (q : Q (.bl (!decide (x = .non))) H) : uIsN x .non H Q := ⟨rfl, q⟩
theorem w_is_non (q : Q (.bl true) H) : uIs .non .non H Q := ⟨rfl, q⟩
theorem w_is_bl (q : Q (.bl false) H) : uIs (.bl b) .non H Q := ⟨rfl, q⟩
theorem w_is_int (q : Q (.bl false) H) : uIs (.int i) .non H Q := ⟨rfl, q⟩
theorem w_is_str {x : Str} (q : Q (.bl false) H) : uIs (.str x) .non H Q := ⟨rfl, q⟩
theorem w_is_ref {a : Addr} (q : Q (.bl false) H) : uIs (.ref a) .non H Q := ⟨rfl, q⟩
theorem w_isn_non (q : Q (.bl false) H) : uIsN .non .non H Q := ⟨rfl, q⟩
theorem w_isn_bl (q : Q (.bl true) H) : uIsN (.bl b) .non H Q := ⟨rfl, q⟩
theorem w_isn_int (q : Q (.bl true) H) : uIsN (.int i) .non H Q := ⟨rfl, q⟩
theorem w_isn_str {x : Str} (q : Q (.bl true) H) : uIsN (.str x) .non H Q := ⟨rfl, q⟩
theorem w_isn_ref {a : Addr} (q : Q (.bl true) H) : uIsN (.ref a) .non H Q := ⟨rfl, q⟩
theorem dec_int : decide (V.int i = V.int j) = decide (i = j) := by
  by_cases h : i = j
  · subst h; simp
  · rw [decide_eq_false h, decide_eq_false (fun z => h (by cases z; rfl))]
theorem dec_str {x y : Str} : decide (V.str x = V.str y) = decide (x = y) := by
  by_cases h : x = y
  · subst h; simp
  · rw [decide_eq_false h, decide_eq_false (fun z => h (by cases z; rfl))]
theorem dec_bl {x y : Bool} : decide (V.bl x = V.bl y) = decide (x = y) := by
  by_cases h : x = y
  · subst h; simp
  · rw [decide_eq_false h, decide_eq_false (fun z => h (by cases z; rfl))]
theorem w_eq_int (q : Q (.bl (decide (i = j))) H) : uEq K (.int i) (.int j) H Q := .inl ⟨rfl, by rw [dec_int]; exact q⟩
theorem w_eq_str {x y : Str} (q : Q (.bl (decide (x = y))) H) : uEq K (.str x) (.str y) H Q := .inl ⟨rfl, by rw [dec_str]; exact q⟩
theorem w_eq_bl {x y : Bool} (q : Q (.bl (decide (x = y))) H) : uEq K (.bl x) (.bl y) H Q := .inl ⟨rfl, by rw [dec_bl]; exact q⟩
theorem w_eq_dat {d e : PyData} (h1 : Dp K H x d) (h2 : Dp K H y e) (s1 : SeqAt.shaped d = true) (s2 : SeqAt.shaped e = true) (q : Q (.bl (PyData.eqv d e)) H) : uEq K x y H Q := .inr ⟨d, e, h1, h2, s1, s2, q⟩
theorem w_ne_int (q : Q (.bl (!decide (i = j))) H) : uNe K (.int i) (.int j) H Q := .inl ⟨rfl, by rw [dec_int]; exact q⟩
theorem w_ne_str {x y : Str} (q : Q (.bl (!decide (x = y))) H) : uNe K (.str x) (.str y) H Q := .inl ⟨rfl, by rw [dec_str]; exact q⟩
theorem w_ne_bl {x y : Bool} (q : Q (.bl (!decide (x = y))) H) : uNe K (.bl x) (.bl y) H Q := .inl ⟨rfl, by rw [dec_bl]; exact q⟩
theorem w_ne_dat {d e : PyData} (h1 : Dp K H x d) (h2 : Dp K H y e) (s1 : SeqAt.shaped d = true) (s2 : SeqAt.shaped e = true) (q : Q (.bl (!PyData.eqv d e)) H) : uNe K x y H Q := .inr ⟨d, e, h1, h2, s1, s2, q⟩
/-! ### items -/
theorem w_ixL {p : Addr} {xs : List V} (h : SqL K H p xs) (ha : atI xs i = some v) (q : Q v H) : rIx K (.ref p) (.int i) H Q := .inl ⟨p, xs, i, v, rfl, rfl, h, ha, q⟩
theorem w_ixT {p : Addr} {xs : List V} (h : SqT K H p xs) (ha : atI xs i = some v) (q : Q v H) : rIx K (.ref p) (.int i) H Q := .inr (.inl ⟨p, xs, i, v, rfl, rfl, h, ha, q⟩)
theorem at_mem {xs : List V} (h0 : 0 ≤ i) (h1 : i < xs.length) : ∃ v, atI xs i = some v ∧ v ∈ xs := by
  obtain ⟨m, rfl⟩ := Int.eq_ofNat_of_zero_le h0
  have hm : m < xs.length := by omega
  exact ⟨xs[m], atI_nat (List.getElem?_eq_getElem hm), List.getElem_mem hm⟩
theorem w_ixLm {p : Addr} {xs : List V} (h : SqL K H p xs) (h0 : 0 ≤ i) (h1 : i < xs.length) (q : ∀ v, v ∈ xs → Q v H) : rIx K (.ref p) (.int i) H Q := by
  obtain ⟨v, ha, hm⟩ := at_mem h0 h1
  exact w_ixL h ha (q v hm)
theorem w_ixTm {p : Addr} {xs : List V} (h : SqT K H p xs) (h0 : 0 ≤ i) (h1 : i < xs.length) (q : ∀ v, v ∈ xs → Q v H) : rIx K (.ref p) (.int i) H Q := by
  obtain ⟨v, ha, hm⟩ := at_mem h0 h1
  exact w_ixT h ha (q v hm)
theorem w_setL {p : Addr} {xs : List V} {m : Nat} (h : H p = some (.lst xs)) (hm : m < xs.length) (q : R σ (upd H p (.lst (xs.set m v)))) : rSetL (.ref p) (.int (m : Nat)) v H (fun H3 => R σ H3) := ⟨p, xs, m, m, rfl, rfl, h, by unfold ixN; rw [if_pos (by omega), if_pos (by omega)]; simp, q⟩
theorem each_nil {P : V → Prop} : ∀ v, v ∈ ([] : List V) → P v := fun _ h => nomatch h
theorem each_cons {P : V → Prop} {a : V} {l : List V} (h : P a) (t : ∀ v, v ∈ l → P v) : ∀ v, v ∈ a :: l → P v := fun v hv => by
  rcases List.mem_cons.mp hv with rfl | hv
  · exact h
  · exact t v hv
/-! ### built-ins -/
theorem w_isi {c : Kd} {k : Kd} {t : String} (hc : c ≠ .non) (ht : c.ty = t) (hk : KdOf K H x k) (hb : k.isi c = b) (q : Q (.bl b) H) : uIsi K [x, .ty t] H Q := by
  subst ht; subst hb
  exact ⟨x, .ty c.ty, _, _, _, rfl, .ty _, hk.tyX, kit_kd k c hc, q⟩
theorem w_isi_int {k : Kd} (hk : KdOf K H x k) (hb : k.isi .int = b) (q : Q (.bl b) H) : uIsi K [x, .ty "int"] H Q := w_isi (c := .int) (by intro z; cases z) rfl hk hb q
theorem w_isi_bool {k : Kd} (hk : KdOf K H x k) (hb : k.isi .bl = b) (q : Q (.bl b) H) : uIsi K [x, .ty "bool"] H Q := w_isi (c := .bl) (by intro z; cases z) rfl hk hb q
theorem w_isi_str {k : Kd} (hk : KdOf K H x k) (hb : k.isi .str = b) (q : Q (.bl b) H) : uIsi K [x, .ty "str"] H Q := w_isi (c := .str) (by intro z; cases z) rfl hk hb q
theorem w_isi_list {k : Kd} (hk : KdOf K H x k) (hb : k.isi .lst = b) (q : Q (.bl b) H) : uIsi K [x, .ty "list"] H Q := w_isi (c := .lst) (by intro z; cases z) rfl hk hb q
theorem w_isi_tuple {k : Kd} (hk : KdOf K H x k) (hb : k.isi .tup = b) (q : Q (.bl b) H) : uIsi K [x, .ty "tuple"] H Q := w_isi (c := .tup) (by intro z; cases z) rfl hk hb q
theorem w_isi_dict {k : Kd} (hk : KdOf K H x k) (hb : k.isi .dct = b) (q : Q (.bl b) H) : uIsi K [x, .ty "dict"] H Q := w_isi (c := .dct) (by intro z; cases z) rfl hk hb q
theorem w_toint_bl (q : Q (.int (if b then 1 else 0)) H) : uInt [.bl b] H Q := .inl (.inr ⟨b, rfl, q⟩)
theorem w_toint_int (q : Q (.int i) H) : uInt [.int i] H Q := .inl (.inl ⟨i, rfl, q⟩)
theorem w_lenL {p : Addr} {xs : List V} (h : SqL K H p xs) (q : Q (.int (xs.length : Int)) H) : uLen K [.ref p] H Q := .inl ⟨.ref p, xs.length, rfl, .inl ⟨xs, h, rfl⟩, q⟩
theorem w_lenT {p : Addr} {xs : List V} (h : SqT K H p xs) (q : Q (.int (xs.length : Int)) H) : uLen K [.ref p] H Q := .inl ⟨.ref p, xs.length, rfl, .inr ⟨xs, h, rfl⟩, q⟩
theorem w_lenS {x : Str} (h : x.length ≤ sizeLine) (q : Q (.int (x.length : Int)) H) : uLen K [.str x] H Q := .inl ⟨.str x, x.length, rfl, ⟨h, rfl⟩, q⟩
theorem w_max2 (q : Q (.int (if j > i then j else i)) H) : uMax K [.int i, .int j] H Q := .inl ⟨i, j, rfl, q⟩
theorem w_min2 (q : Q (.int (if j < i then j else i)) H) : uMin K [.int i, .int j] H Q := .inl ⟨i, j, rfl, q⟩
theorem w_listL {p : Addr} {xs : List V} (h : SqL K H p xs) (q : ∀ l H2, H l = none → Ex H H2 → H2 l = some (.lst xs) → Q (.ref l) H2) : uList K [.ref p] H Q := ⟨p, xs, rfl, .inl h, fun l hl => q l _ hl (Ex.new hl) upd_same⟩
theorem w_listT {p : Addr} {xs : List V} (h : SqT K H p xs) (q : ∀ l H2, H l = none → Ex H H2 → H2 l = some (.lst xs) → Q (.ref l) H2) : uList K [.ref p] H Q := ⟨p, xs, rfl, .inr h, fun l hl => q l _ hl (Ex.new hl) upd_same⟩
theorem w_slL {p : Addr} {xs : List V} {lo hi : Option Int} (h : SqL K H p xs) (q : ∀ l H2, H l = none → Ex H H2 → H2 l = some (.lst (cutV xs lo hi)) → Q (.ref l) H2) : uSl K (.ref p) lo hi H Q := ⟨p, xs, rfl, h, fun l hl => q l _ hl (Ex.new hl) upd_same⟩
/-! ### a list changed at its place -/
theorem w_gsub {to ti : TE} {t : TSet} (q : to σ H fun o H1 => ti σ H1 fun i H2 => t o i v H2 fun H3 => R σ H3) : gSub to ti t v σ H R := q
/-- the list at p is another one now, all else is as it was -/
structure PutL (p : Addr) (xs ys : List V) (H H2 : Hp) : Prop where
  was : H p = some (.lst xs)
  now : H2 p = some (.lst ys)
  oth : ∀ a, a ≠ p → H2 a = H a
theorem putL {p : Addr} {xs ys : List V} (h : H p = some (.lst xs)) : PutL p xs ys H (upd H p (.lst ys)) := ⟨h, upd_same, fun _ hn => upd_ne hn⟩
theorem w_set {QH : Hp → Prop} {p : Addr} {xs ys : List V} {m : Nat} (h : H p = some (.lst xs)) (hm : ixN xs.length i = some m) (hs : xs.set m v = ys) (q : ∀ H2, PutL p xs ys H H2 → QH H2) : rSetL (.ref p) (.int i) v H QH := by
  subst hs
  exact ⟨p, xs, i, m, rfl, rfl, h, hm, q _ (putL h)⟩
theorem w_bm {T : String} {r : V → List V → Hp → VK → Prop} {to : TE} {t : TA} (q : to σ H fun x H1 => tyV K T x H1 ∧ t σ H1 fun xs H2 => r x xs H2 Q) : tBM K T r to t σ H Q := q
theorem w_bm0 {T : String} {r : V → List V → Hp → VK → Prop} {to : TE} (q : to σ H fun x H1 => tyV K T x H1 ∧ r x [] H1 Q) : tBM0 K T r to σ H Q := q
theorem ty_lst {p : Addr} {xs : List V} (h : H p = some (.lst xs)) : tyV K "list" (.ref p) H := .inl ⟨rfl, _, SqL.of h⟩
theorem w_tyl {p : Addr} {xs : List V} {B : Prop} (h : H p = some (.lst xs)) (q : B) : tyV K "list" (.ref p) H ∧ B := ⟨ty_lst h, q⟩
theorem w_append {p : Addr} {xs ys : List V} (h : H p = some (.lst xs)) (hl : xs.length < 1000000) (hs : xs ++ [v] = ys) (q : ∀ H2, PutL p xs ys H H2 → Q .non H2) : rAppend (.ref p) [v] H Q := by
  subst hs
  exact ⟨p, xs, v, rfl, rfl, h, Nat.lt_of_lt_of_le hl (by decide), q _ (putL h)⟩
theorem w_extend {p a : Addr} {xs ys zs : List V} (h : H p = some (.lst xs)) (h2 : H a = some (.lst ys)) (hl : xs.length + ys.length ≤ 1000000) (hs : xs ++ ys = zs) (q : ∀ H2, PutL p xs zs H H2 → Q .non H2) : rExtend (.ref p) [.ref a] H Q := by
  subst hs
  exact ⟨p, a, xs, ys, rfl, rfl, h, h2, Nat.le_trans hl (by decide), q _ (putL h)⟩
theorem w_clear {p : Addr} {xs : List V} (h : H p = some (.lst xs)) (q : ∀ H2, PutL p xs [] H H2 → Q .non H2) : rClear (.ref p) [] H Q := ⟨p, xs, rfl, rfl, h, q _ (putL h)⟩
/-! ### tuples stay whatever is done to lists -/
def ExT (H H' : Hp) : Prop := ∀ a xs, H a = some (.tup xs) → H' a = some (.tup xs)
theorem exT_of {H H' : Hp} (e : Ex H H') : ExT H H' := fun a xs h => e a _ h
theorem exT_put {p : Addr} {xs ys : List V} (h : H p = some (.lst xs)) : ExT H (upd H p (.lst ys)) := fun a zs ha => by
  rw [upd_ne (ne_of ha h (by intro z; cases z))]; exact ha
theorem ex_put {H0 : Hp} {p : Addr} {o : HO} (e : Ex H0 H) (h : H0 p = none) : Ex H0 (upd H p o) := Ex.mut e h
theorem PutL.exT {p : Addr} {xs ys : List V} {H2 : Hp} (u : PutL p xs ys H H2) : ExT H H2 := fun a zs ha => by
  rw [u.oth a (ne_of ha u.was (by intro z; cases z))]; exact ha
theorem PutL.ex {H0 : Hp} {p : Addr} {xs ys : List V} {H2 : Hp} (u : PutL p xs ys H H2) (e : Ex H0 H) (n : H0 p = none) : Ex H0 H2 := fun a o ha => by
  rw [u.oth a (ne_of_none ha n)]; exact e a o ha
theorem PutL.at {p : Addr} {xs ys : List V} {H2 : Hp} {a : Addr} {o : HO} (u : PutL p xs ys H H2) (hn : a ≠ p) (h : H a = some o) : H2 a = some o := by rw [u.oth a hn]; exact h
theorem exT_t {K : PySem.W.Frag} {H H' : Hp} {a : Addr} {xs : List V} (e : ExT H H') (h : H a = some (.tup xs)) : H' a = some (.tup xs) := e a xs h
/-- all but p stays -/
def ExB (p : Addr) (H H' : Hp) : Prop := ∀ a o, a ≠ p → H a = some o → H' a = some o
theorem exB_of {H H' : Hp} {p : Addr} (e : Ex H H') : ExB p H H' := fun a o _ h => e a o h
theorem exB_put {H : Hp} {p : Addr} {o : HO} : ExB p H (upd H p o) := fun a u hn h => by rw [upd_ne hn]; exact h
theorem PutL.exB {p : Addr} {xs ys : List V} {H2 : Hp} (u : PutL p xs ys H H2) : ExB p H H2 := fun a o hn h => u.at hn h
theorem ExB.trans {p : Addr} {H1 H2 : Hp} (e : ExB p H H1) (f : ExB p H1 H2) : ExB p H H2 := fun a o hn h => f a o hn (e a o hn h)
theorem ExB.refl (p : Addr) (H : Hp) : ExB p H H := fun _ _ _ h => h
theorem ExB.hid {p : Addr} {H1 : Hp} {o : HO} (e : ExB p H H1) (h : H p = some o) : Ex H (upd H1 p o) := fun a u ha => by
  by_cases hn : a = p
  · subst hn; rw [upd_same]; rw [h] at ha; exact ha
  · rw [upd_ne hn]; exact e a u hn ha
end
/-! ### things: whole numbers, and all else -/
inductive ThOf (K : PySem.W.Frag) (H : Hp) : V → Option Int → Prop where
  | int (i : Int) : ThOf K H (.int i) (some i)
  | oth {v : V} {k : Kd} (h : KdOf K H v k) (hn : k ≠ .int) : ThOf K H v none
theorem ThOf.mono {K : PySem.W.Frag} {H H' : Hp} {v : V} {t : Option Int} (e : Ex H H') (h : ThOf K H v t) : ThOf K H' v t := by
  cases h with
  | int i => exact .int i
  | oth h hn => exact .oth (h.mono e) hn
def keyB : Option Int → Bool
  | some i => decide (0 ≤ i ∧ i ≤ 999999999999)
  | none => false
def wholeB (t : Option Int) (lo hi : Int) : Bool := match t with
  | some i => decide (lo ≤ i ∧ i ≤ hi)
  | none => false
def stretchB : Option Int → Option Int → Bool
  | some i, some j => decide (0 ≤ i ∧ i < j ∧ j ≤ 1000000000000)
  | _, _ => false
/-! ### the laws' wells -/
def Well3 (xs : List V) : Prop := ∃ a b c : Int, xs = [.int a, .int b, .int c]
def Well1 (xs : List V) : Prop := (∃ a : Int, xs = [.int a]) ∨ Well3 xs
abbrev WellAt (H : Hp) (p : Addr) : Prop := H p = some (Hid p Well3)
abbrev Well1At (H : Hp) (p : Addr) : Prop := H p = some (Hid p Well1)
end Ny

set_option Elab.async false
set_option linter.all false
set_option maxRecDepth 100000
set_option maxHeartbeats 4000000
namespace Ny
open PySem PySem.Spec PyProof.Rows L2 Evl
section
variable {K : PySem.W.Frag} {σ σ' : L2.St} {H : Hp} {D : Ends} {Q : VK} {R : It → Hp → Prop} {x y v : V} {i j : Int} {n : Nat} {g : TG} {tb : TS}
/-! ### loops -/
def ForB (J : It) (g : TG) (tb : TS) (D : Ends) (σ : L2.St) (H : Hp) : Prop := ∃ W : Nat → Nat → L2.St → Hp → Prop, (∃ m, W 0 m σ H) ∧ ∀ i m σ H, W i m σ H →
  (J.stop i H ∧ D.nx σ H) ∨ (J.go i H ∧ ∃ N : L2.St → Hp → Prop, (∀ σ' H', N σ' H' → ∃ m', m' < m ∧ W (i + 1) m' σ' H') ∧ ∀ x H', J.yld i H x H' → g x σ H' fun σ2 H2 => tb { D with nx := N, ct := N, bk := D.nx } σ2 H2)
theorem w_for {wi : TI} (q : wi σ H fun J H1 => ForB J g tb D σ H1) : tFor wi g tb D σ H := q
def kIl (K : PySem.W.Frag) (R : It → Hp → Prop) : VK := fun x H1 => ∃ a, x = .ref a ∧ (∃ xs, SqL K H1 a xs) ∧ R (Itl K a) H1
theorem w_ilist {tl : TE} (q : tl σ H (kIl K R)) : iList K tl σ H R := q
theorem w_kIl {a : Addr} {xs : List V} (h : SqL K H a xs) (q : R (Itl K a) H) : kIl K R (.ref a) H := ⟨a, rfl, ⟨xs, h⟩, q⟩
def kR1 (R : It → Hp → Prop) : List V → Hp → Prop := fun vs H1 => ∃ j : Int, vs = [.int j] ∧ -(2 ^ 62) ≤ j ∧ j < 2 ^ 62 ∧ R (Itr 0 j.toNat) H1
theorem w_irng1 {ta : TA} (q : ta σ H (kR1 R)) : iRng1 ta σ H R := q
theorem w_kR1 (h1 : -(2 ^ 62) ≤ j) (h2 : j < 2 ^ 62) (q : R (Itr 0 j.toNat) H) : kR1 R [.int j] H := ⟨j, rfl, h1, h2, q⟩
def kR2 (R : It → Hp → Prop) : List V → Hp → Prop := fun vs H1 => ∃ i j : Int, vs = [.int i, .int j] ∧ (-(2 ^ 62) ≤ i ∧ i < 2 ^ 62 ∧ -(2 ^ 62) ≤ j ∧ j < 2 ^ 62) ∧ R (Itr i (j - i).toNat) H1
theorem w_irng2 {ta : TA} (q : ta σ H (kR2 R)) : iRng2 ta σ H R := q
theorem w_kR2 (h1 : -(2 ^ 62) ≤ i ∧ i < 2 ^ 62 ∧ -(2 ^ 62) ≤ j ∧ j < 2 ^ 62) (q : R (Itr i (j - i).toNat) H) : kR2 R [.int i, .int j] H := ⟨i, j, rfl, h1, q⟩
theorem w_forL {a : Addr} {xs : List V} (Pv : Nat → L2.St → Hp → Prop) (h0 : Pv 0 σ H) (hl : ∀ i σ H, i ≤ xs.length → Pv i σ H → SqL K H a xs)
    (hs : ∀ i x σ H, xs[i]? = some x → Pv i σ H → g x σ H fun σ2 H2 => tb { D with nx := Pv (i + 1), ct := Pv (i + 1), bk := D.nx } σ2 H2) (hd : ∀ σ H, Pv xs.length σ H → D.nx σ H) : ForB (Itl K a) g tb D σ H := for_list Pv h0 hl hs hd
theorem w_forR {lo : Int} (Pv : Nat → L2.St → Hp → Prop) (h0 : Pv 0 σ H)
    (hs : ∀ i σ H, i < n → Pv i σ H → g (.int (lo + i)) σ H fun σ2 H2 => tb { D with nx := Pv (i + 1), ct := Pv (i + 1), bk := D.nx } σ2 H2) (hd : ∀ σ H, Pv n σ H → D.nx σ H) : ForB (Itr lo n) g tb D σ H := for_range Pv h0 hs hd
/-! ### an empty dict -/
theorem w_dnew (q : ∀ p H2, H p = none → Ex H H2 → H2 p = some (.dK []) → Q (.ref p) H2) : tDNewK σ H Q := fun p hp => q p _ hp (Ex.new hp) upd_same
/-! ### a new list, hidden at once -/
def mkH (Pw : List V → Prop) (xs : List V) (H1 : Hp) (Q : VK) : Prop := xs.length ≤ sizeLine ∧ ∀ p, H1 p = none → ∃ a ys, V.ref p = .ref a ∧ upd H1 p (.lst xs) a = some (.lst ys) ∧ Pw ys ∧ Q (.ref p) (upd (upd H1 p (.lst xs)) a (Hid a Pw))
theorem w_hidL {Pw : List V → Prop} {t : TA} (q : t σ H fun xs H1 => mkH Pw xs H1 Q) : tHid Pw (tLst t) σ H Q := q
theorem w_mkH {Pw : List V → Prop} {xs : List V} (hl : xs.length ≤ 1000000) (hp : Pw xs) (q : ∀ p H2, H p = none → Ex H H2 → H2 p = some (Hid p Pw) → Q (.ref p) H2) : mkH Pw xs H Q :=
  ⟨Nat.le_trans hl (by decide), fun p hn => ⟨p, xs, rfl, upd_same, hp, by rw [upd_upd]; exact q p _ hn (Ex.new hn) upd_same⟩⟩
end
/-- what a law asks: the script is a list of at most 63 ints; the answer is True -/
def spLaw (K : PySem.W.Frag) : Sp := fun vs H Q _ => ∃ (a : Addr) (ns : List Int), vs = [.ref a] ∧ SqL K H a (ns.map V.int) ∧ ns.length ≤ 63 ∧ ∀ H', Q (.bl true) H'
theorem spLaw_len {K : PySem.W.Frag} {vs : List V} {H : Hp} {Q : VK} {E : XK} (h : spLaw K vs H Q E) : vs.length = 1 := by
  obtain ⟨_, _, rfl, _⟩ := h; rfl
theorem ints_at {ns : List Int} {i : Nat} {x : V} (h : (ns.map V.int)[i]? = some x) : ∃ z, x = .int z ∧ ns[i]? = some z := by
  rw [List.getElem?_map] at h
  cases e : ns[i]? with
  | none => rw [e] at h; cases h
  | some z => rw [e] at h; exact ⟨z, (Option.some.inj h).symm, rfl⟩
def cutI (ns : List Int) (lo hi : Option Int) : List Int := (ns.drop (HT.sIx ns.length 0 lo)).take (HT.sIx ns.length ns.length hi - HT.sIx ns.length 0 lo)
theorem cut_ints (ns : List Int) (lo hi : Option Int) : cutV (ns.map V.int) lo hi = (cutI ns lo hi).map V.int := by
  unfold cutV cutI
  rw [List.length_map, List.map_take, List.map_drop]
theorem cutI_len (ns : List Int) (lo hi : Option Int) : (cutI ns lo hi).length ≤ ns.length := by
  unfold cutI
  rw [List.length_take, List.length_drop]
  omega
end Ny

set_option Elab.async false
set_option linter.all false
set_option maxRecDepth 100000
set_option maxHeartbeats 4000000
namespace Ny
open PySem PySem.Spec PyProof.Rows L2 Evl
/-! ### steps that ask nothing of the heap, found by their shape -/
class Step (G : Prop) (G' : outParam Prop) : Prop where
  go : G' → G
class Look (σ : L2.St) (i : Nat) (v : outParam V) : Prop where
  eq : σ[i]? = some (some v)
class Put (σ : L2.St) (i : Nat) (v : V) (σ' : outParam L2.St) : Prop where
  eq : σ.set i (some v) = σ'
instance {v : V} {l : L2.St} : Look (some v :: l) 0 v := ⟨rfl⟩
instance {v : V} {x : Option V} {l : L2.St} {n : Nat} [h : Look l n v] : Look (x :: l) (n + 1) v := ⟨by simpa using h.eq⟩
instance {v : V} {x : Option V} {l : L2.St} : Put (x :: l) 0 v (some v :: l) := ⟨rfl⟩
instance {v : V} {x : Option V} {l l' : L2.St} {n : Nat} [h : Put l n v l'] : Put (x :: l) (n + 1) v (x :: l') := ⟨by rw [List.set_cons_succ, h.eq]⟩
section
variable {K : PySem.W.Frag} {σ σ' : L2.St} {H : Hp} {D : Ends} {Q : VK} {R : L2.St → Hp → Prop} {x y v : V} {b : Bool} {A B : Prop} {i j : Int} {n : Nat}
instance {t u : TS} : Step (tSeq t u D σ H) (t { D with nx := u D } σ H) := ⟨id⟩
instance : Step (tNext D σ H) (D.nx σ H) := ⟨id⟩
instance : Step (tBreak D σ H) (D.bk σ H) := ⟨id⟩
instance : Step (tCont D σ H) (D.ct σ H) := ⟨id⟩
instance {te : TE} {g : TG} : Step (tAsg te g D σ H) (te σ H (fun x H1 => g x σ H1 D.nx)) := ⟨id⟩
instance {k : Nat} [h : Put σ k v σ'] : Step (gName k v σ H R) (R σ' H) := ⟨fun q => by show R (σ.set k (some v)) H; rw [h.eq]; exact q⟩
instance {te : TE} : Step (tDrop te D σ H) (te σ H (fun _ H1 => D.nx σ H1)) := ⟨id⟩
instance {te : TE} : Step (tRet te D σ H) (te σ H D.rt) := ⟨id⟩
instance : Step (tRetN D σ H) (D.rt .non H) := ⟨id⟩
instance {c : TT} {t u : TS} : Step (tIfS c t u D σ H) (c σ H fun b H1 => if b = true then t D σ H1 else u D σ H1) := ⟨id⟩
instance {t : TG} {u : TGs} {r : List V} : Step (gCons t u (v :: r) σ H R) (t v σ H fun σ' H' => u r σ' H' R) := ⟨w_gcons⟩
instance : Step (gNil [] σ H R) (R σ H) := ⟨w_gnil⟩
instance {t : TG} {u : TGs} {l r : List V} : Step (gCons t u ((v :: l) ++ r) σ H R) (t v σ H fun σ' H' => u (l ++ r) σ' H' R) := ⟨w_gcons⟩
instance {t : TG} {u : TGs} {r : List V} : Step (gCons t u ([] ++ (v :: r)) σ H R) (t v σ H fun σ' H' => u r σ' H' R) := ⟨w_gcons⟩
instance {k : Nat} [h : Look σ k v] : Step (tVar k σ H Q) (Q v H) := ⟨w_var h.eq⟩
instance : Step (tC v σ H Q) (Q v H) := ⟨id⟩
instance {r : R2} {ta tb : TE} : Step (tOp r ta tb σ H Q) (ta σ H fun x H1 => tb σ H1 fun y H2 => r x y H2 Q) := ⟨id⟩
instance {r : V → Hp → VK → Prop} {ta : TE} : Step (tUn r ta σ H Q) (ta σ H fun x H1 => r x H1 Q) := ⟨id⟩
instance {QA : List V → Hp → Prop} : Step (tNil σ H QA) (QA [] H) := ⟨id⟩
instance {ta : TE} {tr : TA} {QA : List V → Hp → Prop} : Step (tCons ta tr σ H QA) (ta σ H fun x H1 => tr σ H1 fun xs H2 => QA (x :: xs) H2) := ⟨id⟩
instance {r : List V → Hp → VK → Prop} {t : TA} : Step (tCB r t σ H Q) (t σ H fun vs H1 => r vs H1 Q) := ⟨id⟩
instance {sp : Sp} {E : XK} {t : TA} : Step (tCall sp [] E t σ H Q) (t σ H fun vs H1 => sp vs H1 Q E) := ⟨w_call⟩
instance {t : TA} : Step (tTup t σ H Q) (t σ H fun xs H1 => mkT xs H1 Q) := ⟨id⟩
instance {t : TA} : Step (tLst t σ H Q) (t σ H fun xs H1 => mkL xs H1 Q) := ⟨id⟩
instance (priority := high) {Pw : List V → Prop} {t : TA} : Step (tHid Pw (tLst t) σ H Q) (t σ H fun xs H1 => mkH Pw xs H1 Q) := ⟨id⟩
instance {t : TT} {ta tb : TE} : Step (tIf t ta tb σ H Q) (t σ H fun c H1 => if c = true then ta σ H1 Q else tb σ H1 Q) := ⟨id⟩
instance {ta tb : TE} : Step (tAndV ta tb σ H Q) (ta σ H fun x H1 => ∃ c, x = .bl c ∧ if c = true then tb σ H1 Q else Q (.bl false) H1) := ⟨id⟩
instance {ta tb : TE} : Step (tOrV ta tb σ H Q) (ta σ H fun x H1 => ∃ c, x = .bl c ∧ if c = true then Q (.bl true) H1 else tb σ H1 Q) := ⟨id⟩
instance {ta : TE} : Step (tNotV ta σ H Q) (ta σ H fun x H1 => ∃ c, x = .bl c ∧ Q (.bl (!c)) H1) := ⟨id⟩
instance {r r' : R2} {ta tb tc : TE} : Step (tChain r r' ta tb tc σ H Q) (ta σ H fun x H1 => tb σ H1 fun y H2 => r x y H2 fun z H3 => ∃ k, z = .bl k ∧ (if k = true then tc σ H3 fun w' H4 => r' y w' H4 Q else Q (.bl false) H3)) := ⟨id⟩
instance {R : Bool → Prop} : Step (∃ c, V.bl b = V.bl c ∧ R c) (R b) := ⟨w_bl⟩
instance {R : Int → Prop} : Step (∃ c, V.int i = V.int c ∧ R c) (R i) := ⟨w_int⟩
instance {r : V → Option Int → Option Int → Hp → VK → Prop} {te : TE} {tl th : TO} : Step (tSl r te tl th σ H Q) (te σ H fun x H1 => tl σ H1 fun l H2 => th σ H2 fun u H3 => r x l u H3 Q) := ⟨id⟩
instance {t : TE} {QO : Option Int → Hp → Prop} : Step (tPart t σ H QO) (t σ H fun x H1 => ∃ i, x = .int i ∧ QO (some i) H1) := ⟨id⟩
instance {QO : Option Int → Hp → Prop} : Step (tNoPart σ H QO) (QO none H) := ⟨id⟩
section
variable {QB : Bool → Hp → Prop}
def kTr (K : PySem.W.Frag) (QB : Bool → Hp → Prop) : VK := fun x H' => ∃ k, TruW K x H' k ∧ QB k H'
def kB (QB : Bool → Hp → Prop) : VK := fun x H' => ∃ k, x = .bl k ∧ QB k H'
instance {t : TE} : Step (tTest t σ H QB) (t σ H (kB QB)) := ⟨id⟩
instance {t : TE} : Step (tB t σ H QB) (t σ H (kB QB)) := ⟨id⟩
instance {t : TE} : Step (tTr K t σ H QB) (t σ H (kTr K QB)) := ⟨id⟩
instance {t u : TT} : Step (tAnd t u σ H QB) (t σ H fun c H1 => if c = true then u σ H1 QB else QB false H1) := ⟨id⟩
instance {t u : TT} : Step (tOr t u σ H QB) (t σ H fun c H1 => if c = true then QB true H1 else u σ H1 QB) := ⟨id⟩
instance {t : TT} : Step (tNot t σ H QB) (t σ H fun c H1 => QB (!c) H1) := ⟨id⟩
instance : Step (kTr K QB (.bl b) H) (QB b H) := ⟨w_tr_bl⟩
instance : Step (kTr K QB .non H) (QB false H) := ⟨w_tr_non⟩
instance : Step (kTr K QB (.int i) H) (QB (i != 0) H) := ⟨fun q => ⟨_, .inl rfl, q⟩⟩
instance : Step (kB QB (.bl b) H) (QB b H) := ⟨fun q => ⟨b, rfl, q⟩⟩
theorem w_ktrL {a : Addr} {xs : List V} (h : SqL K H a xs) (q : QB (!xs.isEmpty) H) : kTr K QB (.ref a) H := w_tr_lst h q
theorem w_ktrT {a : Addr} {xs : List V} (h : SqT K H a xs) (q : QB (!xs.isEmpty) H) : kTr K QB (.ref a) H := w_tr_tup h q
end
instance {α : Type} {a : α} : Step (if (some a).isSome = true then A else B) A := ⟨iteT⟩
instance {α : Type} : Step (if (none : Option α).isSome = true then A else B) B := ⟨iteF⟩
instance {α : Type} {a : α} : Step (if (some a).isNone = true then A else B) B := ⟨iteF⟩
instance {α : Type} : Step (if (none : Option α).isNone = true then A else B) A := ⟨iteT⟩
instance : Step (if true = true then A else B) A := ⟨iteT⟩
instance : Step (if false = true then A else B) B := ⟨iteF⟩
instance {a b : Bool} : Step (if (a && b) = true then A else B) (if a = true then (if b = true then A else B) else B) := ⟨fun q => by cases a <;> cases b <;> exact q⟩
instance {a b : Bool} : Step (if (a || b) = true then A else B) (if a = true then A else (if b = true then A else B)) := ⟨fun q => by cases a <;> cases b <;> exact q⟩
instance : Step (if (!b) = true then A else B) (if b = true then B else A) := ⟨w_itn⟩
instance : Step (uSub (.int i) (.int j) H Q) (Q (.int (i - j)) H) := ⟨w_sub⟩
instance : Step (uLt (.int i) (.int j) H Q) (Q (.bl (decide (i < j))) H) := ⟨w_lt⟩
instance : Step (uLe (.int i) (.int j) H Q) (Q (.bl (decide (i ≤ j))) H) := ⟨w_le⟩
instance : Step (uGt (.int i) (.int j) H Q) (Q (.bl (decide (j < i))) H) := ⟨w_gt⟩
instance : Step (uGe (.int i) (.int j) H Q) (Q (.bl (decide (j ≤ i))) H) := ⟨w_ge⟩
instance : Step (uNeg (.int i) H Q) (Q (.int (-i)) H) := ⟨w_neg⟩
instance : Step (uAdd K (.int i) (.int j) H Q) (Q (.int (i + j)) H) := ⟨w_add⟩
instance : Step (uIs .non .non H Q) (Q (.bl true) H) := ⟨w_is_non⟩
instance : Step (uIs (.bl b) .non H Q) (Q (.bl false) H) := ⟨w_is_bl⟩
instance : Step (uIs (.int i) .non H Q) (Q (.bl false) H) := ⟨w_is_int⟩
instance {x : Str} : Step (uIs (.str x) .non H Q) (Q (.bl false) H) := ⟨w_is_str⟩
instance {a : Addr} : Step (uIs (.ref a) .non H Q) (Q (.bl false) H) := ⟨w_is_ref⟩
instance : Step (uIsN .non .non H Q) (Q (.bl false) H) := ⟨w_isn_non⟩
instance : Step (uIsN (.bl b) .non H Q) (Q (.bl true) H) := ⟨w_isn_bl⟩
instance : Step (uIsN (.int i) .non H Q) (Q (.bl true) H) := ⟨w_isn_int⟩
instance {x : Str} : Step (uIsN (.str x) .non H Q) (Q (.bl true) H) := ⟨w_isn_str⟩
instance {a : Addr} : Step (uIsN (.ref a) .non H Q) (Q (.bl true) H) := ⟨w_isn_ref⟩
instance : Step (uEq K (.int i) (.int j) H Q) (Q (.bl (decide (i = j))) H) := ⟨w_eq_int⟩
instance {x y : Str} : Step (uEq K (.str x) (.str y) H Q) (Q (.bl (decide (x = y))) H) := ⟨w_eq_str⟩
instance {x y : Bool} : Step (uEq K (.bl x) (.bl y) H Q) (Q (.bl (decide (x = y))) H) := ⟨w_eq_bl⟩
instance : Step (uNe K (.int i) (.int j) H Q) (Q (.bl (!decide (i = j))) H) := ⟨w_ne_int⟩
instance {x y : Str} : Step (uNe K (.str x) (.str y) H Q) (Q (.bl (!decide (x = y))) H) := ⟨w_ne_str⟩
instance {x y : Bool} : Step (uNe K (.bl x) (.bl y) H Q) (Q (.bl (!decide (x = y))) H) := ⟨w_ne_bl⟩
instance : Step (uInt [.int i] H Q) (Q (.int i) H) := ⟨w_toint_int⟩
instance : Step (uInt [.bl b] H Q) (Q (.int (if b then 1 else 0)) H) := ⟨w_toint_bl⟩
instance : Step (uMax K [.int i, .int j] H Q) (Q (.int (if j > i then j else i)) H) := ⟨w_max2⟩
instance : Step (uMin K [.int i, .int j] H Q) (Q (.int (if j < i then j else i)) H) := ⟨w_min2⟩
instance {to ti : TE} {t : TSet} : Step (gSub to ti t v σ H R) (to σ H fun o H1 => ti σ H1 fun i H2 => t o i v H2 fun H3 => R σ H3) := ⟨id⟩
instance {T : String} {r : V → List V → Hp → VK → Prop} {to : TE} {t : TA} : Step (tBM K T r to t σ H Q) (to σ H fun x H1 => tyV K T x H1 ∧ t σ H1 fun xs H2 => r x xs H2 Q) := ⟨id⟩
instance {T : String} {r : V → List V → Hp → VK → Prop} {to : TE} : Step (tBM0 K T r to σ H Q) (to σ H fun x H1 => tyV K T x H1 ∧ r x [] H1 Q) := ⟨id⟩
instance {wi : TI} {g : TG} {tb : TS} : Step (tFor wi g tb D σ H) (wi σ H fun J H1 => ForB J g tb D σ H1) := ⟨id⟩
instance {tl : TE} {R : It → Hp → Prop} : Step (iList K tl σ H R) (tl σ H (kIl K R)) := ⟨id⟩
instance {ta : TA} {R : It → Hp → Prop} : Step (iRng1 ta σ H R) (ta σ H (kR1 R)) := ⟨id⟩
instance {ta : TA} {R : It → Hp → Prop} : Step (iRng2 ta σ H R) (ta σ H (kR2 R)) := ⟨id⟩
end
end Ny

set_option Elab.async false
set_option linter.all false
set_option maxRecDepth 100000
set_option maxHeartbeats 4000000
namespace Ny
open PySem PySem.Spec PySem.W PySem.Calls PyProof.Rows
/-! ### a, *rest = t -/
section
variable {prog : Program} {w : World} {A : Around} {E : Value → Shared → Prop} {s : Shared}
theorem star_items {t : Addr} {its : Array Value} {i : Nat} {Q : List Value → Shared → Prop} (ht : IsTup s.heap t its) (hh : A.handled = none) (hi : i ≤ its.size) (hz : its.size ≤ sizeLine)
    (k : ∀ (h' : Heap) (tk : Nat) (p : Addr), (∀ b o, s.heap.get? b = some o → h'.get? b = some o) → s.heap.get? p = none → h'.get? p = some { cls := .type "list", data := .seq (its.toList.drop i).toArray } →
      Q (its.toList.take i ++ [.ref p]) { s with heap := h', toks := tk }) : wpAny (model prog w) A (unpackItems (.ref t) (i + 1) (some i)) Q E s := by
  have hne : t ≠ s.heap.objs.size := Nat.ne_of_lt ht.lt
  unfold unpackItems notIterableAtAll
  refine wpAny_bind (wpAny_bind (wpAny_specialOf ht.typeIs slot_tuple_iter.lookup (wpAny_pure ?_)))
  rw [if_neg (by simp)]
  refine wpAny_bind (wpAny_holding (iter_tuple ht ?_))
  refine wpAny_bind (wpAny_holding (draw_tuple hne i 0 _ _ ⟨_, Heap.get?_push_size _ rfl, rfl, rfl⟩ (ht.push _) (by omega) fun ha hit hsame => ?_))
  have ht1 : IsTup ha t its := (ht.push _).extBut hsame.extBut hne
  rw [Nat.zero_add] at hit
  rw [List.drop_zero]
  have len1 : (its.toList.take i).length = i := by
    rw [List.length_take, Array.length_toList]
    omega
  rw [if_neg (by rw [len1]; omega)]
  obtain ⟨oi, hoi, _⟩ := id hit
  have hsz : its.size ≤ sizeLine := hz
  refine wpAny_bind (wpAny_holding (kun_collect (s := { s with heap := ha }) (T := "tuple_iterator") (.inr (.inr (.inr rfl))) (Walks.tuple (A := A.in1) hh s.heap.objs.size t hne its) (fun j u st => st.1.typeIs) (k := i) hi ⟨hit, ht1⟩ (Heap.lt_size hoi) ht1.lt (fun hb tk keep => ?_) hsz))
  have len2 : (its.toList.drop i).length = its.size - i := by rw [List.length_drop, Array.length_toList]
  have zero : i + 1 - 1 - i = 0 := by omega
  rw [zero]
  rw [if_neg (by omega)]
  have old : ∀ b o, s.heap.get? b = some o → hb.get? b = some o := fun b o e => keep b o (Nat.ne_of_lt (Heap.lt_size e)) (hsame.extBut b o (Nat.ne_of_lt (Heap.lt_size e)) (Heap.get?_push_of_some _ e))
  refine wpAny_bind (wpAny_newList ?_ (by rw [List.length_take, len2]; omega))
  refine wpAny_pure ?_
  have e1 : (its.toList.drop i).length - 0 = (its.toList.drop i).length := by omega
  rw [e1, List.take_length, List.drop_length, List.append_nil]
  refine k _ tk hb.objs.size (fun b o e => Heap.get?_push_of_some _ (old b o e)) ?_ (Heap.get?_push_size _ rfl)
  cases q : s.heap.get? hb.objs.size with
  | none => rfl
  | some o => exact absurd (Heap.lt_size (old _ o q)) (Nat.lt_irrefl _)
end
end Ny
namespace Ny
open PySem PySem.Spec PyProof.Rows L2 Evl
theorem objOk_get {P : Program} {w : World} {H : Hp} {h : Heap} {a : Addr} {o : HO} (x : ObjOk P w H h a o) : ∃ ob, h.get? a = some ob := by
  cases o with
  | lst xs => obtain ⟨_, _, _, _, e⟩ := x; exact ⟨_, e⟩
  | tup xs => obtain ⟨_, _, _, ob, e, _⟩ := x; exact ⟨_, e⟩
  | dK kvs => obtain ⟨_, _, _, _, ob, _, _, e, _⟩ := x; exact ⟨_, e⟩
  | dT kvs => obtain ⟨_, _, _, _, ob, _, _, e, _⟩ := x; exact ⟨_, e⟩
  | set S n => obtain ⟨ob, _, _, _, e, _⟩ := x; exact ⟨_, e⟩
  | ins C dx fs => obtain ⟨_, _, _, e, _⟩ := x; exact ⟨_, e⟩
  | own y => obtain ⟨_, e⟩ := x; exact ⟨_, e⟩
  | xd fs => obtain ⟨_, ⟨_, _, _, e, _⟩, _⟩ := x; exact ⟨_, e⟩
  | rng lo hi => obtain ⟨_, _, _, e⟩ := x; exact ⟨_, e⟩
  | frz ob u => obtain ⟨e, _⟩ := x; exact ⟨_, e⟩
  | tbl ps => exact ⟨_, (show h.get? a = some _ from x)⟩
  | met f y => exact ⟨_, (show h.get? a = some _ from x)⟩
  | ext φ => obtain ⟨_, ⟨_, e⟩, _⟩ := x; exact ⟨_, e⟩
section
variable {X : Cx} {pins : List (Addr × Obj)} {σ : L2.St} {H : Hp} {s : Shared}
theorem inv_laid {h' : Heap} {a : Addr} {o : HO} {t' : Nat} (I : Inv X pins σ H s) (k : ∀ b u, s.heap.get? b = some u → h'.get? b = some u) (hp : s.heap.get? a = none) (hn : H a = none) (new : ObjOk X.prog X.w (upd H a o) h' a o) :
    Inv X pins σ (upd H a o) { s with heap := h', toks := t' } := by
  refine I.un ⟨fun b u q _ _ _ => k b u q, fun b u q _ _ _ => ⟨u.slots, k b u q⟩, fun b u q n _ => ?_, fun b u q _ => ⟨u, k b u q⟩, fun b xs q => ?_, fun b u xs q => ?_, fun b ps q => ⟨#[], ?_⟩⟩ (fun b u e => ?_)
  · rw [upd_ne]
    · exact n
    · intro z
      subst z
      rw [hp] at q
      cases q
  · rw [upd_ne (ne_of_none q hn)]; exact q
  · rw [upd_ne (ne_of_none q hn)]; exact q
  · rw [upd_ne (ne_of_none q hn), q]; simp
  · by_cases hb : b = a
    · subst hb
      rw [upd_same] at e
      cases e
      exact new
    · rw [upd_ne hb] at e
      exact (I.hok b u e).stay (fun c v _ q => k c v q) (fun c q => by rw [upd_ne (ne_of_none q hn)]; exact q) fun c xs q => by rw [upd_ne (ne_of_none q hn)]; exact q
def gStar (K : PySem.W.Frag) (n : Nat) (t : TGs) : TG := fun v σ H Q => ∃ a xs, v = .ref a ∧ SqT K H a xs ∧ n ≤ xs.length ∧ ∀ p, H p = none → t (xs.take n ++ [.ref p]) σ (upd H p (.lst (xs.drop n))) Q
theorem pg_tupZ {es : List Expr} {k : Nat} {t : TGs} {n : Nat} {pos : Pos} (hc : X.calm = true) (h : PGs X es t)
    (hn : (assignEach es X.env).length = n + 1 := by rfl) (hst : (assignEach es X.env).findIdx? (·.1) = some n := by rfl) : PG X (.Tuple es k pos) (gStar X.K n t) := by
  refine ⟨fun pins s σ H v u Q I r hw => ?_⟩
  obtain ⟨a, xs, rfl, hq, hl, hw⟩ := hw
  cases r
  obtain ⟨its, rv, ht, hz⟩ := I.tuple hq
  rw [assign_Tuple]
  refine wpAny_bind (wpAny_standAt ?_)
  unfold unpack
  rw [hn, hst]
  have hl2 : n ≤ its.toArray.size := by rw [List.size_toArray, ← rv.length]; exact hl
  refine wpAny_bind (wpAny_holding (star_items ht (I.ok.hd hc) hl2 (by rw [List.size_toArray, ← rv.length]; exact hz) fun h' tk p old fr ho => ?_))
  have hnone : H p = none := by
    cases q : H p with
    | none => rfl
    | some o =>
      obtain ⟨ob, e⟩ := objOk_get (I.hok p o q)
      rw [fr] at e
      cases e
  have rd : Vals (xs.drop n) (its.drop n) := rv.drop n
  have len3 : (xs.drop n).length ≤ sizeLine := by rw [List.length_drop]; omega
  have I1 := inv_laid (t' := tk) (o := .lst (xs.drop n)) I old fr hnone ⟨len3, its.drop n, _, rd, ho⟩
  refine h.run pins _ σ _ (xs.take n ++ [.ref p]) _ Q I1 ((rv.take n).append (.cons (show RelV (.ref p) (.ref p) from rfl) .nil)) (hw p hnone)
theorem pgs_star {e : Expr} {es : List Expr} {p : Pos} {t : TG} {u : TGs} (h1 : PG X e t) (h2 : PGs X es u)
    (hs : (assignEach (.Starred e p :: es) X.env).map (·.2) = assign e X.env :: (assignEach es X.env).map (·.2) := by rfl) : PGs X (.Starred e p :: es) (gCons t u) := by
  refine ⟨fun pins s σ H vs us Q I r h => ?_⟩
  obtain ⟨v, vr, rfl, h⟩ := h
  cases r with
  | cons r rr =>
    rw [hs]
    exact assignInOrder_cons (thn (h1.run pins s σ H _ _ _ I r h) fun _ s1 ⟨σ1, H1, I1, q1⟩ => h2.run pins s1 σ1 H1 _ _ Q I1 rr q1)
theorem w_gstar {K : PySem.W.Frag} {n : Nat} {t : TGs} {a : Addr} {xs ys zs : List V} {R : L2.St → Hp → Prop} (h : SqT K H a xs) (hl : n ≤ xs.length) (h1 : xs.take n = ys) (h2 : xs.drop n = zs)
    (q : ∀ p H2, H p = none → Ex H H2 → H2 p = some (.lst zs) → t (ys ++ [.ref p]) σ H2 R) : gStar K n t (.ref a) σ H R := by
  subst h1 h2
  exact ⟨a, xs, rfl, h, hl, fun p hp => q p _ hp (Ex.new hp) upd_same⟩
end
end Ny

set_option Elab.async false
set_option linter.all false
set_option maxRecDepth 100000
set_option maxHeartbeats 4000000
namespace Ny
open PySem PySem.Spec PyProof.Rows L2 Evl
/-! ### data: what stands behind a value -/
section
variable {K : PySem.W.Frag} {H H' : Hp} {v : V}
theorem dp_int {i : Int} (h : Dp K H v (.int i)) : v = .int i := by cases h; rfl
theorem dp_str {x : Str} (h : Dp K H v (.str x)) : v = .str x := by cases h; rfl
theorem dp_non (h : Dp K H v .none) : v = .non := by cases h; rfl
theorem dp_bl {b : Bool} (h : Dp K H v (.bool b)) : v = .bl b := by cases h; rfl
theorem dp_tup {ds : List PyData} (h : Dp K H v (.tuple ds)) : ∃ p xs, v = .ref p ∧ SqT K H p xs ∧ DpAll K H xs ds := by
  cases h with
  | tup hs ha => exact ⟨_, _, rfl, hs, ha⟩
theorem dp_lst {ds : List PyData} (h : Dp K H v (.list ds)) : ∃ p xs, v = .ref p ∧ SqL K H p xs ∧ DpAll K H xs ds := by
  cases h with
  | lst hs ha => exact ⟨_, _, rfl, hs, ha⟩
theorem dpAll_len : ∀ {xs : List V} {ds : List PyData}, DpAll K H xs ds → xs.length = ds.length
  | _, _, .nil => rfl
  | _, _, .cons _ t => congrArg Nat.succ (dpAll_len t)
theorem dpAll_nil {xs : List V} (h : DpAll K H xs []) : xs = [] := by cases h; rfl
theorem dpAll_cons {xs : List V} {d : PyData} {ds : List PyData} (h : DpAll K H xs (d :: ds)) : ∃ x ys, xs = x :: ys ∧ Dp K H x d ∧ DpAll K H ys ds := by
  cases h with
  | cons h1 h2 => exact ⟨_, _, rfl, h1, h2⟩
theorem dp_tup0 (h : Dp K H v (.tuple [])) : ∃ p, v = .ref p ∧ SqT K H p [] := by
  obtain ⟨p, xs, rfl, hs, ha⟩ := dp_tup h
  obtain rfl := dpAll_nil ha
  exact ⟨p, rfl, hs⟩
theorem dp_tup1 {a : PyData} (h : Dp K H v (.tuple [a])) : ∃ p x, v = .ref p ∧ SqT K H p [x] ∧ Dp K H x a := by
  obtain ⟨p, xs, rfl, hs, ha⟩ := dp_tup h
  obtain ⟨x, ys, rfl, hx, ha⟩ := dpAll_cons ha
  obtain rfl := dpAll_nil ha
  exact ⟨p, x, rfl, hs, hx⟩
theorem dp_tup2 {a b : PyData} (h : Dp K H v (.tuple [a, b])) : ∃ p x y, v = .ref p ∧ SqT K H p [x, y] ∧ Dp K H x a ∧ Dp K H y b := by
  obtain ⟨p, xs, rfl, hs, ha⟩ := dp_tup h
  obtain ⟨x, ys, rfl, hx, ha⟩ := dpAll_cons ha
  obtain ⟨y, zs, rfl, hy, ha⟩ := dpAll_cons ha
  obtain rfl := dpAll_nil ha
  exact ⟨p, x, y, rfl, hs, hx, hy⟩
theorem dp_tup4 {a b c d : PyData} (h : Dp K H v (.tuple [a, b, c, d])) : ∃ p x y z w, v = .ref p ∧ SqT K H p [x, y, z, w] ∧ Dp K H x a ∧ Dp K H y b ∧ Dp K H z c ∧ Dp K H w d := by
  obtain ⟨p, xs, rfl, hs, ha⟩ := dp_tup h
  obtain ⟨x, ys, rfl, hx, ha⟩ := dpAll_cons ha
  obtain ⟨y, zs, rfl, hy, ha⟩ := dpAll_cons ha
  obtain ⟨z, us, rfl, hz, ha⟩ := dpAll_cons ha
  obtain ⟨w, ws, rfl, hw, ha⟩ := dpAll_cons ha
  obtain rfl := dpAll_nil ha
  exact ⟨p, x, y, z, w, rfl, hs, hx, hy, hz, hw⟩
end
def optV : Option Int → V
  | none => .non
  | some i => .int i
def optD : Option Int → PyData
  | none => .none
  | some i => .int i
theorem dp_opt {K : PySem.W.Frag} {H : Hp} (o : Option Int) : Dp K H (optV o) (optD o) := by
  cases o with
  | none => exact .non
  | some i => exact .int i
theorem log2_small {m : Int} (h : -(2 ^ 62) < m ∧ m < 2 ^ 62) : m.natAbs.log2 < 9000 := by
  have h1 : m.natAbs < 2 ^ 62 := by omega
  exact Nat.lt_of_lt_of_le (PySem.Flt.log2_lt_of (by decide) h1) (by decide)
/-! ### lists of ints -/
def IntL (xs : List V) : Prop := ∀ x ∈ xs, ∃ z, x = V.int z
theorem intL_map (ns : List Int) : IntL (ns.map V.int) := fun x hx => by
  obtain ⟨z, _, rfl⟩ := List.mem_map.mp hx
  exact ⟨z, rfl⟩
theorem intL_cut {xs : List V} (h : IntL xs) (lo hi : Option Int) : IntL (cutV xs lo hi) := fun x hx => h x (List.drop_subset _ _ (List.take_subset _ _ hx))
theorem intL_app {xs ys : List V} (h : IntL xs) (h' : IntL ys) : IntL (xs ++ ys) := fun x hx => (List.mem_append.mp hx).elim (h x) (h' x)
theorem intL_nil : IntL [] := fun _ h => nomatch h
theorem intL_cons {z : Int} {xs : List V} (h : IntL xs) : IntL (V.int z :: xs) := fun x hx => by
  rcases List.mem_cons.mp hx with rfl | hx
  · exact ⟨z, rfl⟩
  · exact h x hx
theorem IntL.at {xs : List V} {i : Nat} {x : V} (h : IntL xs) (e : xs[i]? = some x) : ∃ z, x = V.int z := h x (List.mem_of_getElem? e)
/-! ### membership in a tuple of texts -/
section
variable {K : PySem.W.Frag} {H : Hp} {Q : VK}
def uIn (K : PySem.W.Frag) : R2 := rIn K false
def uNin (K : PySem.W.Frag) : R2 := rIn K true
theorem ou_in {X : Cx} (_ : X.A.units + 64 < cLine) : OpR X (compareOp .In) (uIn X.K) := op_in_seq
theorem ou_nin {X : Cx} (_ : X.A.units + 64 < cLine) : OpR X (compareOp .NotIn) (uNin X.K) := op_notIn_seq
theorem w_inT {x : V} {a : Addr} {xs : List V} (h : SqT K H a xs) (hx : flatV x = true) (hf : xs.all flatV = true) (q : Q (.bl (inV x xs)) H) : uIn K x (.ref a) H Q := ⟨a, xs, rfl, .inr h, hx, hf, q⟩
theorem w_inL {x : V} {a : Addr} {xs : List V} (h : SqL K H a xs) (hx : flatV x = true) (hf : xs.all flatV = true) (q : Q (.bl (inV x xs)) H) : uIn K x (.ref a) H Q := ⟨a, xs, rfl, .inl h, hx, hf, q⟩
theorem w_ninL {x : V} {a : Addr} {xs : List V} (h : SqL K H a xs) (hx : flatV x = true) (hf : xs.all flatV = true) (q : Q (.bl (!inV x xs)) H) : uNin K x (.ref a) H Q := ⟨a, xs, rfl, .inl h, hx, hf, q⟩
end
/-! ### actions -/
inductive Hf where
  | plus (n : Int) | is_ (n : Int) | gone
  deriving DecidableEq
def Hf.d : Hf → PyData
  | .plus n => .tuple [.str "plus", .int n]
  | .is_ n => .tuple [.str "is", .int n]
  | .gone => .tuple [.str "gone"]
def Hf.ok : Hf → Prop
  | .plus _ => False
  | _ => True
theorem ok_is (n : Int) : Hf.ok (.is_ n) := trivial
theorem ok_gone : Hf.ok .gone := trivial
def Hf.do_ : Hf → Option Int → Option Int
  | .plus n, some v => some (v + n)
  | .plus _, none => none
  | .is_ n, _ => some n
  | .gone, _ => none
/-- what an action (t, n) makes of a value or of none -/
def actDo (t n : Hf) : Option Int → Option Int
  | none => n.do_ none
  | some v => t.do_ (some v)
def actD (t n : Hf) : PyData := .tuple [t.d, n.d]
def optH : Option Int → Hf
  | none => .gone
  | some i => .is_ i
def Hf.behind (h : Hf) (t n : Hf) : Hf := match h with
  | .plus k => (match t with
    | .plus m => .plus (k + m)
    | t => t)
  | .is_ k => optH (actDo t n (some k))
  | .gone => optH (actDo t n none)
theorem optH_ok (o : Option Int) : (optH o).ok := by cases o <;> trivial
theorem behind_ok {h : Hf} (hk : h.ok) (t n : Hf) : (h.behind t n).ok := by
  cases h with
  | plus k => exact hk.elim
  | is_ k => exact optH_ok _
  | gone => exact optH_ok _
theorem optH_do (o : Option Int) (v : Option Int) : (optH o).do_ v = o := by cases o <;> rfl
/-- behind does one, then the other -/
theorem behind_do {t n : Hf} (t' n' : Hf) (hn : n.ok) (o : Option Int) : actDo (t.behind t' n') (n.behind t' n') o = actDo t' n' (actDo t n o) := by
  cases o with
  | none =>
    cases n with
    | plus k => exact hn.elim
    | is_ k => show (optH _).do_ none = _; rw [optH_do]; rfl
    | gone => show (optH _).do_ none = _; rw [optH_do]; rfl
  | some v =>
    cases t with
    | plus k =>
      cases t' with
      | plus m => show some (v + (k + m)) = some (v + k + m); rw [Int.add_assoc]
      | is_ m => rfl
      | gone => rfl
    | is_ k => show (optH _).do_ (some v) = _; rw [optH_do]; rfl
    | gone => show (optH _).do_ (some v) = _; rw [optH_do]; rfl
theorem hf_eqv (a b : Hf) : PyData.eqv a.d b.d = decide (a = b) := by
  have e1 : ((Str.ofString "plus") == (Str.ofString "is")) = false := by decide
  have e2 : ((Str.ofString "is") == (Str.ofString "plus")) = false := by decide
  have key : ∀ i j : Int, (i == j) = decide (i = j) := fun i j => Bool.beq_eq_decide_eq i j
  cases a <;> cases b <;> simp [Hf.d, PyData.eqv, PyData.eqvAll, e1, e2, key]
theorem act_eqv (t n t' n' : Hf) : PyData.eqv (actD t n) (actD t' n') = (decide (t = t') && decide (n = n')) := by
  show (PyData.eqv t.d t'.d && (PyData.eqv n.d n'.d && true)) = _
  rw [hf_eqv, hf_eqv, Bool.and_true]
theorem hf_shaped (a : Hf) : SeqAt.shaped a.d = true := by cases a <;> simp [Hf.d, SeqAt.shaped, PyData.canLay0, PyData.canLayAll0, PyData.depth, PyData.depthAll] <;> decide +kernel
theorem act_shaped (t n : Hf) : SeqAt.shaped (actD t n) = true := by cases t <;> cases n <;> simp [actD, Hf.d, SeqAt.shaped, PyData.canLay0, PyData.canLayAll0, PyData.depth, PyData.depthAll] <;> decide +kernel
theorem opt_eqv (a b : Option Int) : PyData.eqv (optD a) (optD b) = decide (a = b) := by
  cases a <;> cases b <;> simp [optD, PyData.eqv]
  rename_i i j
  rw [Bool.beq_eq_decide_eq]
theorem opt_shaped (a : Option Int) : SeqAt.shaped (optD a) = true := by cases a <;> simp [optD, SeqAt.shaped, PyData.canLay0, PyData.depth]
/-! what is an action -/
def numB : PyData → Bool
  | .int _ => true
  | _ => false
def halfB (pl : Bool) : PyData → Bool
  | .tuple [.str w] => decide (w = "gone")
  | .tuple [.str w, x] => ((pl && decide (w = "plus")) || decide (w = "is")) && numB x
  | _ => false
def actB : PyData → Bool
  | .tuple [a, b] => halfB true a && halfB false b
  | _ => false
theorem inV_half (pl : Bool) (w : Str) : inV (.str w) (if pl = true then [V.str "plus", V.str "is"] else [V.str "is"]) = ((pl && decide (w = "plus")) || decide (w = "is")) := by
  have key : ∀ a b : Str, (a == b) = decide (b = a) := fun a b => by
    rw [Bool.beq_eq_decide_eq]
    exact decide_eq_decide.mpr ⟨Eq.symm, Eq.symm⟩
  cases pl <;> simp [inV, eqV, key]
theorem half_flat (pl : Bool) : (if pl = true then [V.str "plus", V.str "is"] else [V.str "is"]).all flatV = true := by cases pl <;> rfl
theorem halfB_of (t : Hf) : halfB true t.d = true := by cases t <;> simp [Hf.d, halfB, numB]
theorem halfB_ok {n : Hf} (h : n.ok) : halfB false n.d = true := by cases n <;> first | exact h.elim | simp [Hf.d, halfB, numB]
theorem actB_of (t : Hf) {n : Hf} (h : n.ok) : actB (actD t n) = true := by
  show (halfB true t.d && halfB false n.d) = true
  rw [halfB_of, halfB_ok h]; rfl
end Ny

set_option Elab.async false
set_option linter.all false
set_option maxRecDepth 100000
set_option maxHeartbeats 4000000
namespace Ny
open PySem PySem.Spec PyProof.Rows L2 Evl
/-! ### the built-ins by their names, once -/
theorem bo_isinstance : bootBuiltins "isinstance" = some (.builtin "isinstance") := by decide +kernel
theorem bo_max : bootBuiltins "max" = some (.builtin "max") := by decide +kernel
theorem bo_min : bootBuiltins "min" = some (.builtin "min") := by decide +kernel
theorem bo_any : bootBuiltins "any" = some (.builtin "any") := by decide +kernel
theorem bo_all : bootBuiltins "all" = some (.builtin "all") := by decide +kernel
theorem bo_sorted : bootBuiltins "sorted" = some (.builtin "sorted") := by decide +kernel
theorem bo_sum : bootBuiltins "sum" = some (.builtin "sum") := by decide +kernel
theorem bo_len : bootBuiltins "len" = some (.builtin "len") := by decide +kernel
theorem bo_int : bootBuiltins "int" = some (.type "int") := by decide +kernel
theorem bo_bool : bootBuiltins "bool" = some (.type "bool") := by decide +kernel
theorem bo_str : bootBuiltins "str" = some (.type "str") := by decide +kernel
theorem bo_list : bootBuiltins "list" = some (.type "list") := by decide +kernel
theorem bo_tuple : bootBuiltins "tuple" = some (.type "tuple") := by decide +kernel
theorem bo_dict : bootBuiltins "dict" = some (.type "dict") := by decide +kernel
theorem bo_range : bootBuiltins "range" = some (.type "range") := by decide +kernel
theorem bo_enumerate : bootBuiltins "enumerate" = some (.type "enumerate") := by decide +kernel
theorem bo_zip : bootBuiltins "zip" = some (.type "zip") := by decide +kernel
theorem bo_reversed : bootBuiltins "reversed" = some (.type "reversed") := by decide +kernel
theorem rgc_up {j c : Int} (hc : 0 < c) (hc2 : c < 1000) (h : 0 < j) (h2 : j < 1000000) : RgC 0 j c ((j - 1) / c + 1).toNat := by
  refine ⟨by omega, by omega, ?_, ?_⟩
  · have q : 0 ≤ (j - 1) / c := Int.ediv_nonneg (by omega) (by omega)
    have q2 : (j - 1) / c ≤ j - 1 := Int.ediv_le_self _ (by omega)
    unfold Builtin.Range.small Builtin.Range.rangeSize
    rw [if_pos hc, if_pos h, show j - 0 - 1 = j - 1 by omega]
    have hc' : c > 0 := hc
    simp only [Builtin.Range.rangeFitsLong, Bool.and_eq_true, Bool.or_eq_true, decide_eq_true_eq, beq_iff_eq, hc', if_true]
    omega
  · unfold Builtin.Range.rangeSize
    rw [if_pos hc, if_pos h]
    have : 0 ≤ (j - 1) / c := Int.ediv_nonneg (by omega) (by omega)
    rw [show j - 0 - 1 = j - 1 by omega]
    omega
section
variable {K : PySem.W.Frag} {σ : L2.St} {H : Hp} {D : Ends} {Q : VK} {R : It → Hp → Prop} {x y v : V} {n : Nat} {g : TG} {tb : TS} {i j c : Int}
def kR3 (R : It → Hp → Prop) : List V → Hp → Prop := fun vs H1 => ∃ (i j c : Int) (n : Nat), vs = [.int i, .int j, .int c] ∧ RgC i j c n ∧ R (Itc i c n) H1
instance {ta : TA} {R : It → Hp → Prop} : Step (iRng3 ta σ H R) (ta σ H (kR3 R)) := ⟨id⟩
theorem w_kR3 {m : Nat} (h : RgC i j c m) (q : R (Itc i c m) H) : kR3 R [.int i, .int j, .int c] H := ⟨i, j, c, m, rfl, h, q⟩
theorem w_forC {lo : Int} (Pv : Nat → L2.St → Hp → Prop) (h0 : Pv 0 σ H)
    (hs : ∀ i σ H, i < n → Pv i σ H → g (.int (lo + (i : Nat) * c)) σ H fun σ2 H2 => tb { D with nx := Pv (i + 1), ct := Pv (i + 1), bk := D.nx } σ2 H2) (hd : ∀ σ H, Pv n σ H → D.nx σ H) : ForB (Itc lo c n) g tb D σ H := for_rangeC Pv h0 hs hd
/-- a loop that writes its own slot alone and leaves what is tracked as it is -/
theorem w_forL1 {a : Addr} {xs : List V} {s : Nat} (hL : SqL K H a xs)
    (hs : ∀ (i : Nat) (x : V) (y : Option V) (H' : Hp), xs[i]? = some x → Ex H H' → gName s x (σ.set s y) H' fun σ2 H2 =>
      tb { D with nx := fun σ' H'' => (∃ y, σ' = σ.set s y) ∧ Ex H H'', ct := fun σ' H'' => (∃ y, σ' = σ.set s y) ∧ Ex H H'', bk := D.nx } σ2 H2)
    (hd : ∀ (y : Option V) (H' : Hp), Ex H H' → D.nx (σ.set s y) H') : ForB (Itl K a) (gName s) tb D σ H := by
  refine w_forL (fun i σ' H' => (∃ y, σ' = σ.set s y) ∧ Ex H H') ⟨?_, Ex.refl H⟩ (fun i σ' H' _ h => ex_l h.2 hL) ?_ ?_
  · by_cases h : s < σ.length
    · exact ⟨σ[s], by rw [List.set_getElem_self]⟩
    · exact ⟨none, by rw [List.set_eq_of_length_le (by omega)]⟩
  · rintro i x σ' H' hx ⟨⟨y, rfl⟩, e⟩
    exact hs i x y H' hx e
  · rintro σ' H' ⟨⟨y, rfl⟩, e⟩
    exact hd y H' e
/-- an item of a tuple that is known as data -/
theorem w_ixD0 {a : PyData} {r : List PyData} (h : Dp K H v (.tuple (a :: r))) (q : ∀ x, Dp K H x a → Q x H) : rIx K v (.int 0) H Q := by
  obtain ⟨p, xs, rfl, hs, ha⟩ := dp_tup h
  obtain ⟨x, ys, rfl, hx, _⟩ := dpAll_cons ha
  refine w_ixT hs ?_ (q x hx)
  exact atI_nat (j := 0) rfl
theorem w_ixD1 {a b : PyData} {r : List PyData} (h : Dp K H v (.tuple (a :: b :: r))) (q : ∀ x, Dp K H x b → Q x H) : rIx K v (.int 1) H Q := by
  obtain ⟨p, xs, rfl, hs, ha⟩ := dp_tup h
  obtain ⟨x, ys, rfl, hx, ha⟩ := dpAll_cons ha
  obtain ⟨y, zs, rfl, hy, _⟩ := dpAll_cons ha
  refine w_ixT hs ?_ (q y hy)
  exact atI_nat (j := 1) rfl
/-- values that are ints or none -/
theorem w_ne_opt {a b : Option Int} (q : Q (.bl (!decide (a = b))) H) : uNe K (optV a) (optV b) H Q := w_ne_dat (dp_opt a) (dp_opt b) (opt_shaped a) (opt_shaped b) (by rw [opt_eqv]; exact q)
theorem w_eq_opt {a b : Option Int} (q : Q (.bl (decide (a = b))) H) : uEq K (optV a) (optV b) H Q := w_eq_dat (dp_opt a) (dp_opt b) (opt_shaped a) (opt_shaped b) (by rw [opt_eqv]; exact q)
instance {a b : Option Int} : Step (uNe K (optV a) (optV b) H Q) (Q (.bl (!decide (a = b))) H) := ⟨w_ne_opt⟩
instance {a b : Option Int} : Step (uEq K (optV a) (optV b) H Q) (Q (.bl (decide (a = b))) H) := ⟨w_eq_opt⟩
theorem w_ne_act {t m t' m' : Hf} (h : Dp K H x (actD t m)) (h' : Dp K H y (actD t' m')) (q : Q (.bl (!(decide (t = t') && decide (m = m')))) H) : uNe K x y H Q := w_ne_dat h h' (act_shaped _ _) (act_shaped _ _) (by rw [act_eqv]; exact q)
theorem w_eq_act {t m t' m' : Hf} (h : Dp K H x (actD t m)) (h' : Dp K H y (actD t' m')) (q : Q (.bl (decide (t = t') && decide (m = m'))) H) : uEq K x y H Q := w_eq_dat h h' (act_shaped _ _) (act_shaped _ _) (by rw [act_eqv]; exact q)
/-- is, of None or of truths -/
def vIs : R2 := fun x y H Q => uIs x y H Q ∨ rIsB x y H Q
def vIsN : R2 := fun x y H Q => uIsN x y H Q ∨ rNotB x y H Q
theorem ov_is {X : Cx} : OpR X (compareOp .Is) vIs := ou_is.or op_isBl
theorem ov_isn {X : Cx} : OpR X (compareOp .IsNot) vIsN := ou_isn.or op_notBl
instance [h : Step (uIs x .non H Q) B] : Step (vIs x .non H Q) B := ⟨fun q => .inl (h.go q)⟩
instance [h : Step (uIsN x .non H Q) B] : Step (vIsN x .non H Q) B := ⟨fun q => .inl (h.go q)⟩
instance {a b : Bool} : Step (vIs (.bl a) (.bl b) H Q) (Q (.bl (decide (a = b))) H) := ⟨fun q => .inr ⟨a, b, rfl, rfl, q⟩⟩
instance {a b : Bool} : Step (vIsN (.bl a) (.bl b) H Q) (Q (.bl (!decide (a = b))) H) := ⟨fun q => .inr ⟨a, b, rfl, rfl, q⟩⟩
theorem opt_is (o : Option Int) : decide (optV o = .non) = o.isNone := by cases o <;> rfl
instance {o : Option Int} : Step (vIs (optV o) .non H Q) (Q (.bl o.isNone) H) := ⟨fun q => .inl ⟨rfl, by rw [opt_is]; exact q⟩⟩
instance {o : Option Int} : Step (vIsN (optV o) .non H Q) (Q (.bl (!o.isNone)) H) := ⟨fun q => .inl ⟨rfl, by rw [opt_is]; exact q⟩⟩
end
/-! ### values that are ints or none, in lists -/
def OptL (xs : List V) : Prop := ∀ x ∈ xs, ∃ o, x = optV o
theorem optL_nil : OptL [] := fun _ h => nomatch h
theorem optL_int {z : Int} {xs : List V} (h : OptL xs) : OptL (V.int z :: xs) := fun x hx => by
  rcases List.mem_cons.mp hx with rfl | hx
  · exact ⟨some z, rfl⟩
  · exact h x hx
theorem optL_non {xs : List V} (h : OptL xs) : OptL (V.non :: xs) := fun x hx => by
  rcases List.mem_cons.mp hx with rfl | hx
  · exact ⟨none, rfl⟩
  · exact h x hx
theorem optL_opt {o : Option Int} {xs : List V} (h : OptL xs) : OptL (optV o :: xs) := fun x hx => by
  rcases List.mem_cons.mp hx with rfl | hx
  · exact ⟨o, rfl⟩
  · exact h x hx
theorem OptL.at {xs : List V} {i : Nat} {x : V} (h : OptL xs) (e : xs[i]? = some x) : ∃ o, x = optV o := h x (List.mem_of_getElem? e)
theorem cut_to {xs : List V} {k : Int} (h : 0 ≤ k) : (cutV xs none (some k)).length = min k.toNat xs.length := by
  obtain ⟨m, rfl⟩ := Int.eq_ofNat_of_zero_le h
  unfold cutV
  rw [HT.sIx_nat, HT.sIx_none, List.length_take, List.length_drop, Int.toNat_natCast]
  omega
theorem cut_two {xs : List V} {k : Int} (h0 : 0 ≤ k) (h : k + 2 ≤ xs.length) : (cutV xs (some k) (some (k + 2))).length = 2 := by
  obtain ⟨m, rfl⟩ := Int.eq_ofNat_of_zero_le h0
  have e : ((m : Int) + 2) = ((m + 2 : Nat) : Int) := by omega
  unfold cutV
  rw [e, HT.sIx_nat, HT.sIx_nat, List.length_take, List.length_drop]
  omega
end Ny

set_option Elab.async false
set_option linter.all false
set_option maxRecDepth 100000
set_option maxHeartbeats 4000000
namespace Ny
open PySem PySem.Spec PyProof.Rows L2 Evl
/-! ### written data of the top -/
def datB (K : PySem.W.Frag) : Nat → Value → PyData → Bool
  | 0, _, _ => false
  | _ + 1, .none, .none => true
  | _ + 1, .bool b, .bool c => b == c
  | _ + 1, .int i _, .int j => decide (i = j)
  | _ + 1, .str x _, .str y => decide (x = y)
  | n + 1, .ref a, .tuple ds => (match K.lookup a with
    | some ⟨.type c, _, .seq its _, _⟩ => decide (c = "tuple") && (decide (its.size ≤ sizeLine) && (decide (its.toList.length = ds.length) && (its.toList.zip ds).all fun p => datB K n p.1 p.2))
    | _ => false)
  | n + 1, .ref a, .list ds => (match K.lookup a with
    | some ⟨.type c, none, .seq its _, _⟩ => decide (c = "list") && (decide (its.size ≤ sizeLine) && (decide (its.toList.length = ds.length) && (its.toList.zip ds).all fun p => datB K n p.1 p.2))
    | _ => false)
  | _, _, _ => false
theorem datL_ok {K : PySem.W.Frag} {n : Nat} (ih : ∀ (u : Value) (d : PyData), datB K n u d = true → ∃ v, RelV v u ∧ ∀ H, Dp K H v d) : ∀ (us : List Value) (ds : List PyData), us.length = ds.length → ((us.zip ds).all fun p => datB K n p.1 p.2) = true →
    ∃ vs, Vals vs us ∧ ∀ H, DpAll K H vs ds
  | [], [], _, _ => ⟨[], .nil, fun _ => .nil⟩
  | [], _ :: _, h, _ => by cases h
  | _ :: _, [], h, _ => by cases h
  | u :: us, d :: ds, h, e => by
    rw [List.zip_cons_cons, List.all_cons, Bool.and_eq_true] at e
    obtain ⟨v, r, hv⟩ := ih u d e.1
    obtain ⟨vs, rs, hs⟩ := datL_ok ih us ds (Nat.succ.inj h) e.2
    exact ⟨v :: vs, .cons r rs, fun H => .cons (hv H) (hs H)⟩
theorem datB_ok {K : PySem.W.Frag} : ∀ (n : Nat) (u : Value) (d : PyData), datB K n u d = true → ∃ v, RelV v u ∧ ∀ H, Dp K H v d := by
  intro n
  induction n with
  | zero => intro u d h; exact absurd h (by unfold datB; simp)
  | succ n ih =>
    intro u d h
    unfold datB at h
    split at h
    · rename_i q; cases q
    · exact ⟨.non, rfl, fun _ => .non⟩
    · rename_i b c _
      have e := eq_of_beq h
      subst e
      exact ⟨.bl b, rfl, fun _ => .bl b⟩
    · rename_i i t j _
      have e := of_decide_eq_true h
      subst e
      exact ⟨.int i, ⟨t, rfl⟩, fun _ => .int i⟩
    · rename_i x t y _
      have e := of_decide_eq_true h
      subst e
      exact ⟨.str x, ⟨t, rfl⟩, fun _ => .str x⟩
    · rename_i m a ds q
      cases q
      split at h
      · rename_i c od its k sl hk
        simp only [Bool.and_eq_true, decide_eq_true_eq] at h
        obtain ⟨h1, h2, h3, h4⟩ := h
        obtain ⟨vs, rv, hv⟩ := datL_ok ih its.toList ds h3 h4
        exact ⟨.ref a, rfl, fun H => .tup (.inr ⟨_, its, k, hk, congrArg Value.type h1, rfl, h2, rv⟩) (hv H)⟩
      · cases h
    · rename_i m a ds q
      cases q
      split at h
      · rename_i c its k sl hk
        simp only [Bool.and_eq_true, decide_eq_true_eq] at h
        obtain ⟨h1, h2, h3, h4⟩ := h
        obtain ⟨vs, rv, hv⟩ := datL_ok ih its.toList ds h3 h4
        exact ⟨.ref a, rfl, fun H => .lst (.inr ⟨_, its, k, hk, congrArg Value.type h1, rfl, rfl, h2, rv⟩) (hv H)⟩
      · cases h
    · cases h
/-- the module's name x stands for this data -/
def glD (K : PySem.W.Frag) (x : Str) (d : PyData) : Bool := datB K 8 (.ref (He.ga K x)) d
theorem glD_ok {K : PySem.W.Frag} {x : Str} {d : PyData} (h : glD K x d = true) (H : Hp) : Dp K H (.ref (He.ga K x)) d := by
  obtain ⟨v, r, hv⟩ := datB_ok 8 _ d h
  have e : V.ref (He.ga K x) = v := RelV.inj (show RelV (.ref (He.ga K x)) (.ref (He.ga K x)) from rfl) r
  rw [e]
  exact hv H
end Ny

set_option Elab.async false
set_option linter.all false
set_option maxRecDepth 100000
set_option maxHeartbeats 4000000
namespace Ny
open PySem PySem.Spec PyProof.Rows L2 Evl
/-! ### data of tuples alone: they stay whatever is done to lists -/
mutual
def noL : PyData → Bool
  | .list _ => false
  | .dict _ => false
  | .tuple ds => noLs ds
  | _ => true
def noLs : List PyData → Bool
  | [] => true
  | d :: ds => noL d && noLs ds
end
section
variable {K : PySem.W.Frag} {H H2 : Hp} {p : Addr} {xs ys : List V}
theorem PutL.t (u : PutL p xs ys H H2) {a : Addr} {zs : List V} (h : SqT K H a zs) : SqT K H2 a zs := by
  rcases h with (h | ⟨o, h⟩) | h
  · exact .inl (.inl (u.at (ne_of h u.was (by intro z; cases z)) h))
  · exact .inl (.inr ⟨o, u.at (ne_of h u.was (by intro z; cases z)) h⟩)
  · exact .inr h
mutual
theorem dp_put (u : PutL p xs ys H H2) : ∀ (d : PyData) {v : V}, noL d = true → Dp K H v d → Dp K H2 v d
  | .none, _, _, h => by cases h; exact .non
  | .bool b, _, _, h => by cases h; exact .bl b
  | .int i, _, _, h => by cases h; exact .int i
  | .str x, _, _, h => by cases h; exact .str x
  | .list ds, _, n, h => by unfold noL at n; cases n
  | .tuple ds, _, n, h => by
    unfold noL at n
    cases h with
    | tup hs ha => exact .tup (u.t hs) (dpAll_put u ds n ha)
  | .dict _, _, _, h => by cases h
theorem dpAll_put (u : PutL p xs ys H H2) : ∀ (ds : List PyData) {vs : List V}, noLs ds = true → DpAll K H vs ds → DpAll K H2 vs ds
  | [], _, _, h => by cases h; exact .nil
  | d :: ds, _, n, h => by
    unfold noLs at n
    rw [Bool.and_eq_true] at n
    cases h with
    | cons h1 h2 => exact .cons (dp_put u d n.1 h1) (dpAll_put u ds n.2 h2)
end
theorem noLs_of {ds : List PyData} (h : ∀ d ∈ ds, noL d = true) : noLs ds = true := by
  induction ds with
  | nil => rfl
  | cons d ds ih =>
    unfold noLs
    rw [h d List.mem_cons_self, ih fun e he => h e (List.mem_cons_of_mem _ he)]
    rfl
theorem dpAll_app {vs ws : List V} {ds es : List PyData} (h : DpAll K H vs ds) (h' : DpAll K H ws es) : DpAll K H (vs ++ ws) (ds ++ es) := by
  induction ds generalizing vs with
  | nil => cases h; exact h'
  | cons d ds ih =>
    cases h with
    | cons h1 h2 => exact .cons h1 (ih h2)
theorem dpAll_at {vs : List V} {ds : List PyData} (h : DpAll K H vs ds) {i : Nat} {v : V} (e : vs[i]? = some v) : ∃ d, ds[i]? = some d ∧ Dp K H v d := by
  induction ds generalizing vs i with
  | nil => cases h; cases i <;> cases e
  | cons d ds ih =>
    cases h with
    | cons h1 h2 =>
      cases i with
      | zero => cases e; exact ⟨d, rfl, h1⟩
      | succ i => exact ih h2 e
theorem dpAll_take {vs : List V} {ds : List PyData} (h : DpAll K H vs ds) (n : Nat) : DpAll K H (vs.take n) (ds.take n) := by
  induction ds generalizing vs n with
  | nil => cases h; simp; exact .nil
  | cons d ds ih =>
    cases h with
    | cons h1 h2 =>
      cases n with
      | zero => exact .nil
      | succ n => exact .cons h1 (ih h2 n)
theorem dpAll_drop {vs : List V} {ds : List PyData} (h : DpAll K H vs ds) (n : Nat) : DpAll K H (vs.drop n) (ds.drop n) := by
  induction ds generalizing vs n with
  | nil => cases h; simp; exact .nil
  | cons d ds ih =>
    cases h with
    | cons h1 h2 =>
      cases n with
      | zero => exact .cons h1 h2
      | succ n => exact ih h2 n
theorem dpAll_rev {vs : List V} {ds : List PyData} (h : DpAll K H vs ds) : DpAll K H vs.reverse ds.reverse := by
  induction ds generalizing vs with
  | nil => cases h; exact .nil
  | cons d ds ih =>
    cases h with
    | cons h1 h2 =>
      rw [List.reverse_cons, List.reverse_cons]
      exact dpAll_app (ih h2) (.cons h1 .nil)
theorem dpAll_mem {vs : List V} {ds : List PyData} (h : DpAll K H vs ds) {v : V} (e : v ∈ vs) : ∃ d, d ∈ ds ∧ Dp K H v d := by
  obtain ⟨i, hi, rfl⟩ := List.getElem_of_mem e
  obtain ⟨d, hd, hv⟩ := dpAll_at h (List.getElem?_eq_getElem hi)
  exact ⟨d, List.mem_of_getElem? hd, hv⟩
end
theorem hf_noL (h : Hf) : noL h.d = true := by cases h <;> rfl
theorem act_noL (t n : Hf) : noL (actD t n) = true := by
  show (noL t.d && (noL n.d && true)) = true
  rw [hf_noL, hf_noL]; rfl
theorem opt_noL (o : Option Int) : noL (optD o) = true := by cases o <;> rfl
theorem optV_inj {a b : Option Int} (h : optV a = optV b) : a = b := by
  cases a <;> cases b <;> first | rfl | (cases h; done) | (cases h; rfl)
/-! ### comprehensions -/
section
variable {K : PySem.W.Frag} {σ : L2.St} {H : Hp} {Q : VK} {g : TG} {tt : TT} {te : TE} {vs : List Nat} {a : Addr} {xs : List V}
def LcB (J : It) (g : TG) (tt : TT) (te : TE) (vs : List Nat) (σ : L2.St) (H1 : Hp) (Q : VK) : Prop := ∀ D, H1 D = none → ∃ W : Nat → Nat → Hp → Prop, (∃ m, W 0 m (upd H1 D (.lst []))) ∧ ∀ i m H, W i m H →
  (J.stop i H ∧ Q (.ref D) H) ∨ (J.go i H ∧ ∃ Nx : Hp → Prop, (∀ H', Nx H' → ∃ m', m' < m ∧ W (i + 1) m' H') ∧ ∀ x H', J.yld i H x H' → g x (wipe σ vs) H' fun σ2 H2 => wipe σ2 vs = wipe σ vs ∧ tt σ2 H2 fun b H3 =>
    if b = true then te σ2 H3 fun y H4 => ∃ acc, H4 D = some (.lst acc) ∧ acc.length < sizeLine ∧ Nx (upd H4 D (.lst (acc ++ [y]))) else Nx H3)
instance {wi : TI} : Step (tLc wi g tt te vs σ H Q) (wi σ H fun J H1 => LcB J g tt te vs σ H1 Q) := ⟨id⟩
instance {QB : Bool → Hp → Prop} : Step (tYes σ H QB) (QB true H) := ⟨id⟩
/-- each turn tells a datum without lists, or leaves its item out -/
theorem lc_inv {S : V → Option PyData → Prop} {Qd : Hp → Prop} {D : Addr} (hx : xs.length ≤ 1000000) (hn : H D = none)
    (hd : ∀ H' ys (os : List (Option PyData)), Ex H H' → H' D = some (.lst ys) → DpAll K H' ys (os.filterMap id) → os.length = xs.length →
      (∀ (j : Nat) (x : V) (o : Option PyData), xs[j]? = some x → os[j]? = some o → S x o) → Qd H') :
    ∃ Pv : Nat → Hp → Prop, Pv 0 (upd H D (.lst [])) ∧ (∀ i H', Pv i H' → Ex H H') ∧ (∀ H', Pv xs.length H' → Qd H') ∧ ∀ i x H', xs[i]? = some x → Pv i H' → Ex H H' ∧ H' D ≠ none ∧
      (∀ y H4 d, Ex H' H4 → noL d = true → S x (some d) → Dp K H4 y d → ∃ acc, H4 D = some (.lst acc) ∧ acc.length < sizeLine ∧ Pv (i + 1) (upd H4 D (.lst (acc ++ [y])))) ∧
      (∀ H4, Ex H' H4 → S x none → Pv (i + 1) H4) := by
  refine ⟨fun i H' => Ex H H' ∧ ∃ (ys : List V) (os : List (Option PyData)), H' D = some (.lst ys) ∧ DpAll K H' ys (os.filterMap id) ∧ os.length = i ∧
    (∀ (j : Nat) (x : V) (o : Option PyData), xs[j]? = some x → os[j]? = some o → S x o) ∧ ∀ d ∈ os.filterMap id, noL d = true, ?_, ?_, ?_, ?_⟩
  · exact ⟨Ex.new hn, [], [], upd_same, .nil, rfl, fun j x o _ h => by simp at h, fun d h => by simp at h⟩
  · rintro i H' ⟨e, _⟩; exact e
  · rintro H' ⟨e, ys, os, h1, h2, h3, h4, _⟩
    exact hd H' ys os e h1 h2 h3 h4
  · rintro i x H' hxi ⟨e, ys, os, h1, h2, h3, h4, h5⟩
    refine ⟨e, (by rw [h1]; intro z; cases z), ?_, ?_⟩
    · intro y H4 d e4 nd hS hy
      have h1' := e4 _ _ h1
      have lt : i < xs.length := (List.getElem?_eq_some_iff.mp hxi).1
      have len := dpAll_len h2
      have len2 : (os.filterMap id).length ≤ os.length := List.length_filterMap_le _ _
      have sz : (1000000 : Nat) ≤ sizeLine := by decide
      have u : PutL D ys (ys ++ [y]) H4 (upd H4 D (.lst (ys ++ [y]))) := putL h1'
      have nn : noLs (os.filterMap id) = true := noLs_of h5
      refine ⟨ys, h1', by omega, u.ex (Ex.trans e e4) hn, ys ++ [y], os ++ [some d], upd_same, ?_, by rw [List.length_append, h3]; rfl, ?_, ?_⟩
      · rw [List.filterMap_append]
        exact dpAll_app (dpAll_put u _ nn (dpAll_mono e4 _ h2)) (.cons (dp_put u d nd hy) .nil)
      · intro j x' o hx' ho
        rcases Nat.lt_or_ge j os.length with hj | hj
        · rw [List.getElem?_append_left hj] at ho
          exact h4 j x' o hx' ho
        · rw [List.getElem?_append_right hj] at ho
          have hj2 : j = i := by
            have := (List.getElem?_eq_some_iff.mp ho).1
            simp at this
            omega
          subst hj2
          rw [h3, Nat.sub_self] at ho
          cases ho
          rw [hxi] at hx'
          cases hx'
          exact hS
      · intro d' hd'
        rw [List.filterMap_append, List.mem_append] at hd'
        rcases hd' with hd' | hd'
        · exact h5 d' hd'
        · simp at hd'
          subst hd'
          exact nd
    · intro H4 e4 hS
      refine ⟨Ex.trans e e4, ys, os ++ [none], e4 _ _ h1, ?_, by rw [List.length_append, h3]; rfl, ?_, ?_⟩
      · rw [List.filterMap_append]
        exact dpAll_app (dpAll_mono e4 _ h2) .nil |> fun z => by simpa using z
      · intro j x' o hx' ho
        rcases Nat.lt_or_ge j os.length with hj | hj
        · rw [List.getElem?_append_left hj] at ho
          exact h4 j x' o hx' ho
        · rw [List.getElem?_append_right hj] at ho
          have hj2 : j = i := by
            have := (List.getElem?_eq_some_iff.mp ho).1
            simp at this
            omega
          subst hj2
          rw [h3, Nat.sub_self] at ho
          cases ho
          rw [hxi] at hx'
          cases hx'
          exact hS
      · intro d' hd'
        rw [List.filterMap_append, List.mem_append] at hd'
        rcases hd' with hd' | hd'
        · exact h5 d' hd'
        · simp at hd'
/-- over a list, tests too -/
theorem w_lcL (S : V → Option PyData → Prop) (hL : SqL K H a xs) (hx : xs.length ≤ 1000000)
    (hs : ∀ (i : Nat) (x : V) (H' : Hp) (kT : VK) (kN : Hp → Prop), xs[i]? = some x → Ex H H' → (∀ y H4 d, Ex H' H4 → noL d = true → S x (some d) → Dp K H4 y d → kT y H4) → (∀ H4, Ex H' H4 → S x none → kN H4) →
      g x (wipe σ vs) H' fun σ2 H2 => wipe σ2 vs = wipe σ vs ∧ tt σ2 H2 fun b H3 => if b = true then te σ2 H3 kT else kN H3)
    (hd : ∀ D H' ys (os : List (Option PyData)), H D = none → Ex H H' → H' D = some (.lst ys) → DpAll K H' ys (os.filterMap id) → os.length = xs.length →
      (∀ (j : Nat) (x : V) (o : Option PyData), xs[j]? = some x → os[j]? = some o → S x o) → Q (.ref D) H') : LcB (Itl K a) g tt te vs σ H Q := fun D hn => by
  obtain ⟨Pv, p0, pe, pd, ps⟩ := lc_inv (K := K) (S := S) (Qd := Q (.ref D)) hx hn (hd D · · · hn)
  refine lc_list Pv p0 (fun i H' _ p => ex_l (pe i H' p) hL) (fun i x H' hxi p => ?_) pd
  obtain ⟨e, _, q1, q2⟩ := ps i x H' hxi p
  exact hs i x H' _ _ hxi e q1 q2
theorem w_lcT (S : V → Option PyData → Prop) (hL : SqT K H a xs) (hx : xs.length ≤ 1000000)
    (hs : ∀ (i : Nat) (x : V) (H' : Hp) (kT : VK) (kN : Hp → Prop), xs[i]? = some x → Ex H H' → (∀ y H4 d, Ex H' H4 → noL d = true → S x (some d) → Dp K H4 y d → kT y H4) → (∀ H4, Ex H' H4 → S x none → kN H4) →
      g x (wipe σ vs) H' fun σ2 H2 => wipe σ2 vs = wipe σ vs ∧ tt σ2 H2 fun b H3 => if b = true then te σ2 H3 kT else kN H3)
    (hd : ∀ D H' ys (os : List (Option PyData)), H D = none → Ex H H' → H' D = some (.lst ys) → DpAll K H' ys (os.filterMap id) → os.length = xs.length →
      (∀ (j : Nat) (x : V) (o : Option PyData), xs[j]? = some x → os[j]? = some o → S x o) → Q (.ref D) H') : LcB (Itt K a) g tt te vs σ H Q := fun D hn => by
  obtain ⟨Pv, p0, pe, pd, ps⟩ := lc_inv (K := K) (S := S) (Qd := Q (.ref D)) hx hn (hd D · · · hn)
  refine lc_tup Pv p0 (fun i H' _ p => ex_t (pe i H' p) hL) (fun i x H' hxi p => ?_) pd
  obtain ⟨e, _, q1, q2⟩ := ps i x H' hxi p
  exact hs i x H' _ _ hxi e q1 q2
def rngV (lo : Int) (n : Nat) : List V := (List.range n).map fun (i : Nat) => .int (lo + i)
theorem rngV_at {lo : Int} {n i : Nat} (h : i < n) : (rngV lo n)[i]? = some (.int (lo + i)) := by unfold rngV; rw [List.getElem?_map, List.getElem?_range h]; rfl
theorem rngV_len {lo : Int} {n : Nat} : (rngV lo n).length = n := by unfold rngV; rw [List.length_map, List.length_range]
theorem w_lcR {lo : Int} {n : Nat} (S : V → Option PyData → Prop) (hx : n ≤ 1000000)
    (hs : ∀ (i : Nat) (H' : Hp) (kT : VK) (kN : Hp → Prop), i < n → Ex H H' → (∀ y H4 d, Ex H' H4 → noL d = true → S (.int (lo + i)) (some d) → Dp K H4 y d → kT y H4) → (∀ H4, Ex H' H4 → S (.int (lo + i)) none → kN H4) →
      g (.int (lo + i)) (wipe σ vs) H' fun σ2 H2 => wipe σ2 vs = wipe σ vs ∧ tt σ2 H2 fun b H3 => if b = true then te σ2 H3 kT else kN H3)
    (hd : ∀ D H' ys (os : List (Option PyData)), H D = none → Ex H H' → H' D = some (.lst ys) → DpAll K H' ys (os.filterMap id) → os.length = n →
      (∀ (j : Nat) (o : Option PyData), j < n → os[j]? = some o → S (.int (lo + j)) o) → Q (.ref D) H') : LcB (Itr lo n) g tt te vs σ H Q := fun D hn => by
  obtain ⟨Pv, p0, pe, pd, ps⟩ := lc_inv (K := K) (xs := rngV lo n) (S := S) (Qd := Q (.ref D)) (by rw [rngV_len]; exact hx) hn (fun H' ys os e h1 h2 h3 h4 => hd D H' ys os hn e h1 h2 (by rw [h3, rngV_len]) fun j o hj ho => h4 j _ o (rngV_at hj) ho)
  rw [rngV_len] at pd
  refine lc_range Pv p0 (fun i H' hi p => ?_) pd
  obtain ⟨e, _, q1, q2⟩ := ps i _ H' (rngV_at hi) p
  exact hs i H' _ _ hi e q1 q2
/-- all turns tell something -/
theorem all_some {os : List (Option PyData)} (h : ∀ o ∈ os, o ≠ none) : ∃ ds, os = ds.map some ∧ os.filterMap id = ds := by
  induction os with
  | nil => exact ⟨[], rfl, rfl⟩
  | cons o os ih =>
    obtain ⟨ds, e, f⟩ := ih fun o ho => h o (List.mem_cons_of_mem _ ho)
    cases o with
    | none => exact absurd rfl (h none List.mem_cons_self)
    | some d => exact ⟨d :: ds, by rw [e]; rfl, by rw [List.filterMap_cons]; simp [f]⟩
theorem some_of {xs : List V} {os : List (Option PyData)} {S : V → PyData → Prop} (hl : os.length = xs.length) (hS : ∀ (j : Nat) (x : V) (o : Option PyData), xs[j]? = some x → os[j]? = some o → ∃ d, o = some d ∧ S x d) :
    ∃ ds, os.filterMap id = ds ∧ ds.length = xs.length ∧ ∀ (j : Nat) (x : V) (d : PyData), xs[j]? = some x → ds[j]? = some d → S x d := by
  obtain ⟨ds, e, f⟩ := all_some (os := os) fun o ho => by
    obtain ⟨j, hj, rfl⟩ := List.getElem_of_mem ho
    obtain ⟨d, e, _⟩ := hS j xs[j] _ (List.getElem?_eq_getElem (by omega)) (List.getElem?_eq_getElem hj)
    rw [e]; intro z; cases z
  refine ⟨ds, f, by rw [← hl, e, List.length_map], fun j x d hx hd => ?_⟩
  obtain ⟨d', e', q⟩ := hS j x (some d) hx (by rw [e, List.getElem?_map, hd]; rfl)
  cases e'
  exact q
/-- over a list, no test -/
theorem w_lcL1 (S : V → PyData → Prop) (hL : SqL K H a xs) (hx : xs.length ≤ 1000000)
    (hs : ∀ (i : Nat) (x : V) (H' : Hp) (kT : VK), xs[i]? = some x → Ex H H' → (∀ y H4 d, Ex H' H4 → noL d = true → S x d → Dp K H4 y d → kT y H4) → g x (wipe σ vs) H' fun σ2 H2 => wipe σ2 vs = wipe σ vs ∧ te σ2 H2 kT)
    (hd : ∀ D H' ys ds, H D = none → Ex H H' → H' D = some (.lst ys) → DpAll K H' ys ds → ds.length = xs.length →
      (∀ (j : Nat) (x : V) (d : PyData), xs[j]? = some x → ds[j]? = some d → S x d) → Q (.ref D) H') : LcB (Itl K a) g tYes te vs σ H Q :=
  w_lcL (fun x o => ∃ d, o = some d ∧ S x d) hL hx (fun i x H' kT kN hxi e q1 q2 => hs i x H' kT hxi e fun y H4 d e4 nd hS hy => q1 y H4 d e4 nd ⟨d, rfl, hS⟩ hy) fun D H' ys os hn e h1 h2 h3 h4 => by
    obtain ⟨ds, rfl, hl, hS⟩ := some_of h3 h4
    exact hd D H' ys _ hn e h1 h2 hl hS
theorem w_lcR1 {lo : Int} {n : Nat} (S : V → PyData → Prop) (hx : n ≤ 1000000)
    (hs : ∀ (i : Nat) (H' : Hp) (kT : VK), i < n → Ex H H' → (∀ y H4 d, Ex H' H4 → noL d = true → S (.int (lo + i)) d → Dp K H4 y d → kT y H4) → g (.int (lo + i)) (wipe σ vs) H' fun σ2 H2 => wipe σ2 vs = wipe σ vs ∧ te σ2 H2 kT)
    (hd : ∀ D H' ys ds, H D = none → Ex H H' → H' D = some (.lst ys) → DpAll K H' ys ds → ds.length = n →
      (∀ (j : Nat) (d : PyData), ds[j]? = some d → S (.int (lo + j)) d) → Q (.ref D) H') : LcB (Itr lo n) g tYes te vs σ H Q :=
  w_lcR (fun x o => ∃ d, o = some d ∧ S x d) hx (fun i H' kT kN hi e q1 q2 => hs i H' kT hi e fun y H4 d e4 nd hS hy => q1 y H4 d e4 nd ⟨d, rfl, hS⟩ hy) fun D H' ys os hn e h1 h2 h3 h4 => by
    obtain ⟨ds, rfl, hl, hS⟩ := some_of (xs := rngV lo n) (S := S) (by rw [h3, rngV_len]) fun j x o hx ho => by
      have hj : j < n := by have := (List.getElem?_eq_some_iff.mp hx).1; rwa [rngV_len] at this
      rw [rngV_at hj] at hx; cases hx
      exact h4 j o hj ho
    refine hd D H' ys _ hn e h1 h2 (by rw [hl, rngV_len]) fun j d hj => ?_
    have : j < n := by have := (List.getElem?_eq_some_iff.mp hj).1; rw [hl, rngV_len] at this; exact this
    exact hS j _ d (rngV_at this) hj
end
/-! ### the rules that name the frame's K, by a K said ahead (within comprehensions) -/
section
variable (K : PySem.W.Frag) {X : Cx}
theorem kx_add (h : X.K = K := by rfl) : OpR X (binaryOp .Add) (uAdd K) := by subst h; exact ou_add
theorem kx_eq (hu : X.A.units + 64 < cLine) (h : X.K = K := by rfl) : OpR X (compareOp .Eq) (uEq K) := by subst h; exact ou_eq hu
theorem kx_ne (hu : X.A.units + 64 < cLine) (h : X.K = K := by rfl) : OpR X (compareOp .NotEq) (uNe K) := by subst h; exact ou_ne hu
theorem kx_in (hu : X.A.units + 64 < cLine) (h : X.K = K := by rfl) : OpR X (compareOp .In) (uIn K) := by subst h; exact ou_in hu
theorem kx_nin (hu : X.A.units + 64 < cLine) (h : X.K = K := by rfl) : OpR X (compareOp .NotIn) (uNin K) := by subst h; exact ou_nin hu
theorem kx_len (h : X.K = K := by rfl) : CallR X (.builtin "len") (uLen K) := by subst h; exact cu_len
theorem kx_isi (h : X.K = K := by rfl) : CallR X (.builtin "isinstance") (uIsi K) := by subst h; exact cu_isi
theorem kx_max (hc : X.calm = true) (h : X.K = K := by rfl) : CallR X (.builtin "max") (uMax K) := by subst h; exact cu_max hc
theorem kx_min (hc : X.calm = true) (h : X.K = K := by rfl) : CallR X (.builtin "min") (uMin K) := by subst h; exact cu_min hc
theorem kx_any (hc : X.calm = true) (h : X.K = K := by rfl) : CallR X (.builtin "any") (uAny K) := by subst h; exact cu_any hc
theorem kx_all (hc : X.calm = true) (h : X.K = K := by rfl) : CallR X (.builtin "all") (uAll K) := by subst h; exact cu_all hc
theorem kx_list (h : X.K = K := by rfl) : CallR X (.type "list") (uList K) := by subst h; exact cu_list
theorem kx_sl (h : X.K = K := by rfl) : SlR X (uSl K) := by subst h; exact su_list
theorem kx_ix (h : X.K = K := by rfl) : IxR X (rIx K) := by subst h; exact ix_seq
theorem ky_ix (hu : X.A.units + 64 < cLine) (h : X.K = K := by rfl) : IxR X (rIxW K) := by subst h; exact ix_sd hu
theorem pt_trK {a : Expr} {ta : TE} (ha : PE X a ta) (he : ∀ whole, isTrue a X.env whole = (do let v ← whole; standAt a.pos; holding [v] (truthy v)) := by intro _; rfl) (h : X.K = K := by rfl) : PT X a (tTr K ta) := by subst h; exact pt_tr ha he
theorem pi_listK {tg l : Expr} {tl : TE} (hl : PE X l tl) (h : X.K = K := by rfl) : PI X tg l (iList K tl) := by subst h; exact pi_list hl
theorem pg_tupK {es : List Expr} {k : Nat} {t : TGs} {n : Nat} {pos : Pos} (hc : X.calm = true) (q : PGs X es t)
    (hn : (assignEach es X.env).length = n := by rfl) (hst : (assignEach es X.env).findIdx? (·.1) = none := by rfl) (h : X.K = K := by rfl) : PG X (.Tuple es k pos) (gTup K n t) := by subst h; exact pg_tup hc q hn hst
theorem pg_tupZK {es : List Expr} {k : Nat} {t : TGs} {n : Nat} {pos : Pos} (hc : X.calm = true) (q : PGs X es t)
    (hn : (assignEach es X.env).length = n + 1 := by rfl) (hst : (assignEach es X.env).findIdx? (·.1) = some n := by rfl) (h : X.K = K := by rfl) : PG X (.Tuple es k pos) (gStar K n t) := by subst h; exact pg_tupZ hc q hn hst
end
end Ny
namespace Ny
open PySem PySem.Spec PyProof.Rows L2 Evl
theorem len2 {α : Type} {ds : List α} (h : ds.length = 2) : ∃ a b, ds = [a, b] := by
  match ds, h with
  | [a, b], _ => exact ⟨a, b, rfl⟩
theorem len3 {α : Type} {ds : List α} (h : ds.length = 3) : ∃ a b c, ds = [a, b, c] := by
  match ds, h with
  | [a, b, c], _ => exact ⟨a, b, c, rfl⟩
theorem len4 {α : Type} {ds : List α} (h : ds.length = 4) : ∃ a b c d, ds = [a, b, c, d] := by
  match ds, h with
  | [a, b, c, d], _ => exact ⟨a, b, c, d, rfl⟩
section
variable {K : PySem.W.Frag} {σ : L2.St} {H : Hp} {Q : VK} {x y : V}
theorem w_wipe {a b : L2.St} {A : Prop} (h : a = b) (q : A) : a = b ∧ A := ⟨h, q⟩
theorem w_eq_datB {d e : PyData} {b : Bool} (h1 : Dp K H x d) (h2 : Dp K H y e) (s1 : SeqAt.shaped d = true) (s2 : SeqAt.shaped e = true) (hb : PyData.eqv d e = b) (q : Q (.bl b) H) : uEq K x y H Q := w_eq_dat h1 h2 s1 s2 (by rw [hb]; exact q)
theorem w_ne_datB {d e : PyData} {b : Bool} (h1 : Dp K H x d) (h2 : Dp K H y e) (s1 : SeqAt.shaped d = true) (s2 : SeqAt.shaped e = true) (hb : PyData.eqv d e = b) (q : Q (.bl (!b)) H) : uNe K x y H Q := w_ne_dat h1 h2 s1 s2 (by rw [hb]; exact q)
end
end Ny

set_option Elab.async false
set_option linter.all false
set_option maxRecDepth 100000
set_option maxHeartbeats 4000000
namespace Ny
open PySem PySem.Spec PySem.W PySem.Calls PyProof.Rows L2 Evl
/-! ### xs[a:b] = ys -/
def gSlc (to : TE) (tl tu : TO) : TG := fun v σ H Q => to σ H fun o H1 => tl σ H1 fun l H2 => tu σ H2 fun u H3 =>
  ∃ (p b : Addr) (xs ys : List V) (i j : Int), o = .ref p ∧ v = .ref b ∧ l = some i ∧ u = some j ∧ H3 p = some (.lst xs) ∧ H3 b = some (.lst ys) ∧ p ≠ b ∧ 0 ≤ i ∧ i ≤ j ∧ j ≤ xs.length ∧ xs.length + ys.length ≤ sizeLine ∧
    Q σ (upd H3 p (.lst (xs.take i.toNat ++ ys ++ xs.drop j.toNat)))
section
variable {X : Cx}
theorem part_int {v : Value} {i : Int} (h : IsPart v (some i)) : RelV (.int i) v := by
  cases h
  exact ⟨_, rfl⟩
theorem pg_slc {o : Expr} {lo hi : Option Expr} {to : TE} {tl tu : TO} {p2 pos : Pos} (ho : PE X o to) (hl : PO X lo tl) (hu : PO X hi tu)
    (ha : ∀ v, assign (.Subscript o (.Slice lo hi none p2) pos) X.env v = (do
      let ov ← holding [v] (eval o X.env)
      let iv ← holding [v, ov] (eval (.Slice lo hi none p2) X.env)
      standAt pos
      holding [v, ov, iv] (setItem ov iv v)
      release [iv, v, ov] []) := by intro _; rfl) : PG X (.Subscript o (.Slice lo hi none p2) pos) (gSlc to tl tu) := by
  refine ⟨fun pins s σ H v u Q I r h => ?_⟩
  rw [ha]
  refine wpAny_bind (wpAny_holding (thn (ho.run pins s σ H _ I h) fun ov s1 ⟨x, H1, I1, r1, q1⟩ => ?_))
  refine wpAny_bind (wpAny_holding (wpAny_Slice (thn (hl.run pins s1 σ H1 _ I1 q1) fun vl s2 ⟨l, H2, I2, pl, q2⟩ => thn (hu.run pins s2 σ H2 _ I2 q2) fun vu s3 ⟨w, H3, I3, pu, q3⟩ => ?_)))
  rw [evalPart_none]
  refine wpAny_pure ?_
  obtain ⟨p, b, xs, ys, i, j, rfl, rfl, rfl, rfl, hp, hb, hne, h0, hij, hj, hz, q⟩ := q3
  have I4 : Inv X pins σ H3 { s3 with heap := s3.heap.push { cls := .type "slice", data := .fields #[vl, vu, .none] } } := I3.kept (t' := s3.toks) fun b ob q => Heap.get?_push_of_some _ q
  cases r
  cases r1
  refine wpAny_bind (wpAny_standAt (wpAny_bind (wpAny_holding (set_slice I4 hp hb hne (Heap.IsSliceOf.new ..) (part_int pl) (part_int pu) h0 hij hj hz fun s' I' => ?_))))
  exact wpAny_release ⟨σ, _, I', q⟩
end
section
variable {K : PySem.W.Frag} {σ : L2.St} {H : Hp} {Q : VK} {R : L2.St → Hp → Prop} {v : V}
def kSlc (b : V) (σ : L2.St) (o : V) (l u : Option Int) (R : L2.St → Hp → Prop) (H3 : Hp) : Prop := ∃ (p a : Addr) (xs ys : List V) (i j : Int), o = .ref p ∧ b = .ref a ∧ l = some i ∧ u = some j ∧ H3 p = some (.lst xs) ∧ H3 a = some (.lst ys) ∧ p ≠ a ∧ 0 ≤ i ∧ i ≤ j ∧ j ≤ xs.length ∧ xs.length + ys.length ≤ sizeLine ∧
    R σ (upd H3 p (.lst (xs.take i.toNat ++ ys ++ xs.drop j.toNat)))
instance {to : TE} {tl tu : TO} : Step (gSlc to tl tu v σ H R) (to σ H fun o H1 => tl σ H1 fun l H2 => tu σ H2 fun u H3 => kSlc v σ o l u R H3) := ⟨id⟩
theorem w_slc {p a : Addr} {xs ys : List V} {i j : Int} (hp : H p = some (.lst xs)) (ha : H a = some (.lst ys)) (hne : p ≠ a) (h0 : 0 ≤ i) (hij : i ≤ j) (hj : j ≤ xs.length) (hz : xs.length + ys.length ≤ 1000000)
    (q : ∀ H2, PutL p xs (xs.take i.toNat ++ ys ++ xs.drop j.toNat) H H2 → R σ H2) : kSlc (.ref a) σ (.ref p) (some i) (some j) R H :=
  ⟨p, a, xs, ys, i, j, rfl, rfl, rfl, rfl, hp, ha, hne, h0, hij, hj, Nat.le_trans hz (by decide), q _ (putL hp)⟩
/-! ### xs[::-1] -/
def kRev (K : PySem.W.Frag) (Q : VK) : VK := fun x H => ∃ a xs, x = .ref a ∧ SqL K H a xs ∧ ∀ p, H p = none → Q (.ref p) (upd H p (.lst xs.reverse))
instance {te : TE} : Step (tRevL K te σ H Q) (te σ H (kRev K Q)) := ⟨id⟩
theorem w_rev {a : Addr} {xs : List V} (h : SqL K H a xs) (q : ∀ p H2, H p = none → Ex H H2 → H2 p = some (.lst xs.reverse) → Q (.ref p) H2) : kRev K Q (.ref a) H := ⟨a, xs, rfl, h, fun p hp => q p _ hp (Ex.new hp) upd_same⟩
end
end Ny
namespace Ny
open PySem PySem.Spec PyProof.Rows L2 Evl
/-! ### slices in plain words -/
theorem cut_from {xs : List V} (k : Nat) : cutV xs (some (k : Int)) none = xs.drop k := by
  unfold cutV
  rw [HT.sIx_nat, HT.sIx_none]
  rcases Nat.lt_or_ge k xs.length with h | h
  · rw [Nat.min_eq_left (Nat.le_of_lt h)]
    exact List.take_of_length_le (by rw [List.length_drop]; omega)
  · rw [Nat.min_eq_right h, List.drop_length, List.drop_eq_nil_of_le h]
    simp
theorem cut_upto {xs : List V} (k : Nat) : cutV xs none (some (k : Int)) = xs.take k := by
  unfold cutV
  rw [HT.sIx_nat, HT.sIx_none, List.drop_zero, Nat.sub_zero]
  rcases Nat.lt_or_ge k xs.length with h | h
  · rw [Nat.min_eq_left (Nat.le_of_lt h)]
  · rw [Nat.min_eq_right h, List.take_length, List.take_of_length_le h]
theorem cut_init {us : List V} {v : V} : cutV (us ++ [v]) none (some (-1)) = us := by
  unfold cutV
  have e : HT.sIx (us ++ [v]).length (us ++ [v]).length (some (-1)) = us.length := by
    rw [List.length_append]
    show HT.sIx (us.length + 1) _ (some (-1)) = _
    unfold HT.sIx
    simp only []
    split <;> simp <;> omega
  rw [e, HT.sIx_none, List.drop_zero, Nat.sub_zero, List.take_left]
theorem dpAll_snoc {K : PySem.W.Frag} {H : Hp} {ys : List V} {ds : List PyData} {d : PyData} (h : DpAll K H ys (ds ++ [d])) : ∃ us v, ys = us ++ [v] ∧ DpAll K H us ds ∧ Dp K H v d := by
  induction ds generalizing ys with
  | nil =>
    cases h with
    | cons h1 h2 => cases h2; exact ⟨[], _, rfl, .nil, h1⟩
  | cons e ds ih =>
    cases h with
    | cons h1 h2 =>
      obtain ⟨us, v, rfl, h3, h4⟩ := ih h2
      exact ⟨_ :: us, v, rfl, .cons h1 h3, h4⟩
theorem exB_at {p a : Addr} {o : HO} {H H' : Hp} (e : ExB p H H') (hn : a ≠ p) (h : H a = some o) : H' a = some o := e a o hn h
end Ny

set_option Elab.async false
set_option linter.all false
set_option maxRecDepth 100000
set_option maxHeartbeats 4000000
/-! Values of a def reckoned by a plain function: data, slots, what stands between both and the heap. -/
namespace Ve
open PySem PySem.Spec PyProof.Rows L2 Evl Ny

abbrev D := PyData
def kD : Key → D
  | .inl i => .int i
  | .inr x => .str x
/-- a thing told by its name: no dict has None for a key -/
def refD (n : Nat) : D := .dict [(.none, .int n)]
def refOf : D → Option Nat
  | .dict [(.none, .int n)] => some n.toNat
  | _ => none
def noRef (d : D) : Bool := (refOf d).isNone
theorem refOf_ref {n : Nat} : refOf (refD n) = some n := rfl
/-- how a named thing shows -/
def mkN (n : Nat) : HO := .rng n 0
theorem mkN_inj {m n : Nat} (h : mkN m = mkN n) : m = n := by
  unfold mkN at h
  injection h with h; exact Int.ofNat.inj h
/-! ### data behind a value -/
mutual
inductive Rp (K : PySem.W.Frag) (H : Hp) : V → D → Prop where
  | non : Rp K H .non .none
  | bl (b : Bool) : Rp K H (.bl b) (.bool b)
  | int (i : Int) : Rp K H (.int i) (.int i)
  | str (x : Str) : Rp K H (.str x) (.str x)
  | lst {a : Addr} {xs : List V} {ds : List D} : SqL K H a xs → RpAll K H xs ds → Rp K H (.ref a) (.list ds)
  | tup {a : Addr} {xs : List V} {ds : List D} : SqT K H a xs → RpAll K H xs ds → Rp K H (.ref a) (.tuple ds)
  | dct {a : Addr} {o : Obj} {kvs : List (Key × V)} {es : List (D × D)} : H a = some (.frz o (.dK kvs)) → es.map (·.1) = kvs.map (fun p => kD p.1) → RpAll K H (kvs.map (·.2)) (es.map (·.2)) → Rp K H (.ref a) (.dict es)
  | ref {a : Addr} {n : Nat} : H a = some (mkN n) → Rp K H (.ref a) (refD n)
inductive RpAll (K : PySem.W.Frag) (H : Hp) : List V → List D → Prop where
  | nil : RpAll K H [] []
  | cons {v : V} {vs : List V} {d : D} {ds : List D} : Rp K H v d → RpAll K H vs ds → RpAll K H (v :: vs) (d :: ds)
end
section
variable {K : PySem.W.Frag} {H H' : Hp} {v : V} {d : D} {vs us : List V} {ds es : List D}
mutual
theorem Rp.mono (e : Ex H H') : ∀ {v : V} {d : D}, Rp K H v d → Rp K H' v d
  | _, _, .non => .non
  | _, _, .bl b => .bl b
  | _, _, .int i => .int i
  | _, _, .str x => .str x
  | _, _, .lst h a => .lst (ex_l e h) (RpAll.mono e a)
  | _, _, .tup h a => .tup (ex_t e h) (RpAll.mono e a)
  | _, _, .dct h k a => .dct (e _ _ h) k (RpAll.mono e a)
  | _, _, .ref h => .ref (e _ _ h)
theorem RpAll.mono (e : Ex H H') : ∀ {vs : List V} {ds : List D}, RpAll K H vs ds → RpAll K H' vs ds
  | _, _, .nil => .nil
  | _, _, .cons h t => .cons (Rp.mono e h) (RpAll.mono e t)
end
theorem RpAll.length : ∀ {vs : List V} {ds : List D}, RpAll K H vs ds → vs.length = ds.length
  | _, _, .nil => rfl
  | _, _, .cons _ t => congrArg Nat.succ t.length
theorem RpAll.get : ∀ {vs : List V} {ds : List D} {i : Nat} {v : V}, RpAll K H vs ds → vs[i]? = some v → ∃ d, ds[i]? = some d ∧ Rp K H v d
  | _, _, _, _, .nil, e => by simp at e
  | _, _, 0, _, .cons h _, e => by simp at e; subst e; exact ⟨_, rfl, h⟩
  | _, _, i + 1, v, .cons _ t, e => by
    obtain ⟨d, h1, h2⟩ := RpAll.get (i := i) (v := v) t (by simpa using e)
    exact ⟨d, by simpa using h1, h2⟩
theorem RpAll.get' : ∀ {vs : List V} {ds : List D} {i : Nat} {d : D}, RpAll K H vs ds → ds[i]? = some d → ∃ v, vs[i]? = some v ∧ Rp K H v d
  | _, _, _, _, .nil, e => by simp at e
  | _, _, 0, _, .cons h _, e => by simp at e; subst e; exact ⟨_, rfl, h⟩
  | _, _, i + 1, d, .cons _ t, e => by
    obtain ⟨v, h1, h2⟩ := RpAll.get' (i := i) (d := d) t (by simpa using e)
    exact ⟨v, by simpa using h1, h2⟩
theorem RpAll.append : ∀ {vs us : List V} {ds es : List D}, RpAll K H vs ds → RpAll K H us es → RpAll K H (vs ++ us) (ds ++ es)
  | _, _, _, _, .nil, s => s
  | _, _, _, _, .cons h t, s => .cons h (t.append s)
theorem RpAll.take : ∀ {vs : List V} {ds : List D} (n : Nat), RpAll K H vs ds → RpAll K H (vs.take n) (ds.take n)
  | _, _, 0, _ => .nil
  | _, _, _ + 1, .nil => .nil
  | _, _, n + 1, .cons h t => .cons h (t.take n)
theorem RpAll.drop : ∀ {vs : List V} {ds : List D} (n : Nat), RpAll K H vs ds → RpAll K H (vs.drop n) (ds.drop n)
  | _, _, 0, h => h
  | _, _, _ + 1, .nil => .nil
  | _, _, n + 1, .cons _ t => t.drop n
theorem RpAll.set (h : Rp K H v d) : ∀ {vs : List V} {ds : List D} (i : Nat), RpAll K H vs ds → RpAll K H (vs.set i v) (ds.set i d)
  | _, _, _, .nil => .nil
  | _, _, 0, .cons _ t => .cons h t
  | _, _, i + 1, .cons q t => .cons q (RpAll.set h i t)
theorem RpAll.reverse (h : RpAll K H vs ds) : RpAll K H vs.reverse ds.reverse := by
  induction vs generalizing ds with
  | nil => cases h; exact .nil
  | cons v vs ih =>
    cases h with
    | cons h t => rw [List.reverse_cons, List.reverse_cons]; exact (ih t).append (.cons h .nil)
theorem RpAll.nil' (h : RpAll K H [] ds) : ds = [] := by cases h; rfl
theorem RpAll.nil2 (h : RpAll K H vs []) : vs = [] := by cases h; rfl
theorem RpAll.eraseIdx : ∀ {vs : List V} {ds : List D} (n : Nat), RpAll K H vs ds → RpAll K H (vs.eraseIdx n) (ds.eraseIdx n)
  | _, _, _, .nil => .nil
  | _, _, 0, .cons _ t => t
  | _, _, n + 1, .cons h t => .cons h (t.eraseIdx n)
theorem Rp.int' {i : Int} (h : Rp K H v (.int i)) : v = .int i := by cases h; rfl
theorem Rp.str' {x : Str} (h : Rp K H v (.str x)) : v = .str x := by cases h; rfl
theorem Rp.bl' {b : Bool} (h : Rp K H v (.bool b)) : v = .bl b := by cases h; rfl
theorem Rp.non' (h : Rp K H v .none) : v = .non := by cases h; rfl
theorem Rp.lst' (h : Rp K H v (.list ds)) : ∃ a xs, v = .ref a ∧ SqL K H a xs ∧ RpAll K H xs ds := by
  cases h with
  | lst h a => exact ⟨_, _, rfl, h, a⟩
theorem Rp.tup' (h : Rp K H v (.tuple ds)) : ∃ a xs, v = .ref a ∧ SqT K H a xs ∧ RpAll K H xs ds := by
  cases h with
  | tup h a => exact ⟨_, _, rfl, h, a⟩
theorem keys_no {es : List (D × D)} {kvs : List (Key × V)} (h : es.map (·.1) = kvs.map (fun p => kD p.1)) : refOf (.dict es) = none := by
  unfold refOf
  split
  · rename_i n e
    injection e with e; subst e
    cases kvs with
    | nil => cases h
    | cons p kvs =>
      rw [List.map_cons, List.map_cons] at h
      injection h with h _
      rcases p with ⟨(i | x), v⟩ <;> cases h
  · rfl
theorem Rp.dct' {es : List (D × D)} (hn : refOf (.dict es) = none) (h : Rp K H v (.dict es)) : ∃ a o kvs, v = .ref a ∧ H a = some (.frz o (.dK kvs)) ∧ es.map (·.1) = kvs.map (fun p => kD p.1) ∧ RpAll K H (kvs.map (·.2)) (es.map (·.2)) := by
  generalize hd : PyData.dict es = d at h
  cases h with
  | dct h k a => injection hd with hd; subst hd; exact ⟨_, _, _, rfl, h, k, a⟩
  | ref h => rw [hd] at hn; rw [refOf_ref] at hn; cases hn
  | _ => cases hd
theorem Rp.ref' {n : Nat} (h : Rp K H v (refD n)) : ∃ a, v = .ref a ∧ H a = some (mkN n) := by
  generalize hd : refD n = d at h
  cases h with
  | dct h k a => have := keys_no k; rw [← hd, refOf_ref] at this; cases this
  | ref h =>
    unfold refD at hd
    injection hd with hd; injection hd with hd; injection hd with _ hd; injection hd with hd
    rw [Int.ofNat.inj hd]; exact ⟨_, rfl, h⟩
  | _ => cases hd
end
/-- no dict in it -/
def noD : D → Bool
  | .list ds => noDs ds
  | .tuple ds => noDs ds
  | .dict _ => false
  | _ => true
where noDs : List D → Bool
  | [] => true
  | d :: ds => noD d && noDs ds
section
variable {K : PySem.W.Frag} {H : Hp}
mutual
theorem Rp.dp : ∀ {v : V} {d : D}, Rp K H v d → noD d = true → Dp K H v d
  | _, _, .non, _ => .non
  | _, _, .bl b, _ => .bl b
  | _, _, .int i, _ => .int i
  | _, _, .str x, _ => .str x
  | _, _, .lst h a, n => .lst h (RpAll.dp a (by simpa [noD] using n))
  | _, _, .tup h a, n => .tup h (RpAll.dp a (by simpa [noD] using n))
  | _, _, .dct _ _ _, n => by simp [noD] at n
  | _, _, .ref _, n => by simp [refD, noD] at n
theorem RpAll.dp : ∀ {vs : List V} {ds : List D}, RpAll K H vs ds → noD.noDs ds = true → DpAll K H vs ds
  | _, _, .nil, _ => .nil
  | _, _, .cons h t, n => by
    simp [noD.noDs] at n
    exact .cons (Rp.dp h n.1) (RpAll.dp t n.2)
end
mutual
theorem rp_dp : ∀ (d : D) {v : V}, Dp K H v d → Rp K H v d
  | .none, _, h => by cases h; exact .non
  | .bool b, _, h => by cases h; exact .bl b
  | .int i, _, h => by cases h; exact .int i
  | .str x, _, h => by cases h; exact .str x
  | .list ds, _, h => by
    cases h with
    | lst hs ha => exact .lst hs (rpAll_dp ds ha)
  | .tuple ds, _, h => by
    cases h with
    | tup hs ha => exact .tup hs (rpAll_dp ds ha)
  | .dict _, _, h => by cases h
theorem rpAll_dp : ∀ (ds : List D) {vs : List V}, DpAll K H vs ds → RpAll K H vs ds
  | [], _, h => by cases h; exact .nil
  | d :: ds, _, h => by
    cases h with
    | cons h1 h2 => exact .cons (rp_dp d h1) (rpAll_dp ds h2)
end
end
/-! ### the heap without what some slots own -/
/-- what is owned; names of some of it -/
structure Ow where
  own : Addr → Prop
  nm : Addr → Option Nat
  inj : ∀ a b n, nm a = some n → nm b = some n → a = b
  sub : ∀ a n, nm a = some n → own a
instance : CoeFun Ow (fun _ => Addr → Prop) := ⟨Ow.own⟩
def Ow.un (O : Ow) (a : Addr) : Prop := O a ∧ O.nm a = none
def noO : Ow := ⟨fun _ => False, fun _ => none, fun _ _ _ h => (by cases h), fun _ _ h => (by cases h)⟩
def flt : Option HO → Option HO
  | some (.rng _ _) => none
  | x => x
def seenO : HO → Bool
  | .rng _ _ => false
  | _ => true
theorem flt_some {x : Option HO} {o : HO} (h : flt x = some o) : x = some o ∧ seenO o = true := by
  unfold flt at h
  split at h
  · cases h
  · rename_i hx
    refine ⟨h, ?_⟩
    unfold seenO
    split
    · subst h; exact absurd rfl (hx _ _)
    · rfl
theorem flt_vis {o : HO} (h : seenO o = true) : flt (some o) = some o := by
  unfold flt
  split
  · rename_i e; injection e with e; subst e; cases h
  · rfl
theorem flt_none : flt none = none := rfl
open Classical in
noncomputable def vw (O : Ow) (H : Hp) : Hp := fun a => match O.nm a with
  | some n => some (mkN n)
  | none => if O a then none else flt (H a)
section
variable {O O' : Ow} {H H' H1 : Hp} {a p : Addr} {o : HO}
theorem nm_own {n : Nat} (h : O.nm a = some n) : O a := O.sub a n h
theorem vw_nm {n : Nat} (h : O.nm a = some n) : vw O H a = some (mkN n) := by unfold vw; rw [h]
theorem vw_in (h : O.un a) : vw O H a = none := by unfold vw; rw [h.2]; dsimp only; rw [if_pos h.1]
theorem nm_out (h : ¬ O a) : O.nm a = none := by
  cases e : O.nm a with
  | none => rfl
  | some n => exact absurd (nm_own e) h
theorem vw_out (h : ¬ O a) : vw O H a = flt (H a) := by unfold vw; rw [nm_out h]; dsimp only; rw [if_neg h]
theorem vw_outV (h : ¬ O a) (e : H a = some o) (hv : seenO o = true) : vw O H a = some o := by rw [vw_out h, e, flt_vis hv]
theorem vw_cases : (∃ n, O.nm a = some n ∧ ∀ H, vw O H a = some (mkN n)) ∨ (O.un a ∧ ∀ H, vw O H a = none) ∨ (¬ O a ∧ ∀ H, vw O H a = flt (H a)) := by
  cases e : O.nm a with
  | some n => exact .inl ⟨n, rfl, fun H => vw_nm e⟩
  | none =>
    by_cases h : O a
    · exact .inr (.inl ⟨⟨h, e⟩, fun H => vw_in ⟨h, e⟩⟩)
    · exact .inr (.inr ⟨h, fun H => vw_out h⟩)
theorem vw_outF (h : ¬ O a) (e : flt (H a) = some o) : vw O H a = some o := by rw [vw_out h, e]
theorem vw_someF (h : vw O H a = some o) (hv : seenO o = true) : ¬ O a ∧ flt (H a) = some o := by
  rcases vw_cases (O := O) (a := a) with ⟨n, q, e⟩ | ⟨q, e⟩ | ⟨q, e⟩
  · rw [e] at h; cases h; cases hv
  · rw [e] at h; cases h
  · rw [e] at h; exact ⟨q, h⟩
theorem vw_some (h : vw O H a = some o) (hv : seenO o = true) : ¬ O a ∧ H a = some o := by
  obtain ⟨q, h⟩ := vw_someF h hv
  exact ⟨q, (flt_some h).1⟩
theorem vw_name {n : Nat} (h : vw O H a = some (mkN n)) : O.nm a = some n := by
  rcases vw_cases (O := O) (a := a) with ⟨m, q, e⟩ | ⟨q, e⟩ | ⟨q, e⟩
  · rw [e] at h; injection h with h; rw [q, mkN_inj h]
  · rw [e] at h; cases h
  · rw [e] at h; have := (flt_some h).2; cases this
theorem vw_ex (e : Ex H H') : Ex (vw O H) (vw O H') := fun a o h => by
  rcases vw_cases (O := O) (a := a) with ⟨n, q, e1⟩ | ⟨q, e1⟩ | ⟨q, e1⟩
  · rw [e1] at h ⊢; exact h
  · rw [e1] at h; cases h
  · rw [e1] at h ⊢
    obtain ⟨h1, h2⟩ := flt_some h
    rw [e a o h1, flt_vis h2]
theorem vw_rd {u : HO} (hv : seenO u = true) (h : Rd (vw O H) a u) : Rd H a u := by
  rcases h with h | ⟨o, h⟩
  · exact .inl (vw_some h hv).2
  · exact .inr ⟨o, (vw_some h rfl).2⟩
theorem vw_l {K : PySem.W.Frag} {xs : List V} (h : SqL K (vw O H) a xs) : SqL K H a xs := by
  rcases h with h | h
  · exact .inl (vw_rd rfl h)
  · exact .inr h
theorem vw_t {K : PySem.W.Frag} {xs : List V} (h : SqT K (vw O H) a xs) : SqT K H a xs := by
  rcases h with h | h
  · exact .inl (vw_rd rfl h)
  · exact .inr h
theorem vw_d {o : Obj} {kvs : List (Key × V)} (h : vw O H a = some (.frz o (.dK kvs))) : Rd H a (.dK kvs) := .inr ⟨o, (vw_some h rfl).2⟩
mutual
theorem Rp.dpr {K : PySem.W.Frag} : ∀ {v : V} {d : D}, Rp K (vw O H) v d → noD d = true → Dp K H v d
  | _, _, .non, _ => .non
  | _, _, .bl b, _ => .bl b
  | _, _, .int i, _ => .int i
  | _, _, .str x, _ => .str x
  | _, _, .lst h a, n => .lst (vw_l h) (RpAll.dpr a (by simpa [noD] using n))
  | _, _, .tup h a, n => .tup (vw_t h) (RpAll.dpr a (by simpa [noD] using n))
  | _, _, .dct _ _ _, n => by simp [noD] at n
  | _, _, .ref _, n => by simp [refD, noD] at n
theorem RpAll.dpr {K : PySem.W.Frag} : ∀ {vs : List V} {ds : List D}, RpAll K (vw O H) vs ds → noD.noDs ds = true → DpAll K H vs ds
  | _, _, .nil, _ => .nil
  | _, _, .cons h t, n => by
    simp [noD.noDs] at n
    exact .cons (Rp.dpr h n.1) (RpAll.dpr t n.2)
end
/-- the same names, less owned -/
theorem vw_sub (h : ∀ a, O' a → O a) (hn : ∀ a, O'.nm a = O.nm a) : Ex (vw O H) (vw O' H) := fun a o e => by
  rcases vw_cases (O := O) (a := a) with ⟨n, q, e1⟩ | ⟨q, e1⟩ | ⟨q, e1⟩
  · rw [e1] at e; rw [vw_nm ((hn a).trans q)]; exact e
  · rw [e1] at e; cases e
  · rw [e1] at e; rw [vw_out fun z => q (h a z)]; exact e
theorem vw_step (hn : ∀ a, O'.nm a = O.nm a) (h : ∀ a o, ¬ O a → H a = some o → ¬ O' a ∧ H' a = some o) : Ex (vw O H) (vw O' H') := fun a o e => by
  rcases vw_cases (O := O) (a := a) with ⟨n, q, e1⟩ | ⟨q, e1⟩ | ⟨q, e1⟩
  · rw [e1] at e; rw [vw_nm ((hn a).trans q)]; exact e
  · rw [e1] at e; cases e
  · rw [e1] at e
    obtain ⟨e2, e3⟩ := flt_some e
    obtain ⟨h1, h2⟩ := h a o q e2
    exact vw_outV h1 h2 e3
theorem vw_upd_own (h : O p) : vw O (upd H p o) = vw O H := by
  funext a
  rcases vw_cases (O := O) (a := a) with ⟨n, q, e1⟩ | ⟨q, e1⟩ | ⟨q, e1⟩
  · rw [e1, e1]
  · rw [e1, e1]
  · rw [e1, e1, upd_ne (fun z => q (by rw [z]; exact h))]
end
/-! ### slots -/
class ObS (Ω : Type) where
  off : Nat
  one : off ≤ 1
  sz : Ω → Nat
  rep : PySem.W.Frag → Hp → Hp → List Addr → V → Ω → Prop
  mono : ∀ {K : PySem.W.Frag} {Hv Hv' H H' : Hp} {F : List Addr} {v : V} {o : Ω}, rep K Hv H F v o → Ex Hv Hv' → (∀ a ∈ F, H' a = H a) → rep K Hv' H' F v o
  there : ∀ {K : PySem.W.Frag} {Hv H : Hp} {F : List Addr} {v : V} {o : Ω} {a : Addr}, rep K Hv H F v o → a ∈ F → H a ≠ none
instance : ObS Empty := ⟨0, Nat.zero_le 1, fun _ => 0, fun _ _ _ _ _ o => o.elim, fun {_ _ _ _ _ _ _ o} _ _ _ => o.elim, fun {_ _ _ _ _ o _} _ _ => o.elim⟩
/-- what a slot holds: a datum that is never changed, or a list, a dict, an object of its own -/
inductive SD (Ω : Type) where
  | val (d : D) | lst (l : List D) | dct (es : List (D × D)) | ob (o : Ω)
abbrev Env (Ω : Type) := List (Option (SD Ω))
section
variable {Ω : Type} [ObS Ω]
def OwnR (K : PySem.W.Frag) (Hv H : Hp) (F : List Addr) (v : V) : SD Ω → Prop
  | .val d => F = [] ∧ Rp K Hv v d
  | .lst l => ∃ p xs, v = .ref p ∧ F = [p] ∧ H p = some (.lst xs) ∧ RpAll K Hv xs l
  | .dct es => ∃ p kvs, v = .ref p ∧ F = [p] ∧ H p = some (.dK kvs) ∧ es.map (·.1) = kvs.map (fun q => kD q.1) ∧ RpAll K Hv (kvs.map (·.2)) (es.map (·.2))
  | .ob o => ObS.rep K Hv H F v o
variable {K : PySem.W.Frag} {Hv Hv' H H' : Hp} {F : List Addr} {v : V} {sd : SD Ω}
theorem OwnR.mono (r : OwnR K Hv H F v sd) (e : Ex Hv Hv') (k : ∀ a ∈ F, H' a = H a) : OwnR K Hv' H' F v sd := by
  cases sd with
  | val d => exact ⟨r.1, r.2.mono e⟩
  | lst l =>
    obtain ⟨p, xs, rfl, rfl, h, a⟩ := r
    exact ⟨p, xs, rfl, rfl, by rw [k p List.mem_cons_self]; exact h, a.mono e⟩
  | dct es =>
    obtain ⟨p, kvs, rfl, rfl, h, q, a⟩ := r
    exact ⟨p, kvs, rfl, rfl, by rw [k p List.mem_cons_self]; exact h, q, a.mono e⟩
  | ob o => exact ObS.mono (Ω := Ω) r e k
theorem OwnR.there {a : Addr} (r : OwnR K Hv H F v sd) (h : a ∈ F) : H a ≠ none := by
  cases sd with
  | val d => rw [r.1] at h; cases h
  | lst l =>
    obtain ⟨p, xs, rfl, rfl, e, _⟩ := r
    rw [List.mem_singleton.mp h, e]; intro z; cases z
  | dct es =>
    obtain ⟨p, kvs, rfl, rfl, e, _⟩ := r
    rw [List.mem_singleton.mp h, e]; intro z; cases z
  | ob o => exact ObS.there (Ω := Ω) r h
end
/-- which slots may be stored into, which hold a caught exception -/
structure Wd where
  w : Nat → Bool
  pin : Nat → Option Addr
instance : CoeFun Wd (fun _ => Nat → Bool) := ⟨Wd.w⟩
/-- what stood as the def began: the heap, what was owned, what of it the parameters own, the slots -/
structure Fr where
  H0 : Hp
  O0 : Ow
  P : Nat → List Addr
  σ0 : L2.St
/-- the slots that the code sees -/
def vis (Ω : Type) [ObS Ω] (σ : L2.St) : L2.St := σ.drop (ObS.off Ω)
/-- the slot i of the code is j here -/
class Ix (Ω : Type) [ObS Ω] (i : Nat) (j : outParam Nat) : Prop where
  eq : j = i + ObS.off Ω
instance {i : Nat} : Ix Empty i i := ⟨rfl⟩
theorem Ix.le {Ω : Type} [ObS Ω] {i j : Nat} (x : Ix Ω i j) : ObS.off Ω ≤ j := by rw [x.eq]; exact Nat.le_add_left _ _
theorem vis_get {Ω : Type} [ObS Ω] {σ : L2.St} {i j : Nat} (h : Ix Ω i j) : (vis Ω σ)[i]? = σ[j]? := by unfold vis; rw [h.eq, List.getElem?_drop, Nat.add_comm]
theorem vis_set {Ω : Type} [ObS Ω] {σ : L2.St} {i j : Nat} {x : Option V} (h : Ix Ω i j) : (vis Ω σ).set i x = vis Ω (σ.set j x) := by
  unfold vis; rw [h.eq, List.drop_set, if_neg (by omega), Nat.add_sub_cancel]
/-- what is said of names -/
structure Nms {Ω : Type} [ObS Ω] (W : Wd) (F : Fr) (env : Env Ω) (O : Ow) (Fp : Nat → List Addr) : Prop where
  un : ∀ i a, ObS.off Ω ≤ i → a ∈ Fp i → O.nm a = none
  hw : ∀ i, i < ObS.off Ω → W i = false
  lt : ∀ o, 0 < ObS.off Ω → env[0]? = some (some (.ob o)) → ∀ a n, O.nm a = some n → n < ObS.sz o
  nn : ∀ a n, O.nm a = some n → F.O0.nm a = some n ∨ (F.H0 a = none ∧ 0 < ObS.off Ω)
  dz : ∀ i, i < ObS.off Ω → F.σ0[i]? = some (some .non)
theorem Nms.set {Ω : Type} [ObS Ω] {W : Wd} {F : Fr} {env : Env Ω} {O O' : Ow} {Fp : Nat → List Addr} {i : Nat} {x : Option (SD Ω)} {Fp' : Nat → List Addr} (h : Nms W F env O Fp) (hi : ObS.off Ω ≤ i) (hn : ∀ a, O'.nm a = O.nm a)
    (hF : ∀ j a, j ≠ i → a ∈ Fp' j → a ∈ Fp j) (hG : ∀ a ∈ Fp' i, O.nm a = none) : Nms W F (env.set i x) O' Fp' where
  nn := fun a n q => h.nn a n (by rw [← hn]; exact q)
  un := fun j a hj ha => by
    rw [hn]
    by_cases e : j = i
    · subst e; exact hG a ha
    · exact h.un j a hj (hF j a e ha)
  hw := h.hw
  dz := h.dz
  lt := fun o ho e a n hnm => by
    rw [List.getElem?_set_ne (by omega)] at e
    exact h.lt o ho e a n (by rw [← hn]; exact hnm)
theorem Nms.off {Ω : Type} [ObS Ω] {W : Wd} {F : Fr} {env : Env Ω} {O : Ow} {Fp : Nat → List Addr} (h : Nms W F env O Fp) {i : Nat} (hw : W i = true) : ObS.off Ω ≤ i := by
  rcases Nat.lt_or_ge i (ObS.off Ω) with q | q
  · rw [h.hw i q] at hw; cases hw
  · exact q
structure Rel {Ω : Type} [ObS Ω] (K : PySem.W.Frag) (W : Wd) (F : Fr) (env : Env Ω) (σ : L2.St) (H : Hp) (O : Ow) (Fp : Nat → List Addr) : Prop where
  nms : Nms W F env O Fp
  len : σ.length = env.length
  slot : ∀ i sd, env[i]? = some (some sd) → ∃ v, σ[i]? = some (some v) ∧ OwnR K (vw O H) H (Fp i) v sd
  own : ∀ i a, a ∈ Fp i → O a
  dis : ∀ i j a, a ∈ Fp i → a ∈ Fp j → i = j
  mine : ∀ i a, a ∈ Fp i → a ∈ F.P i ∨ F.H0 a = none
  sub : ∀ a, F.O0 a → O a
  new : ∀ a, O a → F.O0 a ∨ F.H0 a = none
  all : ∀ a, O a → H a ≠ none
  keep : ∀ a o, F.H0 a = some o → (∀ i, a ∉ F.P i) → H a = some o
  fix : ∀ i, W i = false → σ[i]? = F.σ0[i]?
  pinned : ∀ i a, W.pin i = some a → W i = false ∧ F.σ0[i]? = some (some (.ref a))
  pin : ∀ i a, a ∈ F.P i → F.O0 a
  base : ∀ a, F.O0 a → F.H0 a ≠ none
  pw : ∀ i, W i = true → F.P i = []
section
variable {Ω : Type} [ObS Ω] {K : PySem.W.Frag} {W : Wd} {F : Fr} {env env' : Env Ω} {σ σ' : L2.St} {H H' : Hp} {O O' : Ow} {Fp : Nat → List Addr} {p : Addr}
theorem Rel.fresh (r : Rel K W F env σ H O Fp) (h : H p = none) : F.H0 p = none := by
  cases e : F.H0 p with
  | none => rfl
  | some o =>
    by_cases q : ∃ i, p ∈ F.P i
    · obtain ⟨i, q⟩ := q
      exact absurd h (r.all p (r.sub p (r.pin i p q)))
    · rw [r.keep p o e fun i z => q ⟨i, z⟩] at h; cases h
theorem Rel.loc (r : Rel K W F env σ H O Fp) {i : Nat} (h : W i = true) (a : Addr) (ha : a ∈ Fp i) : F.H0 a = none := by
  rcases r.mine i a ha with z | z
  · rw [r.pw i h] at z; cases z
  · exact z
theorem Rel.notO (r : Rel K W F env σ H O Fp) (h : H p = none) : ¬ O p := fun z => r.all p z h
/-- the heap grows -/
theorem Rel.grow (r : Rel K W F env σ H O Fp) (e : Ex H H') : Rel K W F env σ H' O Fp where
  nms := r.nms
  len := r.len
  slot := fun i sd h => by
    obtain ⟨v, h1, h2⟩ := r.slot i sd h
    refine ⟨v, h1, h2.mono (vw_ex e) fun a ha => ?_⟩
    have z := h2.there ha
    cases q : H a with
    | none => exact absurd q z
    | some o => exact e a o q
  own := r.own
  dis := r.dis
  mine := r.mine
  sub := r.sub
  new := r.new
  all := fun a h => by
    cases q : H a with
    | none => exact absurd q (r.all a h)
    | some o => rw [e a o q]; intro z; cases z
  keep := fun a o h q => e a o (r.keep a o h q)
  fix := r.fix
  pinned := r.pinned
  pin := r.pin
  base := r.base
  pw := r.pw
/-- a slot is forgotten -/
theorem Rel.drop (r : Rel K W F env σ H O Fp) (i : Nat) : Rel K W F (env.set i none) σ H O Fp where
  nms := ⟨r.nms.un, r.nms.hw, fun o ho e => by
    by_cases q : i = 0
    · subst q; rw [List.getElem?_set] at e; simp at e
    · rw [List.getElem?_set_ne q] at e; exact r.nms.lt o ho e, r.nms.nn, r.nms.dz⟩
  len := by rw [List.length_set]; exact r.len
  slot := fun j sd h => by
    by_cases e : i = j
    · subst e
      rw [List.getElem?_set] at h
      simp at h
    · rw [List.getElem?_set_ne e] at h
      exact r.slot j sd h
  own := r.own
  dis := r.dis
  mine := r.mine
  sub := r.sub
  new := r.new
  all := r.all
  keep := r.keep
  fix := r.fix
  pinned := r.pinned
  pin := r.pin
  base := r.base
  pw := r.pw
open Classical in
/-- the footprints with one told anew -/
noncomputable def fset (Fp : Nat → List Addr) (i : Nat) (F : List Addr) : Nat → List Addr := fun j => if j = i then F else Fp j
theorem fset_same {i : Nat} {G : List Addr} : fset Fp i G i = G := by unfold fset; rw [if_pos rfl]
theorem fset_ne {i j : Nat} {G : List Addr} (h : j ≠ i) : fset Fp i G j = Fp j := by unfold fset; rw [if_neg h]
/-- a slot is given a thing -/
theorem Rel.setS (r : Rel K W F env σ H O Fp) {i : Nat} (hi : i < σ.length) (hW : W i = true) {v : V} {sd : SD Ω} {G : List Addr} (ho : OwnR K (vw O H) H G v sd) (hG : ∀ a ∈ G, O.un a ∧ F.H0 a = none ∧ ∀ j, a ∉ Fp j) :
    Rel K W F (env.set i (some sd)) (σ.set i (some v)) H O (fset Fp i G) where
  nms := r.nms.set (r.nms.off hW) (fun _ => rfl) (fun j a e h => by rwa [fset_ne e] at h) (fun a h => by rw [fset_same] at h; exact (hG a h).1.2)
  len := by rw [List.length_set, List.length_set]; exact r.len
  slot := fun j sd' h => by
    by_cases e : j = i
    · subst e
      rw [List.getElem?_set_self (by rw [← r.len]; exact hi)] at h
      cases h
      exact ⟨v, List.getElem?_set_self hi, by rw [fset_same]; exact ho⟩
    · rw [List.getElem?_set_ne (Ne.symm e)] at h
      obtain ⟨u, h1, h2⟩ := r.slot j sd' h
      exact ⟨u, by rw [List.getElem?_set_ne (Ne.symm e)]; exact h1, by rw [fset_ne e]; exact h2⟩
  own := fun j a h => by
    by_cases e : j = i
    · subst e; rw [fset_same] at h; exact (hG a h).1.1
    · rw [fset_ne e] at h; exact r.own j a h
  dis := fun j k a h1 h2 => by
    by_cases e : j = i
    · subst e
      rw [fset_same] at h1
      by_cases e2 : k = j
      · exact e2.symm
      · rw [fset_ne e2] at h2; exact absurd h2 ((hG a h1).2.2 k)
    · rw [fset_ne e] at h1
      by_cases e2 : k = i
      · subst e2; rw [fset_same] at h2; exact absurd h1 ((hG a h2).2.2 j)
      · rw [fset_ne e2] at h2; exact r.dis j k a h1 h2
  mine := fun j a h => by
    by_cases e : j = i
    · subst e; rw [fset_same] at h; exact .inr (hG a h).2.1
    · rw [fset_ne e] at h; exact r.mine j a h
  sub := r.sub
  new := r.new
  all := r.all
  keep := r.keep
  fix := fun j hj => by
    have e : j ≠ i := fun z => by rw [z, hW] at hj; cases hj
    rw [List.getElem?_set_ne (Ne.symm e)]; exact r.fix j hj
  pinned := r.pinned
  pin := r.pin
  base := r.base
  pw := r.pw
theorem Rel.setV (r : Rel K W F env σ H O Fp) {i : Nat} (hi : i < σ.length) (hW : W i = true) {v : V} {d : D} (h : Rp K (vw O H) v d) : Rel K W F (env.set i (some (.val d))) (σ.set i (some v)) H O (fset Fp i []) :=
  r.setS hi hW ⟨rfl, h⟩ (fun a h => nomatch h)
/-- what a slot owns has changed; nothing else has -/
theorem Rel.put (r : Rel K W F env σ H O Fp) {i : Nat} (hx : ObS.off Ω ≤ i) {v : V} {sd sd' : SD Ω} {G : List Addr} (he : env[i]? = some (some sd')) (hv : σ[i]? = some (some v)) (hn : ∀ a, O'.nm a = O.nm a) (hO : ∀ a, O a → O' a) (hO' : ∀ a, O' a → O a ∨ H a = none)
    (ho : OwnR K (vw O' H') H' G v sd) (hG : ∀ a ∈ G, a ∈ Fp i ∨ (O' a ∧ H a = none)) (hk : ∀ a, a ∉ Fp i → ∀ o, H a = some o → H' a = some o) (ha : ∀ a, O' a → H' a ≠ none) :
    Rel K W F (env.set i (some sd)) σ H' O' (fset Fp i G) where
  nms := r.nms.set hx hn (fun j a e h => by rwa [fset_ne e] at h) (fun a h => by
    rw [fset_same] at h
    rcases hG a h with z | z
    · exact r.nms.un i a hx z
    · exact nm_out fun q => r.all a q z.2)
  len := by rw [List.length_set]; exact r.len
  slot := fun j sd' h => by
    have hi : i < env.length := (List.getElem?_eq_some_iff.mp he).1
    by_cases e : j = i
    · subst e
      rw [List.getElem?_set_self hi] at h
      cases h
      exact ⟨v, hv, by rw [fset_same]; exact ho⟩
    · rw [List.getElem?_set_ne (Ne.symm e)] at h
      obtain ⟨u, q1, q2⟩ := r.slot j sd' h
      refine ⟨u, q1, ?_⟩
      rw [fset_ne e]
      refine q2.mono (vw_step hn fun a o z1 z2 => ?_) fun a z => ?_
      · have n : a ∉ Fp i := fun y => z1 (r.own i a y)
        exact ⟨fun y => (hO' a y).elim z1 (fun w => by rw [w] at z2; cases z2), hk a n o z2⟩
      · have n : a ∉ Fp i := fun y => e (r.dis j i a z y)
        cases w : H a with
        | none => exact absurd w (q2.there z)
        | some o => exact hk a n o w
  own := fun j a h => by
    by_cases e : j = i
    · subst e; rw [fset_same] at h
      rcases hG a h with z | z
      · exact hO a (r.own j a z)
      · exact z.1
    · rw [fset_ne e] at h; exact hO a (r.own j a h)
  dis := fun j k a h1 h2 => by
    by_cases e : j = i
    · subst e
      rw [fset_same] at h1
      by_cases e2 : k = j
      · exact e2.symm
      · rw [fset_ne e2] at h2
        rcases hG a h1 with z | z
        · exact r.dis j k a z h2
        · exact absurd z.2 (r.all a (r.own k a h2))
    · rw [fset_ne e] at h1
      by_cases e2 : k = i
      · subst e2
        rw [fset_same] at h2
        rcases hG a h2 with z | z
        · exact r.dis j k a h1 z
        · exact absurd z.2 (r.all a (r.own j a h1))
      · rw [fset_ne e2] at h2; exact r.dis j k a h1 h2
  mine := fun j a h => by
    by_cases e : j = i
    · subst e; rw [fset_same] at h
      rcases hG a h with z | z
      · exact r.mine j a z
      · exact .inr (r.fresh z.2)
    · rw [fset_ne e] at h; exact r.mine j a h
  sub := fun a h => hO a (r.sub a h)
  new := fun a h => (hO' a h).elim (r.new a) fun z => .inr (r.fresh z)
  all := ha
  keep := fun a o h q => by
    refine hk a (fun z => ?_) o (r.keep a o h q)
    rcases r.mine i a z with w | w
    · exact q i w
    · rw [w] at h; cases h
  fix := r.fix
  pinned := r.pinned
  pin := r.pin
  base := r.base
  pw := r.pw
theorem Rel.put_ex (r : Rel K W F env σ H O Fp) {i : Nat} (hn : ∀ a, O'.nm a = O.nm a) (hO' : ∀ a, O' a → O a ∨ H a = none) (hk : ∀ a, a ∉ Fp i → ∀ o, H a = some o → H' a = some o) : Ex (vw O H) (vw O' H') :=
  vw_step hn fun a o z1 z2 => ⟨fun y => (hO' a y).elim z1 (fun w => by rw [w] at z2; cases z2), hk a (fun y => z1 (r.own i a y)) o z2⟩
end
end Ve

set_option Elab.async false
set_option linter.all false
set_option maxRecDepth 100000
set_option maxHeartbeats 4000000
/-! What an expression is worth: a plain function of the slots; that its reading follows it. -/
namespace Ve
open PySem PySem.Spec PyProof.Rows L2 Evl Ny

/-- how an expression ends: with a value, with an exception (its class, what it carries), or beyond what is reckoned -/
inductive Res (Ω α : Type) where
  | ok (a : α) (env : Env Ω) | err (c : Str) (p : Option D) (env : Env Ω) | bad
inductive RV (Ω : Type) where
  | val (d : D) | own (s : SD Ω)
inductive Flow (Ω : Type) where
  | nx (env : Env Ω) | bk (env : Env Ω) | ct (env : Env Ω) | rt (r : RV Ω) (env : Env Ω) | err (c : Str) (p : Option D) (env : Env Ω) | bad
abbrev WX := Value → Option Addr → L2.St → Hp → Prop
def ErrIs (K : PySem.W.Frag) (Hv H : Hp) (c : Str) (p : Option D) (cls : Value) (dx : Option Addr) : Prop :=
  cls = .ref (He.ga K c) ∧ match p with
    | none => dx = none
    | some d => ∃ a v, dx = some a ∧ H a = some (.xd [("room", v)]) ∧ Rp K Hv v d
section
variable {Ω : Type} [ObS Ω]
variable (K : PySem.W.Frag) (W : Wd) (wx : WX)
def Res.bind {α β : Type} (r : Res Ω α) (f : α → Env Ω → Res Ω β) : Res Ω β := match r with
  | .ok a e => f a e
  | .err c p e => .err c p e
  | .bad => .bad
/-- what is wanted behind an expression, by its end -/
def Post {α : Type} (P : α → Env Ω → Prop) (R : Str → Option D → Env Ω → Prop) : Res Ω α → Prop
  | .ok a e => P a e
  | .err c p e => R c p e
  | .bad => False
def Raised (F : Fr) (σ : L2.St) (H : Hp) (O : Ow) (c : Str) (p : Option D) (env' : Env Ω) : Prop :=
  ∀ cls dx H' O' Fp', Rel K W F env' σ H' O' Fp' → Ex (vw O H) (vw O' H') → ErrIs K (vw O' H') H' c p cls dx → wx cls dx (vis Ω σ) H'
def EPost (F : Fr) (σ : L2.St) (H : Hp) (O : Ow) (Q : VK) : Res Ω D → Prop :=
  Post (fun d env' => ∀ v H' O' Fp', Rel K W F env' σ H' O' Fp' → Ex (vw O H) (vw O' H') → Rp K (vw O' H') v d → Q v H') (Raised K W wx F σ H O)
def TPost (F : Fr) (σ : L2.St) (H : Hp) (O : Ow) (Q : Bool → Hp → Prop) : Res Ω Bool → Prop :=
  Post (fun b env' => ∀ H' O' Fp', Rel K W F env' σ H' O' Fp' → Ex (vw O H) (vw O' H') → Q b H') (Raised K W wx F σ H O)
def OPost (F : Fr) (σ : L2.St) (H : Hp) (O : Ow) (Q : VK) : Res Ω (SD Ω) → Prop :=
  Post (fun sd env' => ∀ v H' O' Fp' G, Rel K W F env' σ H' O' Fp' → Ex (vw O H) (vw O' H') → OwnR K (vw O' H') H' G v sd → (∀ a ∈ G, O'.un a ∧ F.H0 a = none ∧ ∀ j, a ∉ Fp' j) → Q v H') (Raised K W wx F σ H O)
def LPost (F : Fr) (σ : L2.St) (H : Hp) (O : Ow) (Q : List V → Hp → Prop) : Res Ω (List D) → Prop :=
  Post (fun ds env' => ∀ vs H' O' Fp', Rel K W F env' σ H' O' Fp' → Ex (vw O H) (vw O' H') → RpAll K (vw O' H') vs ds → Q vs H') (Raised K W wx F σ H O)
/-- an expression's reading follows a function -/
class SatE (t : TE) (m : outParam (Env Ω → Res Ω D)) : Prop where
  go : ∀ F env σ H O Fp Q, Rel K W F env σ H O Fp → EPost K W wx F σ H O Q (m env) → t (vis Ω σ) H Q
class SatT (t : TT) (m : outParam (Env Ω → Res Ω Bool)) : Prop where
  go : ∀ F env σ H O Fp Q, Rel K W F env σ H O Fp → TPost K W wx F σ H O Q (m env) → t (vis Ω σ) H Q
/-- .. that makes a list, a dict, an object -/
class SatO (t : TE) (m : outParam (Env Ω → Res Ω (SD Ω))) : Prop where
  go : ∀ F env σ H O Fp Q, Rel K W F env σ H O Fp → OPost K W wx F σ H O Q (m env) → t (vis Ω σ) H Q
class SatL (t : TA) (m : outParam (Env Ω → Res Ω (List D))) : Prop where
  go : ∀ F env σ H O Fp Q, Rel K W F env σ H O Fp → LPost K W wx F σ H O Q (m env) → t (vis Ω σ) H Q
/-- an operator by values -/
class SatR2 (r : R2) (f : outParam (D → D → Option D)) : Prop where
  go : ∀ (O : Ow) x y d e z H Q, (∀ a, O a → H a ≠ none) → Rp K (vw O H) x d → Rp K (vw O H) y e → f d e = some z → (∀ v H', Ex H H' → Rp K (vw O H') v z → Q v H') → r x y H Q
class SatR1 (r : V → Hp → VK → Prop) (f : outParam (D → Option D)) : Prop where
  go : ∀ (O : Ow) x d z H Q, (∀ a, O a → H a ≠ none) → Rp K (vw O H) x d → f d = some z → (∀ v H', Ex H H' → Rp K (vw O H') v z → Q v H') → r x H Q
class SatRL (r : List V → Hp → VK → Prop) (f : outParam (List D → Option D)) : Prop where
  go : ∀ (O : Ow) xs ds z H Q, (∀ a, O a → H a ≠ none) → RpAll K (vw O H) xs ds → f ds = some z → (∀ v H', Ex H H' → Rp K (vw O H') v z → Q v H') → r xs H Q
end

/-! ### the functions -/
section
variable {Ω : Type}
def eVar (i : Nat) (env : Env Ω) : Res Ω D := match env[i]? with
  | some (some (.val d)) => .ok d env
  | _ => .bad
def eC (d : D) (env : Env Ω) : Res Ω D := .ok d env
def eOp (f : D → D → Option D) (a b : Env Ω → Res Ω D) (env : Env Ω) : Res Ω D := (a env).bind fun x e1 => (b e1).bind fun y e2 => match f x y with
  | some z => .ok z e2
  | none => .bad
def eUn (f : D → Option D) (a : Env Ω → Res Ω D) (env : Env Ω) : Res Ω D := (a env).bind fun x e1 => match f x with
  | some z => .ok z e1
  | none => .bad
def eCB (f : List D → Option D) (a : Env Ω → Res Ω (List D)) (env : Env Ω) : Res Ω D := (a env).bind fun x e1 => match f x with
  | some z => .ok z e1
  | none => .bad
def lNil (env : Env Ω) : Res Ω (List D) := .ok [] env
def lCons (a : Env Ω → Res Ω D) (b : Env Ω → Res Ω (List D)) (env : Env Ω) : Res Ω (List D) := (a env).bind fun x e1 => (b e1).bind fun y e2 => .ok (x :: y) e2
def eTup (a : Env Ω → Res Ω (List D)) (env : Env Ω) : Res Ω D := (a env).bind fun x e1 => if x.length ≤ 1000 then .ok (.tuple x) e1 else .bad
def eIf (t : Env Ω → Res Ω Bool) (a b : Env Ω → Res Ω D) (env : Env Ω) : Res Ω D := (t env).bind fun c e1 => if c = true then a e1 else b e1
def asB : D → Option Bool
  | .bool b => some b
  | _ => none
def eAnd (a b : Env Ω → Res Ω D) (env : Env Ω) : Res Ω D := (a env).bind fun x e1 => match asB x with
  | some c => if c = true then b e1 else .ok (.bool false) e1
  | none => .bad
def eOr (a b : Env Ω → Res Ω D) (env : Env Ω) : Res Ω D := (a env).bind fun x e1 => match asB x with
  | some c => if c = true then .ok (.bool true) e1 else b e1
  | none => .bad
def dNot : D → Option D
  | .bool b => some (.bool (!b))
  | _ => none
def eChain (f g : D → D → Option D) (a b c : Env Ω → Res Ω D) (env : Env Ω) : Res Ω D := (a env).bind fun x e1 => (b e1).bind fun y e2 => match (f x y).bind asB with
  | some k => if k = true then (c e2).bind fun z e3 => (match g y z with | some w => .ok w e3 | none => .bad) else .ok (.bool false) e2
  | none => .bad
/-- truth -/
def truD : D → Option Bool
  | .none => some false
  | .bool b => some b
  | .int i => some (i != 0)
  | .str x => if x.length ≤ sizeLine then some ((x.length : Int) != 0) else none
  | .list l => some (!l.isEmpty)
  | .tuple l => some (!l.isEmpty)
  | .dict es => match refOf (.dict es) with
    | none => some (!es.isEmpty)
    | some _ => none
def tE (f : D → Option Bool) (a : Env Ω → Res Ω D) (env : Env Ω) : Res Ω Bool := (a env).bind fun x e1 => match f x with
  | some b => .ok b e1
  | none => .bad
def tAndM (a b : Env Ω → Res Ω Bool) (env : Env Ω) : Res Ω Bool := (a env).bind fun c e1 => if c = true then b e1 else .ok false e1
def tOrM (a b : Env Ω → Res Ω Bool) (env : Env Ω) : Res Ω Bool := (a env).bind fun c e1 => if c = true then .ok true e1 else b e1
def tNotM (a : Env Ω → Res Ω Bool) (env : Env Ω) : Res Ω Bool := (a env).bind fun c e1 => .ok (!c) e1
def oLst (a : Env Ω → Res Ω (List D)) (env : Env Ω) : Res Ω (SD Ω) := (a env).bind fun x e1 => if x.length ≤ 1000 then .ok (.lst x) e1 else .bad
def oNewD (env : Env Ω) : Res Ω (SD Ω) := .ok (.dct []) env
def frzD : SD Ω → Option D
  | .lst l => some (.list l)
  | _ => none
def eFrz (a : Env Ω → Res Ω (SD Ω)) (env : Env Ω) : Res Ω D := (a env).bind fun x e1 => match frzD x with
  | some d => .ok d e1
  | none => .bad
end
section
variable {Ω : Type} [ObS Ω] {K : PySem.W.Frag} {W : Wd} {wx : WX}
variable {F : Fr} {σ : L2.St} {H H1 : Hp} {O O1 : Ow}
theorem Raised.mono {c : Str} {p : Option D} {env : Env Ω} (h : Raised K W wx F σ H O c p env) (e : Ex (vw O H) (vw O1 H1)) : Raised K W wx F σ H1 O1 c p env :=
  fun cls dx H' O' Fp' r e2 k => h cls dx H' O' Fp' r (e.trans e2) k
/-- a part, then the rest -/
theorem post_bind {α β : Type} {r : Res Ω α} {f : α → Env Ω → Res Ω β} {P : β → Env Ω → Prop} (h : Post P (Raised K W wx F σ H O) (r.bind f)) :
    Post (fun a e => Post P (Raised K W wx F σ H O) (f a e)) (Raised K W wx F σ H O) r := by
  cases r <;> exact h
theorem post_imp {α : Type} {r : Res Ω α} {P P' : α → Env Ω → Prop} (h : Post P (Raised K W wx F σ H O) r) (hp : ∀ a e, P a e → P' a e) : Post P' (Raised K W wx F σ H O) r := by
  cases r with
  | ok a e => exact hp a e h
  | err c p e => exact h
  | bad => exact h
/-- behind a grown heap the wish is the same -/
theorem EPost.mono {Q : VK} {r : Res Ω D} (h : EPost K W wx F σ H O Q r) (e : Ex (vw O H) (vw O1 H1)) : EPost K W wx F σ H1 O1 Q r := by
  cases r with
  | ok a e2 => exact fun v H' O' Fp' r x y => h v H' O' Fp' r (e.trans x) y
  | err c p e2 => exact Raised.mono h e
  | bad => exact h
theorem TPost.mono {Q : Bool → Hp → Prop} {r : Res Ω Bool} (h : TPost K W wx F σ H O Q r) (e : Ex (vw O H) (vw O1 H1)) : TPost K W wx F σ H1 O1 Q r := by
  cases r with
  | ok a e2 => exact fun H' O' Fp' r x => h H' O' Fp' r (e.trans x)
  | err c p e2 => exact Raised.mono h e
  | bad => exact h
theorem LPost.mono {Q : List V → Hp → Prop} {r : Res Ω (List D)} (h : LPost K W wx F σ H O Q r) (e : Ex (vw O H) (vw O1 H1)) : LPost K W wx F σ H1 O1 Q r := by
  cases r with
  | ok a e2 => exact fun v H' O' Fp' r x y => h v H' O' Fp' r (e.trans x) y
  | err c p e2 => exact Raised.mono h e
  | bad => exact h
theorem Post.mono {α : Type} {r : Res Ω α} {P P' : α → Env Ω → Prop} (h : Post P (Raised K W wx F σ H O) r) (e : Ex (vw O H) (vw O1 H1)) (hp : ∀ a e, P a e → P' a e) : Post P' (Raised K W wx F σ H1 O1) r := by
  cases r with
  | ok a e2 => exact hp a e2 h
  | err c p e2 => exact Raised.mono h e
  | bad => exact h
/-- one part, by its function -/
theorem SatE.thn {t : TE} {m : Env Ω → Res Ω D} (S : SatE K W wx t m) {env : Env Ω} {Fp : Nat → List Addr} {Q : VK} (r : Rel K W F env σ H O Fp)
    (h : Post (fun d env' => ∀ v H' O' Fp', Rel K W F env' σ H' O' Fp' → Ex (vw O H) (vw O' H') → Rp K (vw O' H') v d → Q v H') (Raised K W wx F σ H O) (m env)) : t (vis Ω σ) H Q := S.go F env σ H O Fp Q r h
/-- a function's answer -/
theorem epost_opt {Q : VK} {o : Option D} {env : Env Ω} {Fp : Nat → List Addr} (r : Rel K W F env σ H O Fp) (h : EPost K W wx F σ H O Q (match o with | some z => Res.ok z env | none => .bad)) :
    ∃ z, o = some z ∧ ∀ v H', Ex H H' → Rp K (vw O H') v z → Q v H' := by
  cases o with
  | none => exact h.elim
  | some z => exact ⟨z, rfl, fun v H' e hv => h v H' O Fp (r.grow e) (vw_ex e) hv⟩
instance {i j : Nat} [x : Ix Ω i j] : SatE (Ω := Ω) K W wx (tVar i) (eVar j) := ⟨fun F env σ H O Fp Q r h => by
  unfold eVar at h
  split at h
  · rename_i d e
    obtain ⟨v, hv, _, q⟩ := r.slot j _ e
    exact ⟨v, (vis_get x).trans hv, h v H O Fp r (Ex.refl _) q⟩
  · exact h.elim⟩
instance {i : Int} : SatE (Ω := Ω) K W wx (tC (.int i)) (eC (.int i)) := ⟨fun F env σ H O Fp Q r h => h _ H O Fp r (Ex.refl _) (.int i)⟩
instance {b : Bool} : SatE (Ω := Ω) K W wx (tC (.bl b)) (eC (.bool b)) := ⟨fun F env σ H O Fp Q r h => h _ H O Fp r (Ex.refl _) (.bl b)⟩
instance {x : Str} : SatE (Ω := Ω) K W wx (tC (.str x)) (eC (.str x)) := ⟨fun F env σ H O Fp Q r h => h _ H O Fp r (Ex.refl _) (.str x)⟩
instance : SatE (Ω := Ω) K W wx (tC .non) (eC .none) := ⟨fun F env σ H O Fp Q r h => h _ H O Fp r (Ex.refl _) .non⟩
/-- a written thing of the top -/
class KDat (K : PySem.W.Frag) (a : Addr) (d : outParam D) : Prop where
  go : ∀ H, Rp K H (.ref a) d
instance {a : Addr} {d : D} [h : KDat K a d] : SatE (Ω := Ω) K W wx (tC (.ref a)) (eC d) := ⟨fun F env σ H O Fp Q r h' => h' _ H O Fp r (Ex.refl _) (h.go _)⟩
theorem sat_op {r : R2} {f : D → D → Option D} {ta tb : TE} {a b : Env Ω → Res Ω D} (S : SatR2 K r f) (A : SatE K W wx ta a) (B : SatE K W wx tb b) : SatE K W wx (tOp r ta tb) (eOp f a b) := ⟨fun F env σ H O Fp Q rl h => by
  refine A.thn rl ((post_bind h).mono (Ex.refl _) fun x e1 h v1 H1 O1 Fp1 r1 x1 q1 => ?_)
  refine B.thn r1 ((post_bind h).mono x1 fun y e2 h v2 H2 O2 Fp2 r2 x2 q2 => ?_)
  have h2 := EPost.mono (O1 := O2) (H1 := H2) h (x1.trans x2)
  obtain ⟨z, hz, hq⟩ := epost_opt (wx := wx) r2 h2
  exact S.go O2 v1 v2 x y z H2 Q r2.all (q1.mono x2) q2 hz hq⟩
instance {r : R2} {f : D → D → Option D} {ta tb : TE} {a b : Env Ω → Res Ω D} [S : SatR2 K r f] [A : SatE K W wx ta a] [B : SatE K W wx tb b] : SatE K W wx (tOp r ta tb) (eOp f a b) := sat_op S A B
instance {r : V → Hp → VK → Prop} {f : D → Option D} {ta : TE} {a : Env Ω → Res Ω D} [S : SatR1 K r f] [A : SatE K W wx ta a] : SatE K W wx (tUn r ta) (eUn f a) := ⟨fun F env σ H O Fp Q rl h => by
  refine A.thn rl ((post_bind h).mono (Ex.refl _) fun x e1 h v1 H1 O1 Fp1 r1 x1 q1 => ?_)
  have h2 := EPost.mono (O1 := O1) (H1 := H1) h x1
  obtain ⟨z, hz, hq⟩ := epost_opt (wx := wx) r1 h2
  exact S.go O1 v1 x z H1 Q r1.all q1 hz hq⟩
instance : SatL (Ω := Ω) K W wx tNil lNil := ⟨fun F env σ H O Fp Q r h => h [] H O Fp r (Ex.refl _) .nil⟩
instance {ta : TE} {tr : TA} {a : Env Ω → Res Ω D} {b : Env Ω → Res Ω (List D)} [A : SatE K W wx ta a] [B : SatL K W wx tr b] : SatL K W wx (tCons ta tr) (lCons a b) := ⟨fun F env σ H O Fp Q rl h => by
  refine A.thn rl ((post_bind h).mono (Ex.refl _) fun x e1 h v1 H1 O1 Fp1 r1 x1 q1 => ?_)
  refine B.go F e1 σ H1 O1 Fp1 _ r1 ((post_bind h).mono x1 fun ds e2 h vs H2 O2 Fp2 r2 x2 q2 => ?_)
  exact h (v1 :: vs) H2 O2 Fp2 r2 (x1.trans x2) (.cons (q1.mono x2) q2)⟩
instance {r : List V → Hp → VK → Prop} {f : List D → Option D} {ta : TA} {a : Env Ω → Res Ω (List D)} [S : SatRL K r f] [A : SatL K W wx ta a] : SatE K W wx (tCB r ta) (eCB f a) := ⟨fun F env σ H O Fp Q rl h => by
  refine A.go F env σ H O Fp _ rl ((post_bind h).mono (Ex.refl _) fun x e1 h v1 H1 O1 Fp1 r1 x1 q1 => ?_)
  have h2 := EPost.mono (O1 := O1) (H1 := H1) h x1
  obtain ⟨z, hz, hq⟩ := epost_opt (wx := wx) r1 h2
  exact S.go O1 v1 x z H1 Q r1.all q1 hz hq⟩
theorem vw_new {p : Addr} {o : HO} (hO : ¬ O p) (hp : H p = none) (hv : seenO o = true := by rfl) : vw O (upd H p o) p = some o := vw_outV hO upd_same hv

theorem le1000 {n : Nat} (h : n ≤ 1000) : n ≤ sizeLine := Nat.le_trans h (by decide)
instance {ta : TA} {a : Env Ω → Res Ω (List D)} [A : SatL K W wx ta a] : SatE K W wx (tTup ta) (eTup a) := ⟨fun F env σ H O Fp Q rl h => by
  refine A.go F env σ H O Fp _ rl ((post_bind h).mono (Ex.refl _) fun x e1 h v1 H1 O1 Fp1 r1 x1 q1 => ?_)
  by_cases hl : x.length ≤ 1000
  · rw [if_pos hl] at h
    refine ⟨le1000 (by rw [q1.length]; exact hl), fun p hp => ?_⟩
    have e := Ex.new (o := HO.tup v1) hp
    exact h _ _ O1 Fp1 (r1.grow e) (x1.trans (vw_ex e)) (.tup (.of (vw_new (r1.notO hp) hp)) (q1.mono (vw_ex e)))
  · rw [if_neg hl] at h; exact h.elim⟩
/-- a new own thing -/
def addO (O : Ow) (p : Addr) : Ow := ⟨fun a => O a ∨ a = p, O.nm, O.inj, fun a n h => .inl (O.sub a n h)⟩
theorem addO_un {p : Addr} (hO : ¬ O p) : (addO O p).un p := ⟨.inr rfl, show O.nm p = none from nm_out hO⟩
theorem vw_add {p : Addr} {o : HO} (hO : ¬ O p) (hp : H p = none) : vw (addO O p) (upd H p o) = vw O H := by
  funext a
  rcases vw_cases (O := O) (a := a) with ⟨n, q, e1⟩ | ⟨q, e1⟩ | ⟨q, e1⟩
  · rw [e1, vw_nm (O := addO O p) q]
  · rw [e1, vw_in (O := addO O p) ⟨.inl q.1, q.2⟩]
  · by_cases e : a = p
    · subst e; rw [e1, hp, vw_in (O := addO O a) ⟨.inr rfl, show O.nm a = none from nm_out q⟩]; rfl
    · rw [e1, vw_out (O := addO O p) (fun z => z.elim q e), upd_ne e]
theorem Rel.newO {env : Env Ω} {Fp : Nat → List Addr} (r : Rel K W F env σ H O Fp) {p : Addr} {o : HO} (hp : H p = none) : Rel K W F env σ (upd H p o) (addO O p) Fp where
  nms := ⟨r.nms.un, r.nms.hw, r.nms.lt, r.nms.nn, r.nms.dz⟩
  len := r.len
  slot := fun i sd h => by
    obtain ⟨v, h1, h2⟩ := r.slot i sd h
    refine ⟨v, h1, ?_⟩
    rw [vw_add (r.notO hp) hp]
    refine h2.mono (Ex.refl _) fun a ha => upd_ne fun z => ?_
    subst z; exact h2.there ha hp
  own := fun i a h => .inl (r.own i a h)
  dis := r.dis
  mine := r.mine
  sub := fun a h => .inl (r.sub a h)
  new := fun a h => h.elim (r.new a) fun z => .inr (by rw [z]; exact r.fresh hp)
  all := fun a h => by
    by_cases e : a = p
    · rw [e, upd_same]; intro z; cases z
    · rw [upd_ne e]; exact r.all a (h.resolve_right e)
  keep := fun a o' h q => by
    rw [upd_ne]
    · exact r.keep a o' h q
    · intro z; subst z; rw [r.fresh hp] at h; cases h
  fix := r.fix
  pinned := r.pinned
  pin := r.pin
  base := r.base
  pw := r.pw
instance {ta : TA} {a : Env Ω → Res Ω (List D)} [A : SatL K W wx ta a] : SatO K W wx (tLst ta) (oLst a) := ⟨fun F env σ H O Fp Q rl h => by
  refine A.go F env σ H O Fp _ rl ((post_bind h).mono (Ex.refl _) fun x e1 h v1 H1 O1 Fp1 r1 x1 q1 => ?_)
  by_cases hl : x.length ≤ 1000
  · rw [if_pos hl] at h
    refine ⟨le1000 (by rw [q1.length]; exact hl), fun p hp => ?_⟩
    have hO := r1.notO hp
    refine h _ _ (addO O1 p) Fp1 [p] (r1.newO hp) (by rw [vw_add hO hp]; exact x1) ⟨p, v1, rfl, rfl, upd_same, by rw [vw_add hO hp]; exact q1⟩ fun a ha => ?_
    rw [List.mem_singleton.mp ha]
    exact ⟨addO_un hO, r1.fresh hp, fun j z => r1.all p (r1.own j p z) hp⟩
  · rw [if_neg hl] at h; exact h.elim⟩
instance : SatO (Ω := Ω) K W wx tDNewK oNewD := ⟨fun F env σ H O Fp Q rl h => fun p hp => by
  have hO := rl.notO hp
  refine h _ _ (addO O p) Fp [p] (rl.newO hp) (by rw [vw_add hO hp]; exact Ex.refl _) ⟨p, [], rfl, rfl, upd_same, rfl, .nil⟩ fun a ha => ?_
  rw [List.mem_singleton.mp ha]
  exact ⟨addO_un hO, rl.fresh hp, fun j z => rl.all p (rl.own j p z) hp⟩⟩
/-- some own things are own no more -/
def subO (O : Ow) (G : List Addr) : Ow := ⟨fun a => O a ∧ (a ∈ G → O.nm a ≠ none), O.nm, O.inj, fun a n h => ⟨O.sub a n h, fun _ z => by rw [h] at z; cases z⟩⟩
theorem subO_out {G : List Addr} {a : Addr} (h : O.nm a = none) (m : a ∈ G) : ¬ (subO O G) a := fun z => z.2 m h
theorem vw_subO {G : List Addr} : Ex (vw O H) (vw (subO O G) H) := vw_sub (fun a h => h.1) fun _ => rfl
theorem Rel.unO {env : Env Ω} {Fp : Nat → List Addr} (r : Rel K W F env σ H O Fp) {G : List Addr} (hG : ∀ a ∈ G, F.H0 a = none ∧ ∀ j, a ∉ Fp j) : Rel K W F env σ H (subO O G) Fp where
  nms := ⟨r.nms.un, r.nms.hw, r.nms.lt, r.nms.nn, r.nms.dz⟩
  len := r.len
  slot := fun i sd h => by
    obtain ⟨v, h1, h2⟩ := r.slot i sd h
    exact ⟨v, h1, h2.mono vw_subO fun _ _ => rfl⟩
  own := fun i a h => ⟨r.own i a h, fun z => absurd h ((hG a z).2 i)⟩
  dis := r.dis
  mine := r.mine
  sub := fun a h => ⟨r.sub a h, fun z => absurd (hG a z).1 (r.base a h)⟩
  new := fun a h => r.new a h.1
  all := fun a h => r.all a h.1
  keep := r.keep
  fix := r.fix
  pinned := r.pinned
  pin := r.pin
  base := r.base
  pw := r.pw
theorem frz_rp {v : V} {sd : SD Ω} {G : List Addr} {d : D} (h : OwnR K (vw O H) H G v sd) (hu : ∀ a ∈ G, O.nm a = none) (e : frzD sd = some d) : Rp K (vw (subO O G) H) v d := by
  cases sd with
  | val d => cases e
  | ob o => cases e
  | lst l =>
    cases e
    obtain ⟨p, xs, rfl, rfl, q, a⟩ := h
    exact .lst (.of (vw_outV (subO_out (hu p List.mem_cons_self) List.mem_cons_self) q rfl)) (a.mono vw_subO)
  | dct es => cases e
theorem sat_frz {t : TE} {m : Env Ω → Res Ω (SD Ω)} (S : SatO K W wx t m) : SatE K W wx t (eFrz m) := ⟨fun F env σ H O Fp Q rl h => by
  refine S.go F env σ H O Fp Q rl ((post_bind h).mono (Ex.refl _) fun x e1 h v1 H1 O1 Fp1 G r1 x1 q1 hG => ?_)
  split at h
  · rename_i d e
    exact h v1 H1 (subO O1 G) Fp1 (r1.unO fun a ha => (hG a ha).2) (x1.trans vw_subO) (frz_rp q1 (fun a ha => (hG a ha).1.2) e)
  · exact h.elim⟩
end
end Ve

set_option Elab.async false
set_option linter.all false
set_option maxRecDepth 100000
set_option maxHeartbeats 4000000
/-! Operators, comparisons, built-ins: what they are worth on data. -/
namespace Ve
open PySem PySem.Spec PyProof.Rows L2 Evl Ny

section
variable {Ω : Type} [ObS Ω] {K : PySem.W.Frag} {W : Wd} {wx : WX}
variable {ta tb tc : TE} {a b c : Env Ω → Res Ω D}
theorem asB_some {d : D} {k : Bool} (h : asB d = some k) : d = .bool k := by
  cases d <;> first | (cases h; rfl) | cases h
instance {t : TT} {m : Env Ω → Res Ω Bool} [T : SatT K W wx t m] [A : SatE K W wx ta a] [B : SatE K W wx tb b] : SatE K W wx (tIf t ta tb) (eIf m a b) := ⟨fun F env σ H O Fp Q rl h => by
  refine T.go F env σ H O Fp _ rl ((post_bind h).mono (Ex.refl _) fun k e1 h H1 O1 Fp1 r1 x1 => ?_)
  cases k with
  | true => exact iteT (A.go F e1 _ H1 O1 Fp1 Q r1 (EPost.mono h x1))
  | false => exact iteF (B.go F e1 _ H1 O1 Fp1 Q r1 (EPost.mono h x1))⟩
instance [A : SatE K W wx ta a] [B : SatE K W wx tb b] : SatE K W wx (tAndV ta tb) (eAnd a b) := ⟨fun F env σ H O Fp Q rl h => by
  refine A.thn rl ((post_bind h).mono (Ex.refl _) fun x e1 h v1 H1 O1 Fp1 r1 x1 q1 => ?_)
  cases e : asB x with
  | none => rw [e] at h; exact h.elim
  | some k =>
    rw [e] at h
    obtain rfl := asB_some e
    refine ⟨k, q1.bl', ?_⟩
    cases k with
    | true => exact iteT (B.go F e1 _ H1 O1 Fp1 Q r1 (EPost.mono h x1))
    | false => exact iteF (h _ H1 O1 Fp1 r1 x1 (.bl false))⟩
instance [A : SatE K W wx ta a] [B : SatE K W wx tb b] : SatE K W wx (tOrV ta tb) (eOr a b) := ⟨fun F env σ H O Fp Q rl h => by
  refine A.thn rl ((post_bind h).mono (Ex.refl _) fun x e1 h v1 H1 O1 Fp1 r1 x1 q1 => ?_)
  cases e : asB x with
  | none => rw [e] at h; exact h.elim
  | some k =>
    rw [e] at h
    obtain rfl := asB_some e
    refine ⟨k, q1.bl', ?_⟩
    cases k with
    | false => exact iteF (B.go F e1 _ H1 O1 Fp1 Q r1 (EPost.mono h x1))
    | true => exact iteT (h _ H1 O1 Fp1 r1 x1 (.bl true))⟩
instance [A : SatE K W wx ta a] : SatE K W wx (tNotV ta) (eUn dNot a) := ⟨fun F env σ H O Fp Q rl h => by
  refine A.thn rl ((post_bind h).mono (Ex.refl _) fun x e1 h v1 H1 O1 Fp1 r1 x1 q1 => ?_)
  cases x with
  | bool k => exact ⟨k, q1.bl', h _ H1 O1 Fp1 r1 x1 (.bl _)⟩
  | _ => exact h.elim⟩
instance {r r' : R2} {f g : D → D → Option D} [S : SatR2 K r f] [S' : SatR2 K r' g] [A : SatE K W wx ta a] [B : SatE K W wx tb b] [C : SatE K W wx tc c] : SatE K W wx (tChain r r' ta tb tc) (eChain f g a b c) := ⟨fun F env σ H O Fp Q rl h => by
  refine A.thn rl ((post_bind h).mono (Ex.refl _) fun x e1 h v1 H1 O1 Fp1 r1 x1 q1 => ?_)
  refine B.thn r1 ((post_bind h).mono x1 fun y e2 h v2 H2 O2 Fp2 r2 x2 q2 => ?_)
  cases e : f x y with
  | none => simp only [e, Option.bind_none] at h; exact h.elim
  | some z =>
    simp only [e, Option.bind_some] at h
    refine S.go O2 v1 v2 x y z H2 _ r2.all (q1.mono x2) q2 e fun v3 H3 x3 q3 => ?_
    cases ez : asB z with
    | none => rw [ez] at h; exact h.elim
    | some k =>
      rw [ez] at h
      obtain rfl := asB_some ez
      refine ⟨k, q3.bl', ?_⟩
      have x23 : Ex (vw O2 H2) (vw O2 H3) := vw_ex x3
      have r3 := r2.grow x3
      have x03 := (x1.trans x2).trans x23
      cases k with
      | false => exact iteF (h _ H3 O2 Fp2 r3 x03 (.bl false))
      | true =>
        refine iteT ?_
        have h' : EPost K W wx F _ H O Q ((c e2).bind fun z e3 => match g y z with | some w => Res.ok w e3 | none => .bad) := h
        refine C.thn r3 ((post_bind h').mono x03 fun u e3 h4 v4 H4 O4 Fp4 r4 x4 q4 => ?_)
        have h5 := EPost.mono (O1 := O4) (H1 := H4) h4 (x03.trans x4)
        obtain ⟨w, hw, hq⟩ := epost_opt (wx := wx) r4 h5
        exact S'.go O4 v2 v4 y u w H4 Q r4.all ((q2.mono x23).mono x4) q4 hw hq⟩
/-! ### tests -/
instance {ta : TE} [A : SatE K W wx ta a] : SatT K W wx (tB ta) (tE asB a) := ⟨fun F env σ H O Fp Q rl h => by
  refine A.thn rl ((post_bind h).mono (Ex.refl _) fun x e1 h v1 H1 O1 Fp1 r1 x1 q1 => ?_)
  cases e : asB x with
  | none => rw [e] at h; exact h.elim
  | some k =>
    rw [e] at h
    obtain rfl := asB_some e
    exact ⟨k, q1.bl', h H1 O1 Fp1 r1 x1⟩⟩
instance {ta : TE} [A : SatE K W wx ta a] : SatT K W wx (tTest ta) (tE asB a) := ⟨fun F env σ H O Fp Q rl h => by
  refine A.thn rl ((post_bind h).mono (Ex.refl _) fun x e1 h v1 H1 O1 Fp1 r1 x1 q1 => ?_)
  cases e : asB x with
  | none => rw [e] at h; exact h.elim
  | some k =>
    rw [e] at h
    obtain rfl := asB_some e
    exact ⟨k, q1.bl', h H1 O1 Fp1 r1 x1⟩⟩
theorem isEmpty_len {α β : Type} {xs : List α} {ys : List β} (h : xs.length = ys.length) : xs.isEmpty = ys.isEmpty := by
  cases xs <;> cases ys <;> first | rfl | cases h
theorem keys_len {kvs : List (Key × V)} {es : List (D × D)} (h : es.map (·.1) = kvs.map (fun p => kD p.1)) : kvs.length = es.length := by
  have := congrArg List.length h
  simpa using this.symm
theorem tru_ok {O : Ow} {H : Hp} {v : V} {d : D} {k : Bool} (h : Rp K (vw O H) v d) (e : truD d = some k) : TruW K v H k := by
  cases h with
  | non => cases e; exact .inl rfl
  | bl b => cases e; exact .inl rfl
  | int i => cases e; exact .inl rfl
  | str x =>
    by_cases hl : x.length ≤ sizeLine
    · simp only [truD, hl, if_true] at e; cases e; exact .inl ⟨hl, rfl⟩
    · simp only [truD, hl, if_false] at e; cases e
  | lst hs ha => cases e; exact .inl (.inl ⟨_, vw_l hs, by rw [isEmpty_len ha.length]⟩)
  | tup hs ha => cases e; exact .inl (.inr (.inl ⟨_, vw_t hs, by rw [isEmpty_len ha.length]⟩))
  | ref hn => cases e
  | dct hs hk ha =>
    unfold truD at e; dsimp only at e; rw [keys_no hk] at e
    cases e; exact .inr ⟨_, _, rfl, vw_d hs, by rw [isEmpty_len (keys_len hk)]⟩
instance {ta : TE} [A : SatE K W wx ta a] : SatT K W wx (tTr K ta) (tE truD a) := ⟨fun F env σ H O Fp Q rl h => by
  refine A.thn rl ((post_bind h).mono (Ex.refl _) fun x e1 h v1 H1 O1 Fp1 r1 x1 q1 => ?_)
  cases e : truD x with
  | none => rw [e] at h; exact h.elim
  | some k =>
    rw [e] at h
    exact ⟨k, tru_ok q1 e, h H1 O1 Fp1 r1 x1⟩⟩
section
variable {t u : TT} {m n : Env Ω → Res Ω Bool}
instance [A : SatT K W wx t m] [B : SatT K W wx u n] : SatT K W wx (tAnd t u) (tAndM m n) := ⟨fun F env σ H O Fp Q rl h => by
  refine A.go F env σ H O Fp _ rl ((post_bind h).mono (Ex.refl _) fun k e1 h H1 O1 Fp1 r1 x1 => ?_)
  cases k with
  | true => exact iteT (B.go F e1 _ H1 O1 Fp1 Q r1 (TPost.mono h x1))
  | false => exact iteF (h H1 O1 Fp1 r1 x1)⟩
instance [A : SatT K W wx t m] [B : SatT K W wx u n] : SatT K W wx (tOr t u) (tOrM m n) := ⟨fun F env σ H O Fp Q rl h => by
  refine A.go F env σ H O Fp _ rl ((post_bind h).mono (Ex.refl _) fun k e1 h H1 O1 Fp1 r1 x1 => ?_)
  cases k with
  | false => exact iteF (B.go F e1 _ H1 O1 Fp1 Q r1 (TPost.mono h x1))
  | true => exact iteT (h H1 O1 Fp1 r1 x1)⟩
instance [A : SatT K W wx t m] : SatT K W wx (tNot t) (tNotM m) := ⟨fun F env σ H O Fp Q rl h => by
  refine A.go F env σ H O Fp _ rl ((post_bind h).mono (Ex.refl _) fun k e1 h H1 O1 Fp1 r1 x1 => ?_)
  exact h H1 O1 Fp1 r1 x1⟩
end
end

/-! ### operators -/
def dAdd : D → D → Option D
  | .int i, .int j => some (.int (i + j))
  | .list a, .list b => if a.length + b.length ≤ 1000000 then some (.list (a ++ b)) else none
  | .str x, .str y => if x.length + y.length ≤ 1000000 then some (.str (x ++ y)) else none
  | .tuple a, .tuple b => if a.length + b.length ≤ 1000000 then some (.tuple (a ++ b)) else none
  | _, _ => none
def dI (f : Int → Int → D) : D → D → Option D
  | .int i, .int j => some (f i j)
  | _, _ => none
def dIc (c : Int → Int → Prop) [∀ i j, Decidable (c i j)] (f : Int → Int → D) : D → D → Option D
  | .int i, .int j => if c i j then some (f i j) else none
  | _, _ => none
abbrev dSub : D → D → Option D := dI fun i j => .int (i - j)
abbrev dLt : D → D → Option D := dI fun i j => .bool (decide (i < j))
abbrev dLe : D → D → Option D := dI fun i j => .bool (decide (i ≤ j))
abbrev dGt : D → D → Option D := dI fun i j => .bool (decide (j < i))
abbrev dGe : D → D → Option D := dI fun i j => .bool (decide (j ≤ i))
def mulOk (i j : Int) : Prop := (-(2 ^ 64) < i ∧ i < 2 ^ 64) ∨ (-(2 ^ 64) < j ∧ j < 2 ^ 64) ∨ (i.natAbs < 10 ^ 200 ∧ j.natAbs < 10 ^ 200)
instance (i j : Int) : Decidable (mulOk i j) := by unfold mulOk; infer_instance
abbrev dMul : D → D → Option D := dIc mulOk fun i j => .int (i * j)
def modOk (_ j : Int) : Prop := 0 < j
instance (i j : Int) : Decidable (modOk i j) := by unfold modOk; infer_instance
def divOk (_ j : Int) : Prop := 0 < j ∧ j < 10 ^ 200
instance (i j : Int) : Decidable (divOk i j) := by unfold divOk; infer_instance
def powOk (i j : Int) : Prop := 0 ≤ j ∧ j ≤ 1000 ∧ 0 ≤ i ∧ i ≤ 1000
instance (i j : Int) : Decidable (powOk i j) := by unfold powOk; infer_instance
abbrev dMod : D → D → Option D := dIc modOk fun i j => .int (i % j)
abbrev dDiv : D → D → Option D := dIc divOk fun i j => .int (i / j)
abbrev dPow : D → D → Option D := dIc powOk fun i j => .int (i ^ j.toNat)
def dNeg : D → Option D
  | .int i => some (.int (-i))
  | _ => none
def eqB : D → D → Option Bool
  | .int i, .int j => some (decide (i = j))
  | .str x, .str y => some (decide (x = y))
  | .bool a, .bool b => some (decide (a = b))
  | d, e => if SeqAt.shaped d = true ∧ SeqAt.shaped e = true then some (PyData.eqv d e) else none
def dEq (d e : D) : Option D := (eqB d e).map .bool
def dNe (d e : D) : Option D := (eqB d e).map fun b => .bool (!b)
def isNo : D → Bool
  | .none => true
  | _ => false
def dIs : D → D → Option D
  | d, .none => some (.bool (isNo d))
  | .bool a, .bool b => some (.bool (decide (a = b)))
  | _, _ => none
def dIsN : D → D → Option D
  | d, .none => some (.bool (!isNo d))
  | .bool a, .bool b => some (.bool (!decide (a = b)))
  | _, _ => none
def keyD : D → Option Key
  | .int i => some (.inl i)
  | .str x => some (.inr x)
  | _ => none
/-- what a dict's entries tell of a key -/
def lookE (es : List (D × D)) (k : Key) : Option D := (es.find? fun p => decide (keyD p.1 = some k)).map (·.2)
def putE (es : List (D × D)) (k : Key) (d : D) : List (D × D) := if (es.any fun p => decide (keyD p.1 = some k)) = true then es.map (fun p => if keyD p.1 = some k then (p.1, d) else p) else es ++ [(kD k, d)]
theorem keyD_kD (k : Key) : keyD (kD k) = some k := by cases k <;> rfl
theorem keyD_some {k : D} {kk : Key} (h : keyD k = some kk) : k = kD kk := by
  cases k <;> first | (cases h; rfl) | cases h
def dIx : D → D → Option D
  | .dict es, y => if refOf (.dict es) = none then (keyD y).bind fun k => lookE es k else none
  | .list l, .int i => atI l i
  | .tuple l, .int i => atI l i
  | .str z, .int i => if z.length ≤ sizeLine then (atI z.cps.toList i).map fun c => .str ⟨#[c]⟩ else none
  | _, _ => none
def flatD : D → Bool
  | .none | .bool _ | .int _ | .str _ => true
  | _ => false
def inB : D → D → Option Bool
  | d, .list l => if SeqAt.shaped d = true ∧ SeqAt.shaped (.list l) = true then some (l.any fun z => PyData.eqv z d) else none
  | d, .tuple l => if flatD d = true ∧ l.all flatD = true then some (l.any fun z => PyData.eqv z d) else none
  | d, .dict es => if refOf (.dict es) = none then (keyD d).map fun k => (lookE es k).isSome else none
  | _, _ => none
def dIn (d e : D) : Option D := (inB d e).map .bool
def dNin (d e : D) : Option D := (inB d e).map fun b => .bool (!b)
section
variable {K : PySem.W.Frag}
mutual
theorem lay_noD : ∀ d : D, d.canLay0 = true → noD d = true
  | .none, _ => by simp [noD]
  | .bool _, _ => by simp [noD]
  | .int _, _ => by simp [noD]
  | .str _, _ => by simp [noD]
  | .list l, h => by simp [noD]; exact lay_noDs l (by simpa [PyData.canLay0] using h)
  | .tuple l, h => by simp [noD]; exact lay_noDs l (by simpa [PyData.canLay0] using h)
  | .dict _, h => by simp [PyData.canLay0] at h
theorem lay_noDs : ∀ l : List D, PyData.canLayAll0 l = true → noD.noDs l = true
  | [], _ => by simp [noD.noDs]
  | d :: l, h => by
    simp [PyData.canLayAll0] at h
    simp [noD.noDs]
    exact ⟨lay_noD d h.1, lay_noDs l h.2⟩
end
theorem shaped_noD {d : D} (h : SeqAt.shaped d = true) : noD d = true := lay_noD d (SeqAt.canLay_of_shaped h)
theorem atI_get {K : PySem.W.Frag} {H : Hp} {xs : List V} {l : List D} {i : Int} {z : D} (h : RpAll K H xs l) (e : atI l i = some z) : ∃ v, atI xs i = some v ∧ Rp K H v z := by
  unfold atI at e ⊢
  rw [h.length]
  cases q : ixN l.length i with
  | none => rw [q] at e; cases e
  | some j =>
    rw [q] at e
    exact h.get' e
theorem flat_of {H : Hp} {v : V} {d : D} (h : Rp K H v d) (e : flatD d = true) : flatV v = true := by
  cases h <;> first | rfl | cases e
theorem eqV_of {H : Hp} {v u : V} {d e : D} (h : Rp K H v d) (k : Rp K H u e) (f : flatD d = true) (g : flatD e = true) : eqV v u = PyData.eqv d e := by
  cases h <;> cases k <;> first | rfl | (simp [flatD] at f; done) | (simp [flatD] at g; done) | (simp [eqV, PyData.eqv]; done)
theorem any_of {H : Hp} {u : V} {e : D} (k : Rp K H u e) (g : flatD e = true) : ∀ {xs : List V} {l : List D}, RpAll K H xs l → l.all flatD = true → xs.all flatV = true ∧ (xs.any fun y => eqV y u) = l.any fun z => PyData.eqv z e
  | _, _, .nil, _ => ⟨rfl, rfl⟩
  | _, _, .cons h t, f => by
    rw [List.all_cons, Bool.and_eq_true] at f
    obtain ⟨h1, h2⟩ := any_of k g t f.2
    exact ⟨by rw [List.all_cons, flat_of h f.1, h1]; rfl, by rw [List.any_cons, List.any_cons, h2, eqV_of h k f.1 g]⟩
/-- in, of lists of data, of tuples of flat things -/
def vIn (K : PySem.W.Frag) : R2 := fun x y H Q => rInD K x y H Q ∨ rIn K false x y H Q ∨ rDIn false x y H Q
def vNin (K : PySem.W.Frag) : R2 := fun x y H Q => rNotInD K x y H Q ∨ rIn K true x y H Q ∨ rDIn true x y H Q
theorem ov_in {X : Cx} (hu : X.A.units + 64 < cLine) (hu2 : X.A.units + 65 < cLine) : OpR X (compareOp .In) (vIn X.K) := (op_inD hu2).or (op_in_seq.or (op_dIn hu))
theorem ov_nin {X : Cx} (hu : X.A.units + 64 < cLine) (hu2 : X.A.units + 65 < cLine) : OpR X (compareOp .NotIn) (vNin X.K) := (op_notInD hu2).or (op_notIn_seq.or (op_dNin hu))
variable {O : Ow} {H : Hp}
theorem keyD_v {H : Hp} {v : V} {k : D} {kk : Key} (h : keyD k = some kk) (r : Rp K H v k) : v = kV kk := by
  obtain rfl := keyD_some h
  cases kk <;> cases r <;> rfl
theorem look_ok {H : Hp} (k : Key) : ∀ {es : List (D × D)} {kvs : List (Key × V)}, es.map (·.1) = kvs.map (fun p => kD p.1) → RpAll K H (kvs.map (·.2)) (es.map (·.2)) →
    (lookE es k = none ∧ valV kvs k = none) ∨ ∃ z v, lookE es k = some z ∧ valV kvs k = some v ∧ Rp K H v z
  | [], [], _, _ => .inl ⟨rfl, rfl⟩
  | [], _ :: _, h, _ => by cases h
  | _ :: _, [], h, _ => by cases h
  | (kd, d) :: es, (k', v) :: kvs, h, r => by
    rw [List.map_cons, List.map_cons] at h r
    injection h with h1 h2
    have h1 : kd = kD k' := h1
    subst h1
    cases r with
    | cons r1 r2 =>
      by_cases e : k' = k
      · subst e
        refine .inr ⟨d, v, ?_, valV_pos rfl, r1⟩
        unfold lookE; rw [List.find?_cons_of_pos (by simp [keyD_kD])]; rfl
      · have e1 : lookE ((kD k', d) :: es) k = lookE es k := by
          unfold lookE; rw [List.find?_cons_of_neg (by simp [keyD_kD, e])]
        rw [e1, valV_neg (p := (k', v)) e]
        exact look_ok k h2 r2
theorem Rp.dget {v : V} {es : List (D × D)} (hn : refOf (.dict es) = none) (h : Rp K (vw O H) v (.dict es)) : ∃ a kvs, v = .ref a ∧ Rd H a (.dK kvs) ∧ es.map (·.1) = kvs.map (fun p => kD p.1) ∧ RpAll K (vw O H) (kvs.map (·.2)) (es.map (·.2)) := by
  obtain ⟨a, o, kvs, rfl, h1, h2, h3⟩ := h.dct' hn
  exact ⟨a, kvs, rfl, vw_d h1, h2, h3⟩
instance : SatR2 K (uAdd K) dAdd := ⟨fun O x y d e z H Q hO hx hy hf hq => by
  unfold dAdd at hf
  split at hf
  · cases hf; cases hx; cases hy
    exact w_add (hq _ H (Ex.refl _) (.int _))
  · split at hf
    · rename_i hl
      cases hf
      obtain ⟨a, xs, rfl, h1, h2⟩ := hx.lst'
      obtain ⟨b, ys, rfl, h3, h4⟩ := hy.lst'
      refine w_addL (vw_l h1) (vw_l h3) (by rw [h2.length, h4.length]; exact Nat.le_trans hl (by decide)) fun p H2 hp e hat => ?_
      refine hq _ H2 e (.lst (.of ?_) ((h2.append h4).mono (vw_ex e)))
      exact vw_outV (fun z => hO p z hp) hat rfl
    · cases hf
  · split at hf
    · rename_i hl
      cases hf; cases hx; cases hy
      exact w_addS (Nat.le_trans hl (by decide)) (hq _ H (Ex.refl _) (.str _))
    · cases hf
  · split at hf
    · rename_i hl
      cases hf
      obtain ⟨a, xs, rfl, h1, h2⟩ := hx.tup'
      obtain ⟨b, ys, rfl, h3, h4⟩ := hy.tup'
      refine .inr (.inr (.inr ⟨a, b, xs, ys, rfl, rfl, vw_t h1, vw_t h3, by rw [h2.length, h4.length]; exact Nat.le_trans hl (by decide), ?_, ?_, ?_⟩))
      · rintro rfl
        rw [h2.nil', List.nil_append] at hq
        exact hq _ H (Ex.refl _) (.tup h3 h4)
      · rintro _ rfl
        rw [h4.nil', List.append_nil] at hq
        exact hq _ H (Ex.refl _) (.tup h1 h2)
      · intro _ _ p hp
        exact hq _ _ (Ex.new hp) (.tup (.of (vw_new (fun z => hO p z hp) hp)) ((h2.append h4).mono (vw_ex (Ex.new hp))))
    · cases hf
  · cases hf⟩
theorem sat_I {r : R2} {f : Int → Int → D} {g : Int → Int → V} (hr : ∀ i j H Q, Q (g i j) H → r (.int i) (.int j) H Q) (hg : ∀ i j H, Rp K H (g i j) (f i j)) : SatR2 K r (dI f) := ⟨fun O x y d e z H Q hO hx hy hf hq => by
  unfold dI at hf
  split at hf
  · cases hf; cases hx; cases hy
    exact hr _ _ _ _ (hq _ H (Ex.refl _) (hg _ _ _))
  · cases hf⟩
theorem sat_Ic {r : R2} {c : Int → Int → Prop} [∀ i j, Decidable (c i j)] {f : Int → Int → D} {g : Int → Int → V} (hr : ∀ i j H Q, c i j → Q (g i j) H → r (.int i) (.int j) H Q) (hg : ∀ i j H, Rp K H (g i j) (f i j)) : SatR2 K r (dIc c f) := ⟨fun O x y d e z H Q hO hx hy hf hq => by
  unfold dIc at hf
  split at hf
  · split at hf
    · rename_i hc
      cases hf; cases hx; cases hy
      exact hr _ _ _ _ hc (hq _ H (Ex.refl _) (hg _ _ _))
    · cases hf
  · cases hf⟩
instance : SatR2 K uSub dSub := sat_I (fun _ _ _ _ q => w_sub q) fun _ _ _ => .int _
instance : SatR2 K uLt dLt := sat_I (fun _ _ _ _ q => w_lt q) fun _ _ _ => .bl _
instance : SatR2 K uLe dLe := sat_I (fun _ _ _ _ q => w_le q) fun _ _ _ => .bl _
instance : SatR2 K uGt dGt := sat_I (fun _ _ _ _ q => w_gt q) fun _ _ _ => .bl _
instance : SatR2 K uGe dGe := sat_I (fun _ _ _ _ q => w_ge q) fun _ _ _ => .bl _
theorem log2_of {n k : Nat} (h : n < 2 ^ (k + 1)) : n.log2 ≤ k := by
  by_cases e : n = 0
  · rw [e]; simp
  · exact Nat.le_of_lt_succ ((Nat.log2_lt e).mpr h)
theorem big200 {n : Nat} (h : n < 10 ^ 200) : n.log2 ≤ 700 := log2_of (Nat.lt_of_lt_of_le h (by decide +kernel))
instance : SatR2 K uMul dMul := sat_Ic (fun i j H Q hc q => by
  rcases hc with hc | hc | ⟨h1, h2⟩
  · exact w_mulL hc q
  · exact w_mulR hc q
  · have a := big200 h1
    have b := big200 h2
    exact w_mulW (show i.natAbs.log2 + j.natAbs.log2 < 1000000 by omega) q) fun _ _ _ => .int _
instance : SatR2 K uMod dMod := sat_Ic (fun i j H Q hc q => w_mod hc q) fun _ _ _ => .int _
instance : SatR2 K uDiv dDiv := sat_Ic (fun i j H Q hc q => w_div hc.1 (by
  have : j.natAbs < 10 ^ 200 := by have := hc.2; have := hc.1; omega
  have := big200 this
  omega) q) fun _ _ _ => .int _
instance : SatR2 K uPow dPow := sat_Ic (fun i j H Q hc q => w_pow hc.1 (by have := hc.2.1; omega) (by have := hc.2.2; omega) rfl q) fun _ _ _ => .int _
instance : SatR1 K uNeg dNeg := ⟨fun O x d z H Q hO hx hf hq => by
  cases hx <;> first | cases hf | skip
  exact w_neg (hq _ H (Ex.refl _) (.int _))⟩
theorem Rp.dpv {H : Hp} {v : V} {d : D} (h : Rp K (vw O H) v d) (s : SeqAt.shaped d = true) : Dp K H v d := h.dpr (shaped_noD s)
theorem eq_ok {x y : V} {d e : D} {k : Bool} {Q : VK} (hx : Rp K (vw O H) x d) (hy : Rp K (vw O H) y e) (h : eqB d e = some k) (q : Q (.bl k) H) : uEq K x y H Q := by
  unfold eqB at h
  split at h
  · cases h; cases hx; cases hy; exact w_eq_int q
  · cases h; cases hx; cases hy; exact w_eq_str q
  · cases h; cases hx; cases hy; exact w_eq_bl q
  · split at h
    · rename_i s
      cases h
      exact w_eq_dat (hx.dpv s.1) (hy.dpv s.2) s.1 s.2 q
    · cases h
theorem ne_ok {x y : V} {d e : D} {k : Bool} {Q : VK} (hx : Rp K (vw O H) x d) (hy : Rp K (vw O H) y e) (h : eqB d e = some k) (q : Q (.bl (!k)) H) : uNe K x y H Q := by
  unfold eqB at h
  split at h
  · cases h; cases hx; cases hy; exact w_ne_int q
  · cases h; cases hx; cases hy; exact w_ne_str q
  · cases h; cases hx; cases hy; exact w_ne_bl q
  · split at h
    · rename_i s
      cases h
      exact w_ne_dat (hx.dpv s.1) (hy.dpv s.2) s.1 s.2 q
    · cases h
instance : SatR2 K (uEq K) dEq := ⟨fun O x y d e z H Q hO hx hy hf hq => by
  unfold dEq at hf
  cases q : eqB d e with
  | none => rw [q] at hf; cases hf
  | some k => rw [q] at hf; cases hf; exact eq_ok hx hy q (hq _ H (Ex.refl _) (.bl _))⟩
instance : SatR2 K (uNe K) dNe := ⟨fun O x y d e z H Q hO hx hy hf hq => by
  unfold dNe at hf
  cases q : eqB d e with
  | none => rw [q] at hf; cases hf
  | some k => rw [q] at hf; cases hf; exact ne_ok hx hy q (hq _ H (Ex.refl _) (.bl _))⟩
theorem isNo_of {H : Hp} {x : V} {d : D} (h : Rp K H x d) : decide (x = .non) = isNo d := by
  cases h <;> simp [isNo, refD]
instance : SatR2 K vIs dIs := ⟨fun O x y d e z H Q hO hx hy hf hq => by
  unfold dIs at hf
  split at hf
  · cases hf; cases hy
    refine .inl (w_is ?_)
    rw [isNo_of hx]
    exact hq _ H (Ex.refl _) (.bl _)
  · cases hf; cases hx; cases hy
    exact .inr ⟨_, _, rfl, rfl, hq _ H (Ex.refl _) (.bl _)⟩
  · cases hf⟩
instance : SatR2 K vIsN dIsN := ⟨fun O x y d e z H Q hO hx hy hf hq => by
  unfold dIsN at hf
  split at hf
  · cases hf; cases hy
    refine .inl (w_isn ?_)
    rw [isNo_of hx]
    exact hq _ H (Ex.refl _) (.bl _)
  · cases hf; cases hx; cases hy
    exact .inr ⟨_, _, rfl, rfl, hq _ H (Ex.refl _) (.bl _)⟩
  · cases hf⟩
instance : SatR2 K (rIxW K) dIx := ⟨fun O x y d e z H Q hO hx hy hf hq => by
  unfold dIx at hf
  split at hf
  · split at hf
    · rename_i hn
      obtain ⟨a, kvs, rfl, h1, h2, h3⟩ := hx.dget hn
      obtain ⟨k, hk, hl⟩ := Option.bind_eq_some_iff.mp hf
      obtain rfl := keyD_v hk hy
      rcases look_ok k h2 h3 with ⟨q, _⟩ | ⟨z', v, q1, q2, q3⟩
      · rw [q] at hl; cases hl
      · rw [q1] at hl; cases hl
        exact .inr ⟨a, v, rfl, .inl ⟨kvs, k, h1, rfl, q2.symm⟩, hq _ H (Ex.refl _) q3⟩
    · cases hf
  · obtain ⟨a, xs, rfl, h1, h2⟩ := hx.lst'
    cases hy
    obtain ⟨v, hv, r⟩ := atI_get h2 hf
    exact .inl (w_ixL (vw_l h1) hv (hq _ H (Ex.refl _) r))
  · obtain ⟨a, xs, rfl, h1, h2⟩ := hx.tup'
    cases hy
    obtain ⟨v, hv, r⟩ := atI_get h2 hf
    exact .inl (w_ixT (vw_t h1) hv (hq _ H (Ex.refl _) r))
  · cases hx; cases hy
    split at hf
    · rename_i z i hl
      cases q : atI z.cps.toList i with
      | none => rw [q] at hf; cases hf
      | some c => rw [q] at hf; cases hf; exact .inl (.inr (.inr ⟨z, i, c, rfl, rfl, hl, q, hq _ H (Ex.refl _) (.str _)⟩))
    · cases hf
  · cases hf⟩
theorem in_ok {x y : V} {d e : D} {k : Bool} {Q : VK} (hx : Rp K (vw O H) x d) (hy : Rp K (vw O H) y e) (h : inB d e = some k) (q : Q (.bl k) H) : vIn K x y H Q := by
  unfold inB at h
  split at h
  · split at h
    · rename_i s
      cases h
      exact .inl ⟨_, _, hx.dpv s.1, hy.dpv s.2, s.1, s.2, q⟩
    · cases h
  · split at h
    · rename_i s
      cases h
      obtain ⟨a, xs, rfl, h1, h2⟩ := hy.tup'
      obtain ⟨q1, q2⟩ := any_of hx s.1 h2 s.2
      refine .inr (.inl ⟨a, xs, rfl, .inr (vw_t h1), flat_of hx s.1, q1, ?_⟩)
      rw [if_neg (by decide)]
      unfold inV
      rw [q2]; exact q
    · cases h
  · split at h
    · rename_i hn
      obtain ⟨a, kvs, rfl, h1, h2, h3⟩ := hy.dget hn
      cases hk : keyD d with
      | none => rw [hk] at h; cases h
      | some kk =>
        rw [hk] at h; cases h
        obtain rfl := keyD_v hk hx
        refine .inr (.inr ⟨a, _, rfl, .inl ⟨kvs, kk, h1, rfl, rfl⟩, ?_⟩)
        rcases look_ok kk h2 h3 with ⟨q1, q2⟩ | ⟨z', v, q1, q2, q3⟩
        · rw [q2]; simp only [q1] at q; exact q
        · rw [q2]; simp only [q1] at q; exact q
    · cases h
  · cases h
theorem nin_ok {x y : V} {d e : D} {k : Bool} {Q : VK} (hx : Rp K (vw O H) x d) (hy : Rp K (vw O H) y e) (h : inB d e = some k) (q : Q (.bl (!k)) H) : vNin K x y H Q := by
  unfold inB at h
  split at h
  · split at h
    · rename_i s
      cases h
      exact .inl ⟨_, _, hx.dpv s.1, hy.dpv s.2, s.1, s.2, q⟩
    · cases h
  · split at h
    · rename_i s
      cases h
      obtain ⟨a, xs, rfl, h1, h2⟩ := hy.tup'
      obtain ⟨q1, q2⟩ := any_of hx s.1 h2 s.2
      refine .inr (.inl ⟨a, xs, rfl, .inr (vw_t h1), flat_of hx s.1, q1, ?_⟩)
      rw [if_pos rfl]
      unfold inV
      rw [q2]; exact q
    · cases h
  · split at h
    · rename_i hn
      obtain ⟨a, kvs, rfl, h1, h2, h3⟩ := hy.dget hn
      cases hk : keyD d with
      | none => rw [hk] at h; cases h
      | some kk =>
        rw [hk] at h; cases h
        obtain rfl := keyD_v hk hx
        refine .inr (.inr ⟨a, _, rfl, .inl ⟨kvs, kk, h1, rfl, rfl⟩, ?_⟩)
        rcases look_ok kk h2 h3 with ⟨q1, q2⟩ | ⟨z', v, q1, q2, q3⟩
        · rw [q2]; simp only [q1] at q; exact q
        · rw [q2]; simp only [q1] at q; exact q
    · cases h
  · cases h
instance : SatR2 K (vIn K) dIn := ⟨fun O x y d e z H Q hO hx hy hf hq => by
  unfold dIn at hf
  cases q : inB d e with
  | none => rw [q] at hf; cases hf
  | some k => rw [q] at hf; cases hf; exact in_ok hx hy q (hq _ H (Ex.refl _) (.bl _))⟩
instance : SatR2 K (vNin K) dNin := ⟨fun O x y d e z H Q hO hx hy hf hq => by
  unfold dNin at hf
  cases q : inB d e with
  | none => rw [q] at hf; cases hf
  | some k => rw [q] at hf; cases hf; exact nin_ok hx hy q (hq _ H (Ex.refl _) (.bl _))⟩
end
end Ve

set_option Elab.async false
set_option linter.all false
set_option maxRecDepth 100000
set_option maxHeartbeats 4000000
/-! Statements, defs, calls. -/
namespace Ve
open PySem PySem.Spec PyProof.Rows L2 Evl Ny

/-- which slots a body may store into -/
def wOf (l : List Bool) : Wd := ⟨fun i => l.getD i true, fun _ => none⟩
class Wr (W : Wd) (i : Nat) : Prop where
  eq : W i = true
instance {i : Nat} : Wr (wOf []) i := ⟨by simp [wOf]⟩
instance {l : List Bool} : Wr (wOf (true :: l)) 0 := ⟨by simp [wOf]⟩
instance {l : List Bool} {b : Bool} {i : Nat} [h : Wr (wOf l) i] : Wr (wOf (b :: l)) (i + 1) := ⟨by have := h.eq; simpa [wOf] using this⟩
section
variable {Ω : Type} [ObS Ω]
variable (K : PySem.W.Frag) (W : Wd) (wx : WX)
def RetR (F : Fr) (H : Hp) (O : Ow) (Fp : Nat → List Addr) (v : V) : RV Ω → Prop
  | .val d => Rp K (vw O H) v d
  | .own sd => ∃ G, OwnR K (vw O H) H G v sd ∧ ∀ a ∈ G, O.un a ∧ F.H0 a = none ∧ ∀ j, a ∉ Fp j
def Nexts (F : Fr) (H : Hp) (O : Ow) (P : L2.St → Hp → Prop) (env' : Env Ω) : Prop :=
  ∀ σ' H' O' Fp', Rel K W F env' σ' H' O' Fp' → Ex (vw O H) (vw O' H') → P (vis Ω σ') H'
def FPost (F : Fr) (H : Hp) (O : Ow) (D : Ends) : Flow Ω → Prop
  | .nx e => Nexts K W F H O D.nx e
  | .bk e => Nexts K W F H O D.bk e
  | .ct e => Nexts K W F H O D.ct e
  | .rt r e => ∀ v σ' H' O' Fp', Rel K W F e σ' H' O' Fp' → Ex (vw O H) (vw O' H') → RetR K F H' O' Fp' v r → D.rt v H'
  | .err c p e => ∀ cls dx σ' H' O' Fp', Rel K W F e σ' H' O' Fp' → Ex (vw O H) (vw O' H') → ErrIs K (vw O' H') H' c p cls dx → wx cls dx (vis Ω σ') H'
  | .bad => False
class SatS (t : TS) (m : outParam (Env Ω → Flow Ω)) : Prop where
  go : ∀ F env σ H O Fp D, Rel K W F env σ H O Fp → FPost K W wx F H O D (m env) → t D (vis Ω σ) H
/-- what a target does with a datum -/
class SatG (g : TG) (m : outParam (D → Env Ω → Res Ω Unit)) : Prop where
  go : ∀ F env σ H O Fp v d R, Rel K W F env σ H O Fp → Rp K (vw O H) v d → Post (fun _ e => Nexts K W F H O R e) (fun _ _ _ => False) (m d env) → g v (vis Ω σ) H R
class SatGs (g : TGs) (m : outParam (List D → Env Ω → Res Ω Unit)) : Prop where
  go : ∀ F env σ H O Fp vs ds R, Rel K W F env σ H O Fp → RpAll K (vw O H) vs ds → Post (fun _ e => Nexts K W F H O R e) (fun _ _ _ => False) (m ds env) → g vs (vis Ω σ) H R
end
section
variable {Ω : Type}
def Res.fl {α : Type} (r : Res Ω α) (f : α → Env Ω → Flow Ω) : Flow Ω := match r with
  | .ok a e => f a e
  | .err c p e => .err c p e
  | .bad => .bad
def bNx (env : Env Ω) : Flow Ω := .nx env
def bBk (env : Env Ω) : Flow Ω := .bk env
def bCt (env : Env Ω) : Flow Ω := .ct env
def bSeq (m n : Env Ω → Flow Ω) (env : Env Ω) : Flow Ω := match m env with
  | .nx e => n e
  | f => f
def bIf (t : Env Ω → Res Ω Bool) (m n : Env Ω → Flow Ω) (env : Env Ω) : Flow Ω := (t env).fl fun c e => if c = true then m e else n e
def bRet (a : Env Ω → Res Ω D) (env : Env Ω) : Flow Ω := (a env).fl fun d e => .rt (.val d) e
def bRetO (a : Env Ω → Res Ω (SD Ω)) (env : Env Ω) : Flow Ω := (a env).fl fun d e => .rt (.own d) e
def bRetN (env : Env Ω) : Flow Ω := .rt (.val .none) env
def bDrop (a : Env Ω → Res Ω D) (env : Env Ω) : Flow Ω := (a env).fl fun _ e => .nx e
def bAsg (a : Env Ω → Res Ω D) (g : D → Env Ω → Res Ω Unit) (env : Env Ω) : Flow Ω := (a env).fl fun d e => (g d e).fl fun _ e' => .nx e'
def bOwn (i : Nat) (a : Env Ω → Res Ω (SD Ω)) (env : Env Ω) : Flow Ω := (a env).fl fun sd e => if i < e.length then .nx (e.set i (some sd)) else .bad
def gN (i : Nat) (d : D) (env : Env Ω) : Res Ω Unit := if i < env.length then .ok () (env.set i (some (.val d))) else .bad
def gsNil (ds : List D) (env : Env Ω) : Res Ω Unit := match ds with
  | [] => .ok () env
  | _ => .bad
def gsCons (g : D → Env Ω → Res Ω Unit) (h : List D → Env Ω → Res Ω Unit) (ds : List D) (env : Env Ω) : Res Ω Unit := match ds with
  | d :: r => (g d env).bind fun _ e => h r e
  | [] => .bad
def asT : D → Option (List D)
  | .tuple l => some l
  | _ => none
def gT (n : Nat) (h : List D → Env Ω → Res Ω Unit) (d : D) (env : Env Ω) : Res Ω Unit := match asT d with
  | some l => if l.length = n then h l env else .bad
  | none => .bad
def gStarM (n : Nat) (h : List D → Env Ω → Res Ω Unit) (d : D) (env : Env Ω) : Res Ω Unit := match asT d with
  | some l => if n ≤ l.length then h (l.take n ++ [.list (l.drop n)]) env else .bad
  | none => .bad
/-- a slot's own thing is a datum from now on -/
def frzAt (i : Nat) (env : Env Ω) : Option (Env Ω) := match env[i]? with
  | some (some sd) => (frzD sd).map fun d => env.set i (some (.val d))
  | _ => none
def bFrz (i : Nat) (m : Env Ω → Flow Ω) (env : Env Ω) : Flow Ω := match frzAt i env with
  | some e => m e
  | none => .bad
/-- a slot's own thing is handed on -/
def oMove (i : Nat) (env : Env Ω) : Res Ω (SD Ω) := match env[i]? with
  | some (some sd) => if (match sd with | .val _ => true | _ => false) = true then .bad else .ok sd (env.set i none)
  | _ => .bad
end
/-- marks -/
def tOwnS (te : TE) (i : Nat) : TS := tAsg te (gName i)
def tRetO (te : TE) : TS := tRet te
def tFrz (i : Nat) (t : TS) : TS := t
def tMove (i : Nat) : TE := tVar i
section
variable {Ω : Type} [ObS Ω] {K : PySem.W.Frag} {W : Wd} {wx : WX}
variable {F : Fr} {env env' : Env Ω} {σ : L2.St} {H H1 : Hp} {O O1 : Ow} {Fp : Nat → List Addr} {D0 : Ends}
theorem Nexts.mono {P : L2.St → Hp → Prop} (h : Nexts K W F H O P env) (e : Ex (vw O H) (vw O1 H1)) : Nexts K W F H1 O1 P env := fun σ' H' O' Fp' r x => h σ' H' O' Fp' r (e.trans x)
theorem FPost.mono {D0 : Ends} {f : Flow Ω} (h : FPost K W wx F H O D0 f) (e : Ex (vw O H) (vw O1 H1)) : FPost K W wx F H1 O1 D0 f := by
  cases f with
  | nx e2 => exact Nexts.mono h e
  | bk e2 => exact Nexts.mono h e
  | ct e2 => exact Nexts.mono h e
  | rt r e2 => exact fun v σ' H' O' Fp' r x y => h v σ' H' O' Fp' r (e.trans x) y
  | err c p e2 => exact fun cls dx σ' H' O' Fp' r x y => h cls dx σ' H' O' Fp' r (e.trans x) y
  | bad => exact h
/-- an expression's end within a statement -/
theorem fl_post {α : Type} {r : Res Ω α} {f : α → Env Ω → Flow Ω} {D0 : Ends} (σ : L2.St) (h : FPost K W wx F H O D0 (r.fl f)) : Post (fun a e => FPost K W wx F H O D0 (f a e)) (Raised K W wx F σ H O) r := by
  cases r with
  | ok a e => exact h
  | err c p e => exact fun cls dx H' O' Fp' r x y => h cls dx σ H' O' Fp' r x y
  | bad => exact h
theorem fl_post0 {α : Type} {r : Res Ω α} {f : α → Env Ω → Flow Ω} {D0 : Ends} (h : FPost K W wx F H O D0 (r.fl f)) (hn : ∀ c p e, r ≠ .err c p e) : Post (fun a e => FPost K W wx F H O D0 (f a e)) (fun _ _ _ => False) r := by
  cases r with
  | ok a e => exact h
  | err c p e => exact absurd rfl (hn c p e)
  | bad => exact h
instance : SatS (Ω := Ω) K W wx tNext bNx := ⟨fun F env σ H O Fp D0 r h => h σ H O Fp r (Ex.refl _)⟩
instance : SatS (Ω := Ω) K W wx tBreak bBk := ⟨fun F env σ H O Fp D0 r h => h σ H O Fp r (Ex.refl _)⟩
instance : SatS (Ω := Ω) K W wx tCont bCt := ⟨fun F env σ H O Fp D0 r h => h σ H O Fp r (Ex.refl _)⟩
instance {t u : TS} {m n : Env Ω → Flow Ω} [T : SatS K W wx t m] [U : SatS K W wx u n] : SatS K W wx (tSeq t u) (bSeq m n) := ⟨fun F env σ H O Fp D0 r h => by
  refine T.go F env σ H O Fp _ r ?_
  unfold bSeq at h
  cases e : m env with
  | nx e1 =>
    rw [e] at h
    exact fun σ' H' O' Fp' r' x => U.go F e1 σ' H' O' Fp' D0 r' (FPost.mono h x)
  | bk e1 => rw [e] at h; exact h
  | ct e1 => rw [e] at h; exact h
  | rt r e1 => rw [e] at h; exact h
  | err c p e1 => rw [e] at h; exact h
  | bad => rw [e] at h; exact h⟩
instance {c : TT} {t u : TS} {k : Env Ω → Res Ω Bool} {m n : Env Ω → Flow Ω} [C : SatT K W wx c k] [T : SatS K W wx t m] [U : SatS K W wx u n] : SatS K W wx (tIfS c t u) (bIf k m n) := ⟨fun F env σ H O Fp D0 r h => by
  refine C.go F env σ H O Fp _ r (post_imp (fl_post σ h) fun b e1 h H1 O1 Fp1 r1 x1 => ?_)
  cases b with
  | true => exact iteT (T.go F e1 σ H1 O1 Fp1 D0 r1 (FPost.mono h x1))
  | false => exact iteF (U.go F e1 σ H1 O1 Fp1 D0 r1 (FPost.mono h x1))⟩
instance {te : TE} {a : Env Ω → Res Ω D} [A : SatE K W wx te a] : SatS K W wx (tRet te) (bRet a) := ⟨fun F env σ H O Fp D0 r h => by
  refine A.thn r (post_imp (fl_post σ h) fun d e1 h v H1 O1 Fp1 r1 x1 q1 => ?_)
  exact h v σ H1 O1 Fp1 r1 x1 q1⟩
instance {te : TE} {a : Env Ω → Res Ω (SD Ω)} [A : SatO K W wx te a] : SatS K W wx (tRetO te) (bRetO a) := ⟨fun F env σ H O Fp D0 r h => by
  refine A.go F env σ H O Fp _ r (post_imp (fl_post σ h) fun d e1 h v H1 O1 Fp1 G r1 x1 q1 hG => ?_)
  exact h v σ H1 O1 Fp1 r1 x1 ⟨G, q1, hG⟩⟩
instance : SatS (Ω := Ω) K W wx tRetN bRetN := ⟨fun F env σ H O Fp D0 r h => h .non σ H O Fp r (Ex.refl _) .non⟩
instance {te : TE} {a : Env Ω → Res Ω D} [A : SatE K W wx te a] : SatS K W wx (tDrop te) (bDrop a) := ⟨fun F env σ H O Fp D0 r h => by
  refine A.thn r (post_imp (fl_post σ h) fun d e1 h v H1 O1 Fp1 r1 x1 q1 => ?_)
  exact h σ H1 O1 Fp1 r1 x1⟩
/-- targets that raise nothing -/
class NoErr (m : D → Env Ω → Res Ω Unit) : Prop where
  go : ∀ d e c p e', m d e ≠ .err c p e'
class NoErrs (m : List D → Env Ω → Res Ω Unit) : Prop where
  go : ∀ d e c p e', m d e ≠ .err c p e'
instance {te : TE} {g : TG} {a : Env Ω → Res Ω D} {m : D → Env Ω → Res Ω Unit} [A : SatE K W wx te a] [G : SatG K W g m] [N : NoErr m] : SatS K W wx (tAsg te g) (bAsg a m) := ⟨fun F env σ H O Fp D0 r h => by
  refine A.thn r (post_imp (fl_post σ h) fun d e1 h v H1 O1 Fp1 r1 x1 q1 => ?_)
  refine G.go F e1 σ H1 O1 Fp1 v d _ r1 q1 ?_
  have h' := fl_post0 h fun c p e => N.go d e1 c p e
  cases q : m d e1 with
  | ok u e2 => rw [q] at h'; exact Nexts.mono h' x1
  | err c p e2 => rw [q] at h'; exact h'.elim
  | bad => rw [q] at h'; exact h'.elim⟩
instance {i j : Nat} [x : Ix Ω i j] [w : Wr W j] : SatG (Ω := Ω) K W (gName i) (gN j) := ⟨fun F env σ H O Fp v d R r q h => by
  unfold gN at h
  by_cases hi : j < env.length
  · rw [if_pos hi] at h
    show R ((vis Ω σ).set i _) H
    rw [vis_set x]
    exact h _ H O _ (r.setV (by rw [r.len]; exact hi) w.eq q) (Ex.refl _)
  · rw [if_neg hi] at h; exact h.elim⟩
instance {i : Nat} : NoErr (Ω := Ω) (gN i) := ⟨fun d e c p e' h => by unfold gN at h; split at h <;> cases h⟩
instance : SatGs (Ω := Ω) K W gNil gsNil := ⟨fun F env σ H O Fp vs ds R r q h => by
  cases q with
  | nil => exact ⟨rfl, h σ H O Fp r (Ex.refl _)⟩
  | cons _ _ => exact h.elim⟩
instance : NoErrs (Ω := Ω) gsNil := ⟨fun d e c p e' h => by unfold gsNil at h; split at h <;> cases h⟩
instance {t : TG} {u : TGs} {m : D → Env Ω → Res Ω Unit} {n : List D → Env Ω → Res Ω Unit} [T : SatG K W t m] [U : SatGs K W u n] : SatGs K W (gCons t u) (gsCons m n) := ⟨fun F env σ H O Fp vs ds R r q h => by
  cases q with
  | nil => exact h.elim
  | cons q1 q2 =>
    rename_i v vr d dr
    refine ⟨v, vr, rfl, T.go F env σ H O Fp v d _ r q1 ?_⟩
    have h : Post (fun _ e => Nexts K W F H O R e) (fun _ _ _ => False) ((m d env).bind fun _ e => n dr e) := h
    cases e : m d env with
    | bad => rw [e] at h; exact h.elim
    | err c p e2 => rw [e] at h; exact h.elim
    | ok x e2 =>
      rw [e] at h
      intro σ' H' O' Fp' r' x'
      refine U.go F e2 σ' H' O' Fp' vr dr R r' (q2.mono x') ?_
      have h : Post (fun _ e => Nexts K W F H O R e) (fun _ _ _ => False) (n dr e2) := h
      cases e3 : n dr e2 with
      | bad => rw [e3] at h; exact h.elim
      | err c p e4 => rw [e3] at h; exact h.elim
      | ok y e4 => rw [e3] at h; exact Nexts.mono h x'⟩
instance {m : D → Env Ω → Res Ω Unit} {n : List D → Env Ω → Res Ω Unit} [T : NoErr m] [U : NoErrs n] : NoErrs (gsCons m n) := ⟨fun ds e c p e' h => by
  unfold gsCons at h
  split at h
  · rename_i d r
    cases q : m d e with
    | bad => rw [q] at h; cases h
    | err c p e2 => exact T.go _ _ _ _ _ q
    | ok x e2 => rw [q] at h; exact U.go _ _ _ _ _ h
  · cases h⟩
theorem asT_some {d : D} {l : List D} (h : asT d = some l) : d = .tuple l := by
  cases d <;> first | (cases h; rfl) | cases h
instance {n : Nat} {t : TGs} {m : List D → Env Ω → Res Ω Unit} [T : SatGs K W t m] : SatG K W (gTup K n t) (gT n m) := ⟨fun F env σ H O Fp v d R r q h => by
  unfold gT at h
  cases e : asT d with
  | none => rw [e] at h; exact h.elim
  | some l =>
    simp only [e] at h
    obtain rfl := asT_some e
    obtain ⟨a, xs, rfl, h1, h2⟩ := q.tup'
    by_cases hl : l.length = n
    · rw [if_pos hl] at h
      exact ⟨a, xs, rfl, vw_t h1, by rw [h2.length]; exact hl, T.go F env σ H O Fp xs l R r h2 h⟩
    · rw [if_neg hl] at h; exact h.elim⟩
instance {n : Nat} {m : List D → Env Ω → Res Ω Unit} [T : NoErrs m] : NoErr (gT n m) := ⟨fun d e c p e' h => by
  unfold gT at h
  split at h
  · split at h
    · exact T.go _ _ _ _ _ h
    · cases h
  · cases h⟩
instance {n : Nat} {t : TGs} {m : List D → Env Ω → Res Ω Unit} [T : SatGs K W t m] : SatG K W (gStar K n t) (gStarM n m) := ⟨fun F env σ H O Fp v d R r q h => by
  unfold gStarM at h
  cases e : asT d with
  | none => rw [e] at h; exact h.elim
  | some l =>
    simp only [e] at h
    obtain rfl := asT_some e
    obtain ⟨a, xs, rfl, h1, h2⟩ := q.tup'
    by_cases hl : n ≤ l.length
    · rw [if_pos hl] at h
      refine ⟨a, xs, rfl, vw_t h1, by rw [h2.length]; exact hl, fun p hp => ?_⟩
      have x1 := Ex.new (o := HO.lst (xs.drop n)) hp
      refine T.go F env σ _ O Fp _ _ R (r.grow x1) (((h2.take n).mono (vw_ex x1)).append (.cons (.lst (.of (vw_new (r.notO hp) hp)) ((h2.drop n).mono (vw_ex x1))) .nil)) ?_
      cases q : m (l.take n ++ [.list (l.drop n)]) env with
      | bad => rw [q] at h; exact h.elim
      | err c p e2 => rw [q] at h; exact h.elim
      | ok y e2 => rw [q] at h; exact Nexts.mono h (vw_ex x1)
    · rw [if_neg hl] at h; exact h.elim⟩
instance {n : Nat} {m : List D → Env Ω → Res Ω Unit} [T : NoErrs m] : NoErr (gStarM n m) := ⟨fun d e c p e' h => by
  unfold gStarM at h
  split at h
  · split at h
    · exact T.go _ _ _ _ _ h
    · cases h
  · cases h⟩
/-! ### own things in slots -/
instance {te : TE} {i j : Nat} {a : Env Ω → Res Ω (SD Ω)} [A : SatO K W wx te a] [x : Ix Ω i j] [w : Wr W j] : SatS K W wx (tOwnS te i) (bOwn j a) := ⟨fun F env σ H O Fp D0 r h => by
  refine A.go F env σ H O Fp _ r (post_imp (fl_post σ h) fun sd e1 h v H1 O1 Fp1 G r1 x1 q1 hG => ?_)
  by_cases hi : j < e1.length
  · simp only [hi, if_true] at h
    show D0.nx ((vis Ω σ).set i _) H1
    rw [vis_set x]
    exact h _ H1 O1 _ (r1.setS (by rw [r1.len]; exact hi) w.eq q1 hG) x1
  · simp only [hi, if_false] at h; exact h.elim⟩
theorem Rel.frz (r : Rel K W F env σ H O Fp) {i : Nat} {sd : SD Ω} {d : D} (he : env[i]? = some (some sd)) (hd : frzD sd = some d) (hw : W i = true) :
    Rel K W F (env.set i (some (.val d))) σ H (subO O (Fp i)) (fset Fp i []) where
  nms := r.nms.set (r.nms.off hw) (fun _ => rfl) (fun j a e h => by rwa [fset_ne e] at h) (fun a h => by rw [fset_same] at h; cases h)
  len := by rw [List.length_set]; exact r.len
  slot := fun j sd' h => by
    by_cases e : j = i
    · subst e
      rw [List.getElem?_set_self (List.getElem?_eq_some_iff.mp he).1] at h
      cases h
      obtain ⟨v, h1, h2⟩ := r.slot j sd he
      exact ⟨v, h1, by rw [fset_same]; exact ⟨rfl, frz_rp h2 (fun a ha => r.nms.un j a (r.nms.off hw) ha) hd⟩⟩
    · rw [List.getElem?_set_ne (Ne.symm e)] at h
      obtain ⟨v, h1, h2⟩ := r.slot j sd' h
      exact ⟨v, h1, by rw [fset_ne e]; exact h2.mono vw_subO fun _ _ => rfl⟩
  own := fun j a h => by
    by_cases e : j = i
    · subst e; rw [fset_same] at h; cases h
    · rw [fset_ne e] at h; exact ⟨r.own j a h, fun z => absurd (r.dis j i a h z) e⟩
  dis := fun j k a h1 h2 => by
    by_cases e : j = i
    · subst e; rw [fset_same] at h1; cases h1
    · rw [fset_ne e] at h1
      by_cases e2 : k = i
      · subst e2; rw [fset_same] at h2; cases h2
      · rw [fset_ne e2] at h2; exact r.dis j k a h1 h2
  mine := fun j a h => by
    by_cases e : j = i
    · subst e; rw [fset_same] at h; cases h
    · rw [fset_ne e] at h; exact r.mine j a h
  sub := fun a h => ⟨r.sub a h, fun z => absurd (r.loc hw a z) (r.base a h)⟩
  new := fun a h => r.new a h.1
  all := fun a h => r.all a h.1
  keep := r.keep
  fix := r.fix
  pinned := r.pinned
  pin := r.pin
  base := r.base
  pw := r.pw
theorem frzD_own {sd : SD Ω} {d : D} (h : frzD sd = some d) : True := trivial
instance {i' i : Nat} {t : TS} {m : Env Ω → Flow Ω} [T : SatS K W wx t m] [x : Ix Ω i' i] [w : Wr W i] : SatS K W wx (tFrz i' t) (bFrz i m) := ⟨fun F env σ H O Fp D0 r h => by
  unfold bFrz frzAt at h
  cases e : env[i]? with
  | none => simp only [e] at h; exact h.elim
  | some o =>
    cases o with
    | none => simp only [e] at h; exact h.elim
    | some sd =>
      simp only [e] at h
      cases q : frzD sd with
      | none => rw [q] at h; exact h.elim
      | some d =>
        rw [q] at h
        exact T.go F _ σ H _ _ D0 (r.frz e q w.eq) (FPost.mono (show FPost K W wx F H O D0 (m (env.set i (some (.val d)))) from h) vw_subO)⟩
/-- a slot's own thing goes out of it -/
theorem Rel.move (r : Rel K W F env σ H O Fp) {i : Nat} (hi : ObS.off Ω ≤ i) : Rel K W F (env.set i none) σ H O (fset Fp i []) where
  nms := r.nms.set hi (fun _ => rfl) (fun j a e h => by rwa [fset_ne e] at h) (fun a h => by rw [fset_same] at h; cases h)
  len := by rw [List.length_set]; exact r.len
  slot := fun j sd' h => by
    by_cases e : j = i
    · subst e
      rw [List.getElem?_set] at h
      simp at h
    · rw [List.getElem?_set_ne (Ne.symm e)] at h
      rw [fset_ne e]
      exact r.slot j sd' h
  own := fun j a h => by
    by_cases e : j = i
    · subst e; rw [fset_same] at h; cases h
    · rw [fset_ne e] at h; exact r.own j a h
  dis := fun j k a h1 h2 => by
    by_cases e : j = i
    · subst e; rw [fset_same] at h1; cases h1
    · rw [fset_ne e] at h1
      by_cases e2 : k = i
      · subst e2; rw [fset_same] at h2; cases h2
      · rw [fset_ne e2] at h2; exact r.dis j k a h1 h2
  mine := fun j a h => by
    by_cases e : j = i
    · subst e; rw [fset_same] at h; cases h
    · rw [fset_ne e] at h; exact r.mine j a h
  sub := r.sub
  new := r.new
  all := r.all
  keep := r.keep
  fix := r.fix
  pinned := r.pinned
  pin := r.pin
  base := r.base
  pw := r.pw
instance {i' i : Nat} [x : Ix Ω i' i] [w : Wr W i] : SatO (Ω := Ω) K W wx (tMove i') (oMove i) := ⟨fun F env σ H O Fp Q r h => by
  unfold oMove at h
  cases e : env[i]? with
  | none => simp only [e] at h; exact h.elim
  | some o =>
    cases o with
    | none => simp only [e] at h; exact h.elim
    | some sd =>
      simp only [e] at h
      obtain ⟨v, hv, q⟩ := r.slot i sd e
      have h2 : OPost K W wx F σ H O Q (.ok sd (env.set i none)) := by
        cases sd <;> first | exact h | exact h.elim
      refine ⟨v, (vis_get x).trans hv, h2 v H O _ (Fp i) (r.move (r.nms.off w.eq)) (Ex.refl _) q fun a ha => ⟨⟨r.own i a ha, r.nms.un i a (r.nms.off w.eq) ha⟩, r.loc w.eq a ha, fun j z => ?_⟩⟩
      by_cases e2 : j = i
      · subst e2; rw [fset_same] at z; cases z
      · rw [fset_ne e2] at z; exact e2 (r.dis j i a z ha)⟩
end
end Ve

set_option Elab.async false
set_option linter.all false
set_option maxRecDepth 100000
set_option maxHeartbeats 4000000
/-! Defs and calls. -/
namespace Ve
open PySem PySem.Spec PyProof.Rows L2 Evl Ny

/-- how a def ends: its answer, and what its parameters own behind it -/
inductive RetM (Ω : Type) where
  | ok (r : RV Ω) (outs : Env Ω) | err (c : Str) (p : Option D) (outs : Env Ω) | bad
section
variable {Ω : Type}
def outsE : List Bool → Env Ω → Env Ω
  | [], _ => []
  | _ :: _, [] => []
  | b :: l, x :: e => (if b = true then none else x) :: outsE l e
def retOf (l : List Bool) : Flow Ω → RetM Ω
  | .nx e => .ok (.val .none) (outsE l e)
  | .rt r e => .ok r (outsE l e)
  | .err c p e => .err c p (outsE l e)
  | _ => .bad
/-- a def as a function of its arguments: l tells which parameters it changes (false), n how many there are, N how many slots -/
def fnM (l : List Bool) (n N : Nat) (body : Env Ω → Flow Ω) (args : List (SD Ω)) : RetM Ω :=
  if args.length = n then retOf l (body (args.map some ++ List.replicate (N - n) none)) else .bad
def padE (n : Nat) (outs : Env Ω) : Env Ω := outs ++ List.replicate (n - outs.length) none
end
section
variable {Ω : Type} [ObS Ω]
def frOf (H : Hp) (O : Ow) (P : Nat → List Addr) (vs : List V) : Fr := ⟨H, O, P, vs.map some⟩
def spOf (l : List Bool) (n : Nat) (m : List (SD Ω) → RetM Ω) (K : PySem.W.Frag) : Sp := fun vs H Q E => ∃ (O : Ow) (Fp : Nat → List Addr) (args : List (SD Ω)), vs.length = n ∧ args.length = n ∧
  Rel K (wOf l) (frOf H O Fp vs) (args.map some) (vs.map some) H O Fp ∧ match m args with
    | .ok r outs => ∀ v H' O' Fp', Rel K (wOf l) (frOf H O Fp vs) (padE n outs) (vs.map some) H' O' Fp' → Ex (vw O H) (vw O' H') → RetR K (frOf H O Fp vs) H' O' Fp' v r → Q v H'
    | .err c p outs => ∀ cls dx H' O' Fp', Rel K (wOf l) (frOf H O Fp vs) (padE n outs) (vs.map some) H' O' Fp' → Ex (vw O H) (vw O' H') → ErrIs K (vw O' H') H' c p cls dx → E cls dx H'
    | .bad => False
/-- .. of the values that the code sees -/
def dums (Ω : Type) [ObS Ω] : List V := List.replicate (ObS.off Ω) V.non
def spV (l : List Bool) (n : Nat) (m : List (SD Ω) → RetM Ω) (K : PySem.W.Frag) : Sp := fun vs => spOf l n m K (dums Ω ++ vs)
variable {K : PySem.W.Frag} {W : Wd} {wx : WX} {l : List Bool} {n N : Nat}
theorem spOf_len {m : List (SD Ω) → RetM Ω} {vs : List V} {H : Hp} {Q : VK} {E : XK} (h : spOf l n m K vs H Q E) : vs.length = n := by
  obtain ⟨_, _, _, h, _⟩ := h; exact h
theorem spV_len {m : List (SD Ω) → RetM Ω} {vs : List V} {H : Hp} {Q : VK} {E : XK} (h : spV l n m K vs H Q E) : vs.length + ObS.off Ω = n := by
  have h1 := spOf_len h
  have hd : (dums Ω).length = ObS.off Ω := List.length_replicate
  rw [List.length_append, hd] at h1; omega
theorem outs_at : ∀ (l : List Bool) (e : Env Ω) (i : Nat) (sd : SD Ω), (outsE l e)[i]? = some (some sd) → wOf l i = false ∧ e[i]? = some (some sd)
  | [], _, _, _, h => by simp [outsE] at h
  | _ :: _, [], _, _, h => by simp [outsE] at h
  | b :: l, x :: e, 0, sd, h => by
    cases b with
    | true => simp [outsE] at h
    | false => simp [outsE] at h; exact ⟨rfl, by simpa using h⟩
  | b :: l, x :: e, i + 1, sd, h => by
    have h' : (outsE l e)[i]? = some (some sd) := by simpa [outsE] using h
    obtain ⟨h1, h2⟩ := outs_at l e i sd h'
    exact ⟨by simpa [wOf] using h1, by simpa using h2⟩
theorem outs_len : ∀ (l : List Bool) (e : Env Ω), (outsE l e).length ≤ e.length
  | [], _ => Nat.zero_le _
  | _ :: _, [] => Nat.le_refl _
  | _ :: l, _ :: e => Nat.succ_le_succ (outs_len l e)
theorem outs_lenL : ∀ (l : List Bool) (e : Env Ω), (outsE l e).length ≤ l.length
  | [], _ => Nat.le_refl _
  | _ :: _, [] => Nat.zero_le _
  | _ :: l, _ :: e => Nat.succ_le_succ (outs_lenL l e)
open Classical in
noncomputable def fpOut (l : List Bool) (Fp : Nat → List Addr) : Nat → List Addr := fun i => if wOf l i = false then Fp i else []
theorem fpOut_in {Fp : Nat → List Addr} {i : Nat} {a : Addr} (h : a ∈ fpOut l Fp i) : wOf l i = false ∧ a ∈ Fp i := by
  unfold fpOut at h
  split at h
  · rename_i q; exact ⟨q, h⟩
  · cases h
theorem pad_at {A : Env Ω} {n i : Nat} {sd : SD Ω} (h : (A ++ List.replicate n none)[i]? = some (some sd)) : A[i]? = some (some sd) := by
  rcases Nat.lt_or_ge i A.length with z | z
  · rwa [List.getElem?_append_left z] at h
  · rw [List.getElem?_append_right z, List.getElem?_replicate] at h
    split at h <;> cases h
theorem vis_dums {vs : List V} {x : L2.St} : vis Ω ((dums Ω ++ vs).map some ++ x) = vs.map some ++ x := by
  unfold vis dums
  rw [List.map_append, List.append_assoc, List.drop_left' (by simp)]
def ups (Ω : Type) [ObS Ω] (σ : L2.St) : L2.St := (dums Ω).map some ++ σ
theorem vis_ups {σ : L2.St} : vis Ω (ups Ω σ) = σ := by
  unfold vis ups dums
  rw [List.drop_left' (by simp)]
theorem Rel.up {F : Fr} {env : Env Ω} {σ : L2.St} {H : Hp} {O : Ow} {Fp : Nat → List Addr} (r : Rel K W F env σ H O Fp) : ups Ω (vis Ω σ) = σ := by
  have h1 := ObS.one (Ω := Ω)
  unfold ups vis dums
  rcases Nat.eq_zero_or_pos (ObS.off Ω) with z | z
  · rw [z]; rfl
  · have z : ObS.off Ω = 1 := by omega
    have q := r.nms.dz 0 (by omega)
    rw [← r.fix 0 (r.nms.hw 0 (by omega))] at q
    rw [z]
    cases σ with
    | nil => cases q
    | cons x t => rw [List.getElem?_cons_zero] at q; cases q; rfl
class Ixs (Ω : Type) [ObS Ω] (vs : List Nat) (vs' : outParam (List Nat)) : Prop where
  eq : vs' = vs.map (· + ObS.off Ω)
instance : Ixs Ω [] [] := ⟨rfl⟩
instance {i j : Nat} {vs vs' : List Nat} [x : Ix Ω i j] [y : Ixs Ω vs vs'] : Ixs Ω (i :: vs) (j :: vs') := ⟨by rw [x.eq, y.eq]; rfl⟩
theorem wipe_ups' {σ : L2.St} : ∀ vs : List Nat, L2.wipe (ups Ω σ) (vs.map (· + ObS.off Ω)) = ups Ω (L2.wipe σ vs)
  | [] => rfl
  | v :: vs => by
    show (L2.wipe (ups Ω σ) (vs.map (· + ObS.off Ω))).set (v + ObS.off Ω) none = ups Ω ((L2.wipe σ vs).set v none)
    rw [wipe_ups' vs]
    unfold ups dums
    rw [List.set_append_right _ _ (by simp)]
    congr 2
    simp
theorem wipe_ups {σ : L2.St} {vs vs' : List Nat} (x : Ixs Ω vs vs') : L2.wipe (ups Ω σ) vs' = ups Ω (L2.wipe σ vs) := by rw [x.eq]; exact wipe_ups' vs
theorem vis_wipe {σ : L2.St} {vs vs' : List Nat} (x : Ixs Ω vs vs') (e : ups Ω (vis Ω σ) = σ) : vis Ω (L2.wipe σ vs') = L2.wipe (vis Ω σ) vs := by
  conv => lhs; rw [← e]
  rw [wipe_ups x, vis_ups]
/-- what the caller sees behind the body -/
theorem rel_out {H : Hp} {O : Ow} {Fp : Nat → List Addr} {vs : List V} {e : Env Ω} {σ' : L2.St} {H' : Hp} {O' : Ow} {Fp' : Nat → List Addr} {x : L2.St} (hl : l.length ≤ vs.length) (ho1 : ObS.off Ω ≤ vs.length)
    (r : Rel K (wOf l) ⟨H, O, Fp, vs.map some ++ x⟩ e σ' H' O' Fp') : Rel K (wOf l) (frOf H O Fp vs) (padE vs.length (outsE l e)) (vs.map some) H' O' (fpOut l Fp') where
  nms := ⟨fun i a hi h => r.nms.un i a hi (fpOut_in h).2, r.nms.hw, fun o ho h => r.nms.lt o ho (outs_at l e 0 _ (pad_at h)).2, r.nms.nn, fun i hi => by
    have := r.nms.dz i hi
    have hl' : i < (vs.map some).length := by rw [List.length_map]; have := ho1; omega
    rwa [List.getElem?_append_left hl'] at this⟩
  len := by
    have h1 := outs_lenL l e
    simp only [padE, List.length_append, List.length_replicate, List.length_map]
    omega
  slot := fun i sd h => by
    have h1 : (outsE l e)[i]? = some (some sd) := by
      unfold padE at h
      by_cases hi : i < (outsE l e).length
      · rwa [List.getElem?_append_left hi] at h
      · rw [List.getElem?_append_right (by omega)] at h
        rw [List.getElem?_replicate] at h
        split at h <;> cases h
    obtain ⟨hw, he⟩ := outs_at l e i sd h1
    obtain ⟨v, q1, q2⟩ := r.slot i sd he
    refine ⟨v, ?_, ?_⟩
    · rw [r.fix i hw] at q1
      have hi : i < (vs.map some).length := by
        have : i < (outsE l e).length := (List.getElem?_eq_some_iff.mp h1).1
        have := outs_lenL l e
        rw [List.length_map]; omega
      rwa [List.getElem?_append_left hi] at q1
    · unfold fpOut
      rw [if_pos hw]; exact q2
  own := fun i a h => r.own i a (fpOut_in h).2
  dis := fun i j a h1 h2 => r.dis i j a (fpOut_in h1).2 (fpOut_in h2).2
  mine := fun i a h => r.mine i a (fpOut_in h).2
  sub := r.sub
  new := r.new
  all := r.all
  keep := r.keep
  fix := fun i h => rfl
  pinned := fun i a h => by cases h
  pin := r.pin
  base := r.base
  pw := r.pw
/-- THE RULE for a def's body -/
theorem fn_sat {t : TS} {m : Env Ω → Flow Ω} {Ns : List Str} {vs : List V} {H : Hp} {Q : VK} {E : XK} (S : SatS K (wOf l) (fun cls d _ H => E cls d H) t m) (hl : l.length ≤ n) (hN : Ns.length + ObS.off Ω = N)
    (h : spV l n (fnM l n N m) K vs H Q E) : t { nx := fun _ H' => Q .non H', rt := Q } (L2.start Ns vs) H := by
  have h : spOf l n (fnM l n N m) K (dums Ω ++ vs) H Q E := h
  have hst : L2.start Ns vs = vis Ω ((dums Ω ++ vs).map some ++ List.replicate (N - n) none) := by
    obtain ⟨_, _, _, hv, _⟩ := h
    rw [vis_dums]; unfold L2.start
    have hd : (dums Ω).length = ObS.off Ω := List.length_replicate
    rw [List.length_append, hd] at hv
    rw [show Ns.length - vs.length = N - n by omega]
  rw [hst]
  have hof : ObS.off Ω ≤ n := by
    obtain ⟨_, _, _, hv, _⟩ := h
    have hd : (dums Ω).length = ObS.off Ω := List.length_replicate
    rw [List.length_append, hd] at hv; omega
  generalize dums Ω ++ vs = vs at h ⊢
  obtain ⟨O, Fp, args, hv, ha, r, h⟩ := h
  have r0 : Rel K (wOf l) ⟨H, O, Fp, vs.map some ++ List.replicate (N - n) none⟩ (args.map some ++ List.replicate (N - n) none) (vs.map some ++ List.replicate (N - n) none) H O Fp := by
    refine ⟨⟨r.nms.un, r.nms.hw, fun o ho q => r.nms.lt o ho (pad_at q), r.nms.nn, fun i hi => by
      have := r.nms.dz i hi
      have this : (vs.map some)[i]? = some (some .non) := this
      have hl := (List.getElem?_eq_some_iff.mp this).1
      show (vs.map some ++ _)[i]? = _
      rw [List.getElem?_append_left hl]; exact this⟩, by simp [hv, ha], fun i sd q => ?_, r.own, r.dis, r.mine, r.sub, r.new, r.all, r.keep, fun _ _ => rfl, (fun i a h => by cases h), r.pin, r.base, r.pw⟩
    have hi : i < (args.map some).length := by
      rcases Nat.lt_or_ge i (args.map some).length with z | z
      · exact z
      · rw [List.getElem?_append_right z, List.getElem?_replicate] at q
        split at q <;> cases q
    rw [List.getElem?_append_left hi] at q
    obtain ⟨v, q1, q2⟩ := r.slot i sd q
    exact ⟨v, by rw [List.getElem?_append_left (by rw [List.length_map] at hi ⊢; omega)]; exact q1, q2⟩
  refine S.go _ _ _ H O Fp _ r0 ?_
  unfold fnM at h
  rw [if_pos ha] at h
  cases e : m (args.map some ++ List.replicate (N - n) none) with
  | nx e1 => rw [e] at h; exact fun σ' H' O' Fp' r' x => h .non H' O' _ (by rw [← hv]; exact rel_out (by omega) (by omega) r') x .non
  | bk e1 => rw [e] at h; exact h.elim
  | ct e1 => rw [e] at h; exact h.elim
  | rt rv e1 =>
    rw [e] at h
    intro v σ' H' O' Fp' r' x q
    refine h v H' O' _ (by rw [← hv]; exact rel_out (by omega) (by omega) r') x ?_
    cases rv with
    | val d => exact q
    | own sd =>
      obtain ⟨G, q1, q2⟩ := q
      exact ⟨G, q1, fun a ha => ⟨(q2 a ha).1, (q2 a ha).2.1, fun j z => (q2 a ha).2.2 j (fpOut_in z).2⟩⟩
  | err c p e1 => rw [e] at h; exact fun cls dx σ' H' O' Fp' r' x q => h cls dx H' O' _ (by rw [← hv]; exact rel_out (by omega) (by omega) r') x q
  | bad => rw [e] at h; exact h.elim
end
/-! ### arguments -/
inductive AD where
  | val (d : D) | slot (i : Nat)
def AR (K : PySem.W.Frag) (σ : L2.St) (Hv : Hp) (v : V) : AD → Prop
  | .val d => Rp K Hv v d
  | .slot i => σ[i]? = some (some v)
inductive ARs (K : PySem.W.Frag) (σ : L2.St) (Hv : Hp) : List V → List AD → Prop where
  | nil : ARs K σ Hv [] []
  | cons {v : V} {vs : List V} {a : AD} {as : List AD} : AR K σ Hv v a → ARs K σ Hv vs as → ARs K σ Hv (v :: vs) (a :: as)
theorem AR.mono {K : PySem.W.Frag} {σ : L2.St} {H H' : Hp} {v : V} {a : AD} (h : AR K σ H v a) (e : Ex H H') : AR K σ H' v a := by
  cases a with
  | val d => exact Rp.mono e h
  | slot i => exact h
theorem ARs.length {K : PySem.W.Frag} {σ : L2.St} {H : Hp} : ∀ {vs : List V} {as : List AD}, ARs K σ H vs as → vs.length = as.length
  | _, _, .nil => rfl
  | _, _, .cons _ t => congrArg Nat.succ t.length
theorem ARs.get {K : PySem.W.Frag} {σ : L2.St} {H : Hp} : ∀ {vs : List V} {as : List AD} {i : Nat} {a : AD}, ARs K σ H vs as → as[i]? = some a → ∃ v, vs[i]? = some v ∧ AR K σ H v a
  | _, _, _, _, .nil, e => by simp at e
  | _, _, 0, _, .cons h _, e => by simp at e; subst e; exact ⟨_, rfl, h⟩
  | _, _, i + 1, a, .cons _ t, e => by
    obtain ⟨v, h1, h2⟩ := ARs.get (i := i) (a := a) t (by simpa using e)
    exact ⟨v, by simpa using h1, h2⟩
section
variable {Ω : Type}
def aNil (env : Env Ω) : Res Ω (List AD) := .ok [] env
def aVar (i : Nat) (r : Env Ω → Res Ω (List AD)) (env : Env Ω) : Res Ω (List AD) := match env[i]? with
  | some (some _) => (r env).bind fun as e => .ok (.slot i :: as) e
  | _ => .bad
def aE (a : Env Ω → Res Ω D) (r : Env Ω → Res Ω (List AD)) (env : Env Ω) : Res Ω (List AD) := (a env).bind fun d e1 => (r e1).bind fun as e => .ok (.val d :: as) e
def resA (e : Env Ω) : AD → Option (SD Ω)
  | .val d => some (.val d)
  | .slot i => match e[i]? with
    | some (some sd) => some sd
    | _ => none
def resAs (e : Env Ω) : List AD → Option (List (SD Ω))
  | [] => some []
  | a :: r => match resA e a with
    | some sd => (resAs e r).map fun l => sd :: l
    | none => none
def isVal : SD Ω → Bool
  | .val _ => true
  | _ => false
def valA (e : Env Ω) (a : AD) : Bool := match resA e a with
  | some sd => isVal sd
  | none => false
/-- what may be handed over: own things where the def says so, each once -/
def okA (e : Env Ω) : List Bool → List AD → List Nat → Bool
  | [], r, _ => r.all (valA e)
  | true :: l, a :: r, seen => valA e a && okA e l r seen
  | false :: l, .slot i :: r, seen => !seen.contains i && okA e l r (i :: seen)
  | _, _, _ => false
/-- the hidden thing goes ahead of all -/
def hidB (Ω : Type) [ObS Ω] (l : List Bool) (ads : List AD) : Bool := match ObS.off Ω with
  | 0 => true
  | _ => match l, ads with
    | false :: _, .slot 0 :: _ => true
    | _, _ => false
def hidL (Ω : Type) [ObS Ω] : List AD := (List.range (ObS.off Ω)).map .slot
/-- the slots behind the call -/
def wb : List Bool → List AD → Env Ω → Env Ω → Env Ω
  | false :: l, .slot i :: r, o :: outs, e => wb l r outs (e.set i o)
  | true :: l, _ :: r, _ :: outs, e => wb l r outs e
  | _, _, _, e => e
def eCallO [ObS Ω] (l : List Bool) (n : Nat) (m : List (SD Ω) → RetM Ω) (a : Env Ω → Res Ω (List AD)) (env : Env Ω) : Res Ω (RV Ω) := (a env).bind fun ads e1 => match resAs e1 (hidL Ω ++ ads) with
  | none => .bad
  | some args => if args.length = n ∧ okA e1 l (hidL Ω ++ ads) [] = true ∧ hidB Ω l (hidL Ω ++ ads) = true then (match m args with
    | .ok r outs => .ok r (wb l (hidL Ω ++ ads) (padE n outs) e1)
    | .err c p outs => .err c p (wb l (hidL Ω ++ ads) (padE n outs) e1)
    | .bad => .bad) else .bad
def rvD : RV Ω → Option D
  | .val d => some d
  | .own sd => frzD sd
def eCall [ObS Ω] (l : List Bool) (n : Nat) (m : List (SD Ω) → RetM Ω) (a : Env Ω → Res Ω (List AD)) (env : Env Ω) : Res Ω D := (eCallO l n m a env).bind fun r e => match rvD r with
  | some d => .ok d e
  | none => .bad
def rvO : RV Ω → Option (SD Ω)
  | .own sd => some sd
  | _ => none
def oCall [ObS Ω] (l : List Bool) (n : Nat) (m : List (SD Ω) → RetM Ω) (a : Env Ω → Res Ω (List AD)) (env : Env Ω) : Res Ω (SD Ω) := (eCallO l n m a env).bind fun r e => match rvO r with
  | some d => .ok d e
  | none => .bad
end
section
variable {Ω : Type} [ObS Ω]
variable (K : PySem.W.Frag) (W : Wd) (wx : WX)
def APost (F : Fr) (σ : L2.St) (H : Hp) (O : Ow) (Q : List V → Hp → Prop) : Res Ω (List AD) → Prop :=
  Post (fun ds env' => ∀ vs H' O' Fp', Rel K W F env' σ H' O' Fp' → Ex (vw O H) (vw O' H') → ARs K σ (vw O' H') vs ds → Q vs H') (Raised K W wx F σ H O)
class SatA (t : TA) (m : outParam (Env Ω → Res Ω (List AD))) : Prop where
  go : ∀ F env σ H O Fp Q, Rel K W F env σ H O Fp → APost K W wx F σ H O Q (m env) → t (vis Ω σ) H Q
end
section
variable {Ω : Type} [ObS Ω] {K : PySem.W.Frag} {W : Wd} {wx : WX}
instance : SatA (Ω := Ω) K W wx tNil aNil := ⟨fun F env σ H O Fp Q r h => h [] H O Fp r (Ex.refl _) .nil⟩
instance (priority := low) {ta : TE} {tr : TA} {a : Env Ω → Res Ω D} {b : Env Ω → Res Ω (List AD)} [A : SatE K W wx ta a] [B : SatA K W wx tr b] : SatA K W wx (tCons ta tr) (aE a b) := ⟨fun F env σ H O Fp Q rl h => by
  refine A.thn rl ((post_bind h).mono (Ex.refl _) fun x e1 h v1 H1 O1 Fp1 r1 x1 q1 => ?_)
  refine B.go F e1 σ H1 O1 Fp1 _ r1 ((post_bind h).mono x1 fun ds e2 h vs H2 O2 Fp2 r2 x2 q2 => ?_)
  exact h (v1 :: vs) H2 O2 Fp2 r2 (x1.trans x2) (.cons (q1.mono x2) q2)⟩
instance (priority := high) {i' i : Nat} {tr : TA} {b : Env Ω → Res Ω (List AD)} [B : SatA K W wx tr b] [x : Ix Ω i' i] : SatA K W wx (tCons (tVar i') tr) (aVar i b) := ⟨fun F env σ H O Fp Q rl h => by
  unfold aVar at h
  split at h
  · rename_i sd e
    obtain ⟨v, hv, _⟩ := rl.slot i sd e
    refine ⟨v, (vis_get x).trans hv, B.go F env σ H O Fp _ rl ((post_bind h).mono (Ex.refl _) fun ds e2 h vs H2 O2 Fp2 r2 x2 q2 => ?_)⟩
    exact h (v :: vs) H2 O2 Fp2 r2 x2 (.cons hv q2)
  · exact h.elim⟩
/-! ### which slot goes to which parameter -/
def kAt : List Bool → List AD → Nat → Nat → Option Nat
  | false :: l, .slot i :: r, k, j => if i = j then some k else kAt l r (k + 1) j
  | true :: l, _ :: r, k, j => kAt l r (k + 1) j
  | _, _, _, _ => none
theorem kAt_seen {e0 : Env Ω} {j : Nat} : ∀ {l : List Bool} {r : List AD} {seen : List Nat} {k : Nat}, okA e0 l r seen = true → j ∈ seen → kAt l r k j = none
  | [], r, _, _, _, _ => by cases r <;> rfl
  | true :: l, a :: r, seen, k, h, hj => by
    simp only [okA, Bool.and_eq_true] at h
    exact kAt_seen (l := l) h.2 hj
  | true :: l, [], _, _, h, _ => by simp [okA] at h
  | false :: l, .slot i :: r, seen, k, h, hj => by
    simp only [okA, Bool.and_eq_true] at h
    have hne : i ≠ j := by
      rintro rfl
      have := h.1
      simp [List.contains_iff_mem, hj] at this
    simp only [kAt, hne, if_false]
    exact kAt_seen (l := l) h.2 (List.mem_cons_of_mem _ hj)
  | false :: l, .val d :: r, _, _, h, _ => by simp [okA] at h
  | false :: l, [], _, _, h, _ => by simp [okA] at h
theorem wb_none {e0 : Env Ω} {j : Nat} : ∀ {l : List Bool} {r : List AD} {k : Nat} {outs e : Env Ω}, kAt l r k j = none → (wb l r outs e)[j]? = e[j]?
  | [], r, _, _, _, _ => by cases r <;> rfl
  | true :: l, a :: r, k, [], e, _ => rfl
  | true :: l, a :: r, k, o :: outs, e, h => wb_none (e0 := e0) (l := l) (k := k + 1) h
  | true :: l, [], _, _, _, _ => rfl
  | false :: l, .slot i :: r, k, [], e, h => rfl
  | false :: l, .slot i :: r, k, o :: outs, e, h => by
    by_cases hij : i = j
    · simp [kAt, hij] at h
    · simp only [kAt, hij, if_false] at h
      rw [wb, wb_none (e0 := e0) (l := l) (k := k + 1) h, List.getElem?_set_ne hij]
  | false :: l, .val d :: r, _, _, _, _ => rfl
  | false :: l, [], _, _, _, _ => rfl
theorem wb_some {e0 : Env Ω} {j : Nat} : ∀ {l : List Bool} {r : List AD} {seen : List Nat} {k k0 : Nat} {outs e : Env Ω}, okA e0 l r seen = true → kAt l r k0 j = some k → r.length ≤ outs.length → j < e.length →
    ∃ d, k = k0 + d ∧ (wb l r outs e)[j]? = outs[d]? ∧ r[d]? = some (.slot j) ∧ wOf l d = false
  | [], r, _, _, _, _, _, _, h, _, _ => by cases r <;> cases h
  | true :: l, a :: r, seen, k, k0, o :: outs, e, h, hk, hl, hj => by
    simp only [okA, Bool.and_eq_true] at h
    obtain ⟨d, e1, e2, e3, e4⟩ := wb_some (l := l) (k0 := k0 + 1) (outs := outs) (e := e) h.2 hk (by simpa using hl) hj
    exact ⟨d + 1, by omega, by rw [wb, e2]; simp, by simpa using e3, by simpa [wOf] using e4⟩
  | true :: l, a :: r, seen, k, k0, [], e, h, hk, hl, hj => by simp at hl
  | true :: l, [], _, _, _, _, _, _, h, _, _ => by cases h
  | false :: l, .slot i :: r, seen, k, k0, [], e, h, hk, hl, hj => by simp at hl
  | false :: l, .slot i :: r, seen, k, k0, o :: outs, e, h, hk, hl, hj => by
    simp only [okA, Bool.and_eq_true] at h
    by_cases hij : i = j
    · subst hij
      simp only [kAt, if_true] at hk
      cases hk
      refine ⟨0, rfl, ?_, rfl, rfl⟩
      rw [wb, wb_none (e0 := e0) (k := 0) (kAt_seen h.2 List.mem_cons_self), List.getElem?_set_self hj]
      rfl
    · simp only [kAt, hij, if_false] at hk
      obtain ⟨d, e1, e2, e3, e4⟩ := wb_some (l := l) (k0 := k0 + 1) (outs := outs) (e := e.set i o) h.2 hk (by simpa using hl) (by rw [List.length_set]; exact hj)
      exact ⟨d + 1, by omega, by rw [wb, e2]; simp, by simpa using e3, by simpa [wOf] using e4⟩
  | false :: l, .val d :: r, _, _, _, _, _, _, h, _, _ => by cases h
  | false :: l, [], _, _, _, _, _, _, h, _, _ => by cases h
theorem wb_len : ∀ {l : List Bool} {r : List AD} {outs e : Env Ω}, (wb l r outs e).length = e.length
  | [], r, _, _ => by cases r <;> rfl
  | true :: l, a :: r, [], e => rfl
  | true :: l, a :: r, o :: outs, e => wb_len (l := l)
  | true :: l, [], _, _ => rfl
  | false :: l, .slot i :: r, [], e => rfl
  | false :: l, .slot i :: r, o :: outs, e => by rw [wb, wb_len (l := l), List.length_set]
  | false :: l, .val d :: r, _, _ => rfl
  | false :: l, [], _, _ => rfl
/-- a handed thing at its place -/
theorem okA_at {e0 : Env Ω} : ∀ {l : List Bool} {r : List AD} {seen : List Nat} {k0 d : Nat} {a : AD}, okA e0 l r seen = true → r[d]? = some a → (wOf l d = true ∧ valA e0 a = true) ∨ (wOf l d = false ∧ ∃ i, a = .slot i ∧ kAt l r k0 i = some (k0 + d) ∧ i ∉ seen)
  | [], r, _, _, d, a, h, e => by
    simp only [okA] at h
    exact .inl ⟨by simp [wOf], List.all_eq_true.mp h a (List.mem_of_getElem? e)⟩
  | true :: l, b :: r, seen, k0, 0, a, h, e => by
    simp only [okA, Bool.and_eq_true] at h
    simp at e; subst e
    exact .inl ⟨rfl, h.1⟩
  | true :: l, b :: r, seen, k0, d + 1, a, h, e => by
    simp only [okA, Bool.and_eq_true] at h
    rcases okA_at (l := l) (k0 := k0 + 1) (d := d) h.2 (by simpa using e) with ⟨q1, q2⟩ | ⟨q1, i, q2, q3, q4⟩
    · exact .inl ⟨by simpa [wOf] using q1, q2⟩
    · exact .inr ⟨by simpa [wOf] using q1, i, q2, by simp only [kAt]; rw [q3]; congr 1; omega, q4⟩
  | true :: l, [], _, _, _, _, h, _ => by simp [okA] at h
  | false :: l, .slot i :: r, seen, k0, 0, a, h, e => by
    simp only [okA, Bool.and_eq_true] at h
    simp at e; subst e
    exact .inr ⟨rfl, i, rfl, by simp [kAt], by simpa [List.contains_iff_mem] using h.1⟩
  | false :: l, .slot i :: r, seen, k0, d + 1, a, h, e => by
    simp only [okA, Bool.and_eq_true] at h
    rcases okA_at (l := l) (k0 := k0 + 1) (d := d) h.2 (by simpa using e) with ⟨q1, q2⟩ | ⟨q1, i', q2, q3, q4⟩
    · exact .inl ⟨by simpa [wOf] using q1, q2⟩
    · have hne : i ≠ i' := by rintro rfl; exact q4 List.mem_cons_self
      exact .inr ⟨by simpa [wOf] using q1, i', q2, by simp only [kAt, hne, if_false]; rw [q3]; congr 1; omega, fun z => q4 (List.mem_cons_of_mem _ z)⟩
  | false :: l, .val _ :: r, _, _, _, _, h, _ => by simp [okA] at h
  | false :: l, [], _, _, _, _, h, _ => by simp [okA] at h
theorem resAs_len {e : Env Ω} : ∀ {r : List AD} {args : List (SD Ω)}, resAs e r = some args → args.length = r.length
  | [], _, h => by cases h; rfl
  | a :: r, args, h => by
    unfold resAs at h
    split at h
    · cases q : resAs e r with
      | none => rw [q] at h; cases h
      | some l => rw [q] at h; cases h; exact congrArg Nat.succ (resAs_len q)
    · cases h
theorem resAs_at {e : Env Ω} : ∀ {r : List AD} {args : List (SD Ω)} {d : Nat} {sd : SD Ω}, resAs e r = some args → args[d]? = some sd → ∃ a, r[d]? = some a ∧ resA e a = some sd
  | [], _, _, _, h, q => by cases h; simp at q
  | a :: r, args, d, sd, h, q => by
    unfold resAs at h
    split at h
    · rename_i sd0 h0
      cases z : resAs e r with
      | none => rw [z] at h; cases h
      | some l =>
        rw [z] at h; cases h
        cases d with
        | zero => simp at q; subst q; exact ⟨a, rfl, h0⟩
        | succ d =>
          obtain ⟨b, h1, h2⟩ := resAs_at z (by simpa using q)
          exact ⟨b, by simpa using h1, h2⟩
    · cases h
end
end Ve

set_option Elab.async false
set_option linter.all false
set_option maxRecDepth 100000
set_option maxHeartbeats 4000000
/-! The call of a def, by its function. -/
namespace Ve
open PySem PySem.Spec PyProof.Rows L2 Evl Ny
section
variable {Ω : Type} [ObS Ω] {K : PySem.W.Frag} {W : Wd} {wx : WX}
variable {F : Fr} {env : Env Ω} {σ : L2.St} {H H' : Hp} {O O' : Ow} {Fp Fp' : Nat → List Addr} {l : List Bool} {n : Nat}
open Classical in
/-- the footprints of what is handed over -/
noncomputable def fpIn (l : List Bool) (ads : List AD) (Fp : Nat → List Addr) : Nat → List Addr := fun k => match ads[k]? with
  | some (.slot i) => if wOf l k = false then Fp i else []
  | _ => []
theorem fpIn_in {ads : List AD} {k : Nat} {a : Addr} (h : a ∈ fpIn l ads Fp k) : ∃ i, ads[k]? = some (.slot i) ∧ wOf l k = false ∧ a ∈ Fp i := by
  unfold fpIn at h
  split at h
  · rename_i i e
    split at h
    · rename_i w; exact ⟨i, e, w, h⟩
    · cases h
  · cases h
theorem fpIn_eq {ads : List AD} {k i : Nat} (e : ads[k]? = some (.slot i)) (w : wOf l k = false) : fpIn l ads Fp k = Fp i := by
  unfold fpIn; simp only [e, w, if_true]
open Classical in
/-- .. and of all slots behind the call -/
noncomputable def fpBack (l : List Bool) (ads : List AD) (Fp Fp' : Nat → List Addr) : Nat → List Addr := fun j => match kAt l ads 0 j with
  | some k => Fp' k
  | none => Fp j
theorem resA_slot {e : Env Ω} {i : Nat} {sd : SD Ω} (h : resA e (.slot i) = some sd) : e[i]? = some (some sd) := by
  cases q : e[i]? with
  | none => simp [resA, q] at h
  | some o =>
    cases o with
    | none => simp [resA, q] at h
    | some x => simp [resA, q] at h; rw [h]
theorem hid_at {ads : List AD} (h : hidB Ω l ads = true) : ObS.off Ω = 0 ∨ (ObS.off Ω = 1 ∧ wOf l 0 = false ∧ ads[0]? = some (.slot 0)) := by
  unfold hidB at h
  have h1 := ObS.one (Ω := Ω)
  split at h
  · rename_i q; exact .inl q
  · rename_i q
    refine .inr ⟨by have : ObS.off Ω ≠ 0 := fun z => q z; omega, ?_⟩
    split at h
    · exact ⟨rfl, rfl⟩
    · cases h
/-- the callee's beginning -/
theorem rel_in (r : Rel K W F env σ H O Fp) {vs : List V} {ads : List AD} {args : List (SD Ω)} (hA : ARs K σ (vw O H) vs ads) (hr : resAs env ads = some args) (hk : okA env l ads [] = true) (hh : hidB Ω l ads = true) (hz : ∀ i, i < ObS.off Ω → vs[i]? = some .non) :
    Rel K (wOf l) (frOf H O (fpIn l ads Fp) vs) (args.map some) (vs.map some) H O (fpIn l ads Fp) where
  nms := ⟨fun k a hk' h => by
      obtain ⟨i, e, w, q⟩ := fpIn_in h
      refine r.nms.un i a ?_ q
      rcases hid_at hh with h0 | ⟨h0, h1, h2⟩
      · omega
      · rcases Nat.eq_zero_or_pos i with z | z
        · subst z
          rcases okA_at (k0 := 0) hk e with ⟨w', _⟩ | ⟨_, i', e', k', _⟩
          · rw [w] at w'; cases w'
          · cases e'
            rcases okA_at (k0 := 0) hk h2 with ⟨w', _⟩ | ⟨_, i', e', k'', _⟩
            · rw [h1] at w'; cases w'
            · cases e'
              rw [k'] at k''
              have := Option.some.inj k''
              omega
        · omega, fun i hi => by
      rcases hid_at hh with h0 | ⟨h0, h1, h2⟩
      · omega
      · rw [show i = 0 by omega]; exact h1, fun o ho h => by
      rcases hid_at hh with h0 | ⟨h0, h1, h2⟩
      · omega
      · have h1 : args[0]? = some (.ob o) := by
          rw [List.getElem?_map] at h
          cases q : args[0]? with
          | none => rw [q] at h; cases h
          | some x => rw [q] at h; cases h; rfl
        obtain ⟨a, ha, hra⟩ := resAs_at hr h1
        rw [h2] at ha; cases ha
        exact r.nms.lt o ho (resA_slot hra), fun a n h => .inl h, fun i hi => by
      show (vs.map some)[i]? = _
      rw [List.getElem?_map, hz i hi]; rfl⟩
  len := by rw [List.length_map, List.length_map, resAs_len hr, hA.length]
  slot := fun k sd h => by
    have h1 : args[k]? = some sd := by
      rw [List.getElem?_map] at h
      cases q : args[k]? with
      | none => rw [q] at h; cases h
      | some x => rw [q] at h; cases h; rfl
    obtain ⟨a, ha, hra⟩ := resAs_at hr h1
    obtain ⟨v, hv, hAR⟩ := hA.get ha
    refine ⟨v, by rw [List.getElem?_map, hv]; rfl, ?_⟩
    cases a with
    | val d =>
      cases hra
      exact ⟨by unfold fpIn; simp only [ha], hAR⟩
    | slot i =>
      have hsd : env[i]? = some (some sd) := resA_slot hra
      obtain ⟨v', hv', q⟩ := r.slot i sd hsd
      have hAR' : σ[i]? = some (some v) := hAR
      rw [hAR'] at hv'; cases hv'
      rcases okA_at (k0 := 0) hk ha with ⟨w, hval⟩ | ⟨w, i', e, _⟩
      · unfold valA at hval
        rw [hra] at hval
        cases sd with
        | val d =>
          refine ⟨?_, q.2⟩
          unfold fpIn; simp only [ha, w]; simp
        | _ => cases hval
      · rw [fpIn_eq ha w]; exact q
  own := fun k a h => by
    obtain ⟨i, _, _, q⟩ := fpIn_in h
    exact r.own i a q
  dis := fun k k' a h1 h2 => by
    obtain ⟨i, e1, w1, q1⟩ := fpIn_in h1
    obtain ⟨i', e2, w2, q2⟩ := fpIn_in h2
    have hii := r.dis i i' a q1 q2
    subst hii
    rcases okA_at (k0 := 0) hk e1 with ⟨w, _⟩ | ⟨_, j, ej, kj, _⟩
    · rw [w1] at w; cases w
    · rcases okA_at (k0 := 0) hk e2 with ⟨w, _⟩ | ⟨_, j', ej', kj', _⟩
      · rw [w2] at w; cases w
      · cases ej; cases ej'
        rw [kj] at kj'
        have := Option.some.inj kj'
        omega
  mine := fun k a h => .inl h
  sub := fun a h => h
  new := fun a h => .inl h
  all := r.all
  keep := fun a o h _ => h
  fix := fun i h => rfl
  pinned := fun i a h => by cases h
  pin := fun k a h => by
    obtain ⟨i, _, _, q⟩ := fpIn_in h
    exact r.own i a q
  base := r.all
  pw := fun k hk' => by
    show fpIn l ads Fp k = []
    unfold fpIn
    split
    · rw [if_neg (by rw [hk']; decide)]
    · rfl
/-- the caller behind it -/
theorem rel_back (r : Rel K W F env σ H O Fp) {vs : List V} {ads : List AD} {args : List (SD Ω)} {outs : Env Ω} (hA : ARs K σ (vw O H) vs ads) (hr : resAs env ads = some args) (hk : okA env l ads [] = true) (hh : hidB Ω l ads = true) (hn : args.length = n)
    (c : Rel K (wOf l) (frOf H O (fpIn l ads Fp) vs) (padE n outs) (vs.map some) H' O' Fp') (ex : Ex (vw O H) (vw O' H')) : Rel K W F (wb l ads (padE n outs) env) σ H' O' (fpBack l ads Fp Fp') := by
  have hlen : ads.length ≤ (padE n outs).length := by
    rw [← resAs_len hr, hn]; simp only [padE, List.length_append, List.length_replicate]; omega
  -- what no parameter owns stays
  have keep : ∀ j, kAt l ads 0 j = none → ∀ a ∈ Fp j, ∀ k, a ∉ fpIn l ads Fp k := fun j hj a ha k hin => by
    obtain ⟨i, e, w, q⟩ := fpIn_in hin
    have := r.dis i j a q ha
    subst this
    rcases okA_at (k0 := 0) hk e with ⟨w', _⟩ | ⟨_, i', e', k', _⟩
    · rw [w] at w'; cases w'
    · cases e'; rw [hj] at k'; cases k'
  have stay : ∀ j, kAt l ads 0 j = none → ∀ a ∈ Fp j, H' a = H a := fun j hj a ha => by
    cases w : H a with
    | none => exact absurd w (r.all a (r.own j a ha))
    | some o => exact c.keep a o w (keep j hj a ha)
  have back : ∀ {j k}, kAt l ads 0 j = some k → fpBack l ads Fp Fp' j = Fp' k := fun {j k} e => by unfold fpBack; rw [e]
  have back0 : ∀ {j}, kAt l ads 0 j = none → fpBack l ads Fp Fp' j = Fp j := fun {j} e => by unfold fpBack; rw [e]
  have place : ∀ {j k}, kAt l ads 0 j = some k → ads[k]? = some (.slot j) ∧ wOf l k = false := fun {j k} e => by
    have hj : j < env.length := by
      -- slot j was resolved
      rcases Nat.lt_or_ge j env.length with h | h
      · exact h
      · exfalso
        obtain ⟨d, e1, _, e3, _⟩ := wb_some (e0 := env) (outs := padE n outs) (e := List.replicate (j + 1) (none : Option (SD Ω))) hk e hlen (by simp)
        rw [Nat.zero_add] at e1
        subst e1
        have : k < args.length := by rw [resAs_len hr]; exact (List.getElem?_eq_some_iff.mp e3).1
        obtain ⟨a, ha, hra⟩ := resAs_at hr (List.getElem?_eq_getElem this)
        rw [e3] at ha; cases ha
        have := resA_slot hra
        rw [List.getElem?_eq_none h] at this
        cases this
    obtain ⟨d, e1, _, e3, e4⟩ := wb_some (e0 := env) (outs := padE n outs) (e := env) hk e hlen hj
    rw [Nat.zero_add] at e1
    subst e1
    exact ⟨e3, e4⟩
  have nms : Nms W F (wb l ads (padE n outs) env) O' (fpBack l ads Fp Fp') := by
    refine ⟨fun j a hj h => ?_, r.nms.hw, fun o ho h => ?_, fun a m h => ?_, r.nms.dz⟩
    · cases e : kAt l ads 0 j with
      | none =>
        rw [back0 e] at h
        cases q : O'.nm a with
        | none => rfl
        | some m =>
          rcases c.nms.nn a m q with z | z
          · have z : O.nm a = some m := z
            rw [r.nms.un j a hj h] at z; cases z
          · exact absurd z.1 (r.all a (r.own j a h))
      | some k =>
        rw [back e] at h
        refine c.nms.un k a ?_ h
        rcases hid_at hh with h0 | ⟨h0, h1, h2⟩
        · omega
        · rcases Nat.eq_zero_or_pos k with z | z
          · subst z
            have := (place e).1
            rw [h2] at this; cases this; exact hj
          · omega
    · rcases hid_at hh with h0 | ⟨h0, h1, h2⟩
      · omega
      · rcases okA_at (k0 := 0) hk h2 with ⟨w', _⟩ | ⟨_, i', e', k', _⟩
        · rw [h1] at w'; cases w'
        · cases e'
          have hj : 0 < env.length := by
            have := (List.getElem?_eq_some_iff.mp h).1
            rwa [wb_len] at this
          obtain ⟨d, e1, e2, e3, e4⟩ := wb_some (e0 := env) (outs := padE n outs) (e := env) hk k' hlen hj
          have e1 : d = 0 := by omega
          subst e1
          rw [e2] at h
          exact c.nms.lt o ho h
    · rcases c.nms.nn a m h with z | z
      · exact r.nms.nn a m z
      · exact .inr ⟨r.fresh z.1, z.2⟩
  refine ⟨nms, by rw [wb_len]; exact r.len, fun j sd h => ?_, fun j a h => ?_, fun j j' a h1 h2 => ?_, fun j a h => ?_, fun a h => c.sub a (r.sub a h), fun a h => ?_, c.all, fun a o h q => ?_, r.fix, r.pinned, r.pin, r.base, r.pw⟩
  · cases e : kAt l ads 0 j with
    | none =>
      rw [wb_none (e0 := env) e] at h
      obtain ⟨v, q1, q2⟩ := r.slot j sd h
      exact ⟨v, q1, by rw [back0 e]; exact q2.mono ex (stay j e)⟩
    | some k =>
      have hj : j < env.length := by
        have := (List.getElem?_eq_some_iff.mp h).1
        rwa [wb_len] at this
      obtain ⟨d, e1, e2, e3, e4⟩ := wb_some (e0 := env) (outs := padE n outs) (e := env) hk e hlen hj
      rw [Nat.zero_add] at e1
      subst e1
      rw [e2] at h
      obtain ⟨v, q1, q2⟩ := c.slot k sd h
      obtain ⟨v', hv', hAR⟩ := hA.get e3
      have hvv : v = v' := by
        rw [List.getElem?_map, hv'] at q1
        cases q1; rfl
      subst hvv
      exact ⟨v, hAR, by rw [back e]; exact q2⟩
  · cases e : kAt l ads 0 j with
    | none => rw [back0 e] at h; exact c.sub a (r.own j a h)
    | some k => rw [back e] at h; exact c.own k a h
  · cases e1 : kAt l ads 0 j with
    | none =>
      rw [back0 e1] at h1
      cases e2 : kAt l ads 0 j' with
      | none => rw [back0 e2] at h2; exact r.dis j j' a h1 h2
      | some k =>
        rw [back e2] at h2
        rcases c.mine k a h2 with z | z
        · exact absurd z (keep j e1 a h1 k)
        · exact absurd z (r.all a (r.own j a h1))
    | some k =>
      rw [back e1] at h1
      cases e2 : kAt l ads 0 j' with
      | none =>
        rw [back0 e2] at h2
        rcases c.mine k a h1 with z | z
        · exact absurd z (keep j' e2 a h2 k)
        · exact absurd z (r.all a (r.own j' a h2))
      | some k' =>
        rw [back e2] at h2
        have := c.dis k k' a h1 h2
        subst this
        have p1 := (place e1).1
        have p2 := (place e2).1
        rw [p1] at p2
        cases p2; rfl
  · cases e : kAt l ads 0 j with
    | none => rw [back0 e] at h; exact r.mine j a h
    | some k =>
      rw [back e] at h
      rcases c.mine k a h with z | z
      · obtain ⟨p1, p2⟩ := place e
        have z : a ∈ fpIn l ads Fp k := z
        rw [fpIn_eq p1 p2] at z
        exact r.mine j a z
      · exact .inr (r.fresh z)
  · exact (c.new a h).elim (r.new a) fun z => .inr (r.fresh z)
  · refine c.keep a o (r.keep a o h q) fun k hin => ?_
    obtain ⟨i, _, _, z⟩ := fpIn_in hin
    rcases r.mine i a z with w | w
    · exact q i w
    · rw [w] at h; cases h
def CPost (K : PySem.W.Frag) (W : Wd) (wx : WX) (F : Fr) (σ : L2.St) (H : Hp) (O : Ow) (Q : VK) : Res Ω (RV Ω) → Prop :=
  Post (fun rv env' => ∀ v H' O' Fp', Rel K W F env' σ H' O' Fp' → Ex (vw O H) (vw O' H') → RetR K F H' O' Fp' v rv → Q v H') (Raised K W wx F σ H O)
theorem hid_ars (r : Rel K W F env σ H O Fp) (hW : ∀ i, i < ObS.off Ω → W i = false) {vs : List V} {ads : List AD} (h : ARs K σ (vw O H) vs ads) : ARs K σ (vw O H) (dums Ω ++ vs) (hidL Ω ++ ads) := by
  have h0 := r.nms.dz
  have h1 := ObS.one (Ω := Ω)
  unfold dums hidL
  rcases Nat.eq_zero_or_pos (ObS.off Ω) with z | z
  · rw [z]; exact h
  · have z : ObS.off Ω = 1 := by omega
    have q := h0 0 (by omega)
    rw [← r.fix 0 (hW 0 (by omega))] at q
    rw [z]; exact .cons q h
theorem dums_at {vs : List V} (i : Nat) (h : i < ObS.off Ω) : (dums Ω ++ vs)[i]? = some .non := by
  unfold dums
  rw [List.getElem?_append_left (by rw [List.length_replicate]; exact h), List.getElem?_replicate, if_pos h]
theorem call_sat {ta : TA} {m : List (SD Ω) → RetM Ω} {a : Env Ω → Res Ω (List AD)} (A : SatA K W wx ta a) {Q : VK} (r : Rel K W F env σ H O Fp) (h : CPost K W wx F σ H O Q (eCallO l n m a env)) : tCallS (spV l n m K) (WE wx) ta (vis Ω σ) H Q := by
  refine A.go F env σ H O Fp _ r ((post_bind h).mono (Ex.refl _) fun ads e1 h vs H1 O1 Fp1 r1 x1 hA => ?_)
  have hA := hid_ars r1 r1.nms.hw hA
  split at h
  · exact h.elim
  · rename_i args hr
    split at h
    · rename_i hc
      obtain ⟨hn, hk, hh⟩ := hc
      refine ⟨O1, fpIn l (hidL Ω ++ ads) Fp1, args, by rw [hA.length, ← resAs_len hr, hn], hn, rel_in r1 hA hr hk hh dums_at, ?_⟩
      cases e : m args with
      | bad => rw [e] at h; exact h.elim
      | ok rv outs =>
        rw [e] at h
        intro v H' O' Fp' c x2 q
        have rb := rel_back r1 hA hr hk hh hn c x2
        refine h v H' O' _ rb (x1.trans x2) ?_
        cases rv with
        | val d => exact q
        | own sd =>
          obtain ⟨G, q1, q2⟩ := q
          refine ⟨G, q1, fun b hb => ⟨(q2 b hb).1, r1.fresh (q2 b hb).2.1, fun j z => ?_⟩⟩
          unfold fpBack at z
          split at z
          · rename_i k _; exact (q2 b hb).2.2 k z
          · exact r1.all b (r1.own j b z) (q2 b hb).2.1
      | err cl p outs =>
        rw [e] at h
        intro cls dx H' O' Fp' c x2 q
        exact h cls dx H' O' _ (rel_back r1 hA hr hk hh hn c x2) (x1.trans x2) q
    · exact h.elim
instance {ta : TA} {m : List (SD Ω) → RetM Ω} {a : Env Ω → Res Ω (List AD)} [A : SatA K W wx ta a] : SatE K W wx (tCallS (spV l n m K) (WE wx) ta) (eCall l n m a) := ⟨fun F env σ H O Fp Q r h => by
  refine call_sat A r ((post_bind h).mono (Ex.refl _) fun rv e1 h v H1 O1 Fp1 r1 x1 q => ?_)
  cases rv with
  | val d => exact h v H1 O1 Fp1 r1 x1 q
  | own sd =>
    obtain ⟨G, q1, q2⟩ := q
    cases e : frzD sd with
    | none => simp only [rvD, e] at h; exact h.elim
    | some d =>
      simp only [rvD, e] at h
      exact h v H1 (subO O1 G) Fp1 (r1.unO fun a ha => (q2 a ha).2) (x1.trans vw_subO) (frz_rp q1 (fun a ha => (q2 a ha).1.2) e)⟩
instance {ta : TA} {m : List (SD Ω) → RetM Ω} {a : Env Ω → Res Ω (List AD)} [A : SatA K W wx ta a] : SatO K W wx (tCallS (spV l n m K) (WE wx) ta) (oCall l n m a) := ⟨fun F env σ H O Fp Q r h => by
  refine call_sat A r ((post_bind h).mono (Ex.refl _) fun rv e1 h v H1 O1 Fp1 r1 x1 q => ?_)
  cases rv with
  | val d => exact h.elim
  | own sd =>
    obtain ⟨G, q1, q2⟩ := q
    exact h v H1 O1 Fp1 G r1 x1 q1 q2⟩
end
/-! ### the call's derivation -/
section
variable {X : Cx} {k : Nat} {x : Str} {ps : List Str} {sp : Sp} {W : WX} {e : Expr} {es : List Expr} {t : TA} {p pos : Pos}
theorem pe_cF (C : CallOk X.prog X.w X.K X.mg X.base (L2.CX X.prog X.w) k x ps [] sp) (hr : Room k X.A) (tk : Takes X W) (ha : PA X (e :: es) t) (hg : Gl X x := by rfl) (hdb : (x == ("__debug__" : Str)) = false := by decide)
    (he : starEach (e :: es) X.env = (false, eval e X.env) :: starEach es X.env := by rfl) (hpl : (backTo pos (starEach es X.env)).any (·.1) = false := by rfl) :
    PE X (.Call (.Name x p) (e :: es) [] pos) (tCallS sp (WE W) t) := by
  obtain ⟨f, fd, ds, hm, hk, hb, hd, F⟩ := C.ex
  cases hd
  exact pe_callS F hr hg hm hk hb (passAt tk) ha hdb he hpl
theorem pe_cF0 (C : CallOk X.prog X.w X.K X.mg X.base (L2.CX X.prog X.w) k x ps [] sp) (hr : Room k X.A) (tk : Takes X W) (hg : Gl X x := by rfl) (hdb : (x == ("__debug__" : Str)) = false := by decide) :
    PE X (.Call (.Name x p) [] [] pos) (tCallS sp (WE W) tNil) := by
  obtain ⟨f, fd, ds, hm, hk, hb, hd, F⟩ := C.ex
  cases hd
  refine ⟨fun pins s σ H Q I h => ?_⟩
  refine wpAny_Call_Name_kw (ld_glob I hg hm ?_ hdb)
  exact PySem.W.callWith_K0 I.kIn hk (run_fnS (us := []) F hr hb (passAt tk σ) I .nil h)
/-- where nothing is let out (in a comprehension) -/
abbrev WX0 : Ve.WX := fun _ _ _ _ => False
theorem takesW0 : Takes X WX0 := takes0
end
end Ve

set_option Elab.async false
set_option linter.all false
set_option maxRecDepth 100000
set_option maxHeartbeats 4000000
/-! Loops and comprehensions. -/
namespace Ve
open PySem PySem.Spec PyProof.Rows L2 Evl Ny
/-- what an iterator hands out -/
structure Iter (K : PySem.W.Frag) (Hv : Hp) (J : It) (items : List D) : Prop where
  go : ∀ i H O, Ex Hv (vw O H) → (∀ a, O a → H a ≠ none) → i < items.length → J.go i H
  yld : ∀ i H v H' O, Ex Hv (vw O H) → (∀ a, O a → H a ≠ none) → J.yld i H v H' → ∀ d, items[i]? = some d → Ex H H' ∧ Rp K (vw O H') v d
  stop : ∀ i H O, Ex Hv (vw O H) → (∀ a, O a → H a ≠ none) → items.length ≤ i → J.stop i H
section
variable {K : PySem.W.Frag} {Hv : Hp} {a b : Addr} {xs ys : List V} {ds es : List D}
theorem iter_list (h : SqL K Hv a xs) (r : RpAll K Hv xs ds) : Iter K Hv (Itl K a) ds where
  go := fun i H O e _ hi => by
    have hx : i < xs.length := by rw [r.length]; exact hi
    exact ⟨xs, xs[i], vw_l (ex_l e h), List.getElem?_eq_getElem hx⟩
  yld := fun i H v H' O e _ y d hd => by
    obtain ⟨rfl, y⟩ := y
    have q := y xs (vw_l (ex_l e h))
    obtain ⟨d', h1, h2⟩ := r.get q
    rw [h1] at hd; cases hd
    exact ⟨Ex.refl _, h2.mono e⟩
  stop := fun i H O e _ hi => ⟨xs, vw_l (ex_l e h), by rw [r.length]; exact hi⟩
theorem iter_tup (h : SqT K Hv a xs) (r : RpAll K Hv xs ds) : Iter K Hv (Itt K a) ds where
  go := fun i H O e _ hi => by
    have hx : i < xs.length := by rw [r.length]; exact hi
    exact ⟨xs, xs[i], vw_t (ex_t e h), List.getElem?_eq_getElem hx⟩
  yld := fun i H v H' O e _ y d hd => by
    obtain ⟨rfl, y⟩ := y
    have q := y xs (vw_t (ex_t e h))
    obtain ⟨d', h1, h2⟩ := r.get q
    rw [h1] at hd; cases hd
    exact ⟨Ex.refl _, h2.mono e⟩
  stop := fun i H O e _ hi => ⟨xs, vw_t (ex_t e h), by rw [r.length]; exact hi⟩
def rngD (lo : Int) (n : Nat) : List D := (List.range n).map fun (i : Nat) => .int (lo + i)
theorem iter_rng {lo : Int} {n : Nat} : Iter K Hv (Itr lo n) (rngD lo n) where
  go := fun i H O e _ hi => by simpa [rngD, Itr] using hi
  yld := fun i H v H' O e _ y d hd => by
    obtain ⟨rfl, rfl⟩ := y
    unfold rngD at hd
    rw [List.getElem?_map] at hd
    cases q : (List.range n)[i]? with
    | none => rw [q] at hd; cases hd
    | some j =>
      rw [q] at hd
      have : j = i := by
        obtain ⟨h1, h2⟩ := List.getElem?_eq_some_iff.mp q
        simpa using h2.symm
      subst this
      cases hd
      exact ⟨Ex.refl _, .int _⟩
  stop := fun i H O e _ hi => by simpa [rngD, Itr] using hi
theorem iter_enum (h : SqL K Hv a xs) (r : RpAll K Hv xs ds) : Iter K Hv (Ite K a) (ds.zipIdx.map fun p => .tuple [.int (p.2 : Nat), p.1]) where
  go := fun i H O e _ hi => by
    have hx : i < xs.length := by rw [r.length]; simpa using hi
    exact ⟨xs, xs[i], vw_l (ex_l e h), List.getElem?_eq_getElem hx⟩
  yld := fun i H v H' O e hO y d hd => by
    obtain ⟨T, x, rfl, hT, rfl, y⟩ := y
    have q := y xs (vw_l (ex_l e h))
    obtain ⟨d', h1, h2⟩ := r.get q
    have hd' : d = .tuple [.int (i : Nat), d'] := by
      rw [List.getElem?_map, List.getElem?_zipIdx, h1] at hd
      simpa using hd.symm
    subst hd'
    have x1 : Ex H _ := Ex.new (o := HO.tup [.int (i : Nat), x]) hT
    exact ⟨x1, .tup (.of (vw_new (fun z => hO T z hT) hT)) (.cons (.int _) (.cons ((h2.mono e).mono (vw_ex x1)) .nil))⟩
  stop := fun i H O e _ hi => ⟨xs, vw_l (ex_l e h), by rw [r.length]; simpa using hi⟩
theorem iter_zip (h : SqL K Hv a xs) (r : RpAll K Hv xs ds) (h2 : SqL K Hv b ys) (r2 : RpAll K Hv ys es) : Iter K Hv (Itz K a b) (List.zipWith (fun d e => .tuple [d, e]) ds es) where
  go := fun i H O e _ hi => by
    rw [List.length_zipWith] at hi
    have hx : i < xs.length := by rw [r.length]; omega
    have hy : i < ys.length := by rw [r2.length]; omega
    exact ⟨xs, ys, xs[i], ys[i], vw_l (ex_l e h), vw_l (ex_l e h2), List.getElem?_eq_getElem hx, List.getElem?_eq_getElem hy⟩
  yld := fun i H v H' O e hO y d hd => by
    obtain ⟨T, x, z, rfl, hT, rfl, y, w⟩ := y
    have q := y xs (vw_l (ex_l e h))
    have q2 := w ys (vw_l (ex_l e h2))
    obtain ⟨d', h3, h4⟩ := r.get q
    obtain ⟨e', h5, h6⟩ := r2.get q2
    have hd' : d = .tuple [d', e'] := by
      rw [List.getElem?_zipWith, h3, h5] at hd
      simpa using hd.symm
    subst hd'
    have x1 : Ex H _ := Ex.new (o := HO.tup [x, z]) hT
    exact ⟨x1, .tup (.of (vw_new (fun z => hO T z hT) hT)) (.cons ((h4.mono e).mono (vw_ex x1)) (.cons ((h6.mono e).mono (vw_ex x1)) .nil))⟩
  stop := fun i H O e _ hi => by
    rw [List.length_zipWith] at hi
    refine ⟨xs, ys, vw_l (ex_l e h), vw_l (ex_l e h2), ?_⟩
    rw [r.length, r2.length]; omega
theorem iter_zipT (h : SqT K Hv a xs) (r : RpAll K Hv xs ds) (h2 : SqT K Hv b ys) (r2 : RpAll K Hv ys es) : Iter K Hv (RZ.ItzT K a b) (List.zipWith (fun d e => .tuple [d, e]) ds es) where
  go := fun i H O e _ hi => by
    rw [List.length_zipWith] at hi
    have hx : i < xs.length := by rw [r.length]; omega
    have hy : i < ys.length := by rw [r2.length]; omega
    exact ⟨xs, ys, xs[i], ys[i], vw_t (ex_t e h), vw_t (ex_t e h2), List.getElem?_eq_getElem hx, List.getElem?_eq_getElem hy⟩
  yld := fun i H v H' O e hO y d hd => by
    obtain ⟨T, x, z, rfl, hT, rfl, y, w⟩ := y
    have q := y xs (vw_t (ex_t e h))
    have q2 := w ys (vw_t (ex_t e h2))
    obtain ⟨d', h3, h4⟩ := r.get q
    obtain ⟨e', h5, h6⟩ := r2.get q2
    have hd' : d = .tuple [d', e'] := by
      rw [List.getElem?_zipWith, h3, h5] at hd
      simpa using hd.symm
    subst hd'
    have x1 : Ex H _ := Ex.new (o := HO.tup [x, z]) hT
    exact ⟨x1, .tup (.of (vw_new (fun z => hO T z hT) hT)) (.cons ((h4.mono e).mono (vw_ex x1)) (.cons ((h6.mono e).mono (vw_ex x1)) .nil))⟩
  stop := fun i H O e _ hi => by
    rw [List.length_zipWith] at hi
    refine ⟨xs, ys, vw_t (ex_t e h), vw_t (ex_t e h2), ?_⟩
    rw [r.length, r2.length]; omega
theorem iter_str {x : Str} : Iter K Hv (Its x) (x.cps.toList.map fun c => .str ⟨#[c]⟩) where
  go := fun i H O e _ hi => by simpa [Its] using hi
  yld := fun i H v H' O e _ y d hd => by
    obtain ⟨rfl, c, hc, rfl⟩ := y
    rw [List.getElem?_map] at hd
    have : x.cps.toList[i]? = some c := by simpa using hc
    rw [this] at hd; cases hd
    exact ⟨Ex.refl _, .str _⟩
  stop := fun i H O e _ hi => by simpa [Its] using hi
theorem iter_rev (h : SqL K Hv a xs) (r : RpAll K Hv xs ds) : Iter K Hv (Itv K a xs.length) ds.reverse where
  go := fun i H O e _ hi => by
    have hx : i < xs.length := by rw [r.length]; simpa using hi
    exact ⟨hx, xs, xs[xs.length - 1 - i], vw_l (ex_l e h), List.getElem?_eq_getElem (by omega)⟩
  yld := fun i H v H' O e _ y d hd => by
    obtain ⟨rfl, y⟩ := y
    have q := y xs (vw_l (ex_l e h))
    obtain ⟨d', h1, h2⟩ := r.get q
    have hi : i < ds.length := by
      have := (List.getElem?_eq_some_iff.mp hd).1
      simpa using this
    rw [List.getElem?_reverse hi, ← r.length, h1] at hd; cases hd
    exact ⟨Ex.refl _, h2.mono e⟩
  stop := fun i H O e _ hi => by
    show xs.length ≤ i
    rw [r.length]; simpa using hi
end
section
variable {Ω : Type} [ObS Ω]
variable (K : PySem.W.Frag) (W : Wd) (wx : WX)
def IPost (F : Fr) (σ : L2.St) (H : Hp) (O : Ow) (R : It → Hp → Prop) : Res Ω (List D) → Prop :=
  Post (fun items env' => ∀ J H' O' Fp', Rel K W F env' σ H' O' Fp' → Ex (vw O H) (vw O' H') → Iter K (vw O' H') J items → R J H') (Raised K W wx F σ H O)
class SatI (w : TI) (m : outParam (Env Ω → Res Ω (List D))) : Prop where
  go : ∀ F env σ H O Fp R, Rel K W F env σ H O Fp → IPost K W wx F σ H O R (m env) → w (vis Ω σ) H R
end
section
variable {Ω : Type}
def asL : D → Option (List D)
  | .list l => some l
  | _ => none
def iL (a : Env Ω → Res Ω D) (env : Env Ω) : Res Ω (List D) := (a env).bind fun d e => match asL d with
  | some l => .ok l e
  | none => .bad
def iT (a : Env Ω → Res Ω D) (env : Env Ω) : Res Ω (List D) := (a env).bind fun d e => match asT d with
  | some l => .ok l e
  | none => .bad
def asS : D → Option Str
  | .str l => some l
  | _ => none
def iS (a : Env Ω → Res Ω D) (env : Env Ω) : Res Ω (List D) := (a env).bind fun d e => match asS d with
  | some x => .ok (x.cps.toList.map fun c => .str ⟨#[c]⟩) e
  | none => .bad
def rngI : List D → Option (List D)
  | [.int j] => if -(2 ^ 62) ≤ j ∧ j < 2 ^ 62 then some (rngD 0 j.toNat) else none
  | _ => none
def rngI2 : List D → Option (List D)
  | [.int i, .int j] => if -(2 ^ 62) ≤ i ∧ i < 2 ^ 62 ∧ -(2 ^ 62) ≤ j ∧ j < 2 ^ 62 then some (rngD i (j - i).toNat) else none
  | _ => none
def enumI : List D → Option (List D)
  | [.list l] => some (l.zipIdx.map fun p => .tuple [.int (p.2 : Nat), p.1])
  | _ => none
def zipI : List D → Option (List D)
  | [.list l, .list k] => some (List.zipWith (fun d e => .tuple [d, e]) l k)
  | [.tuple l, .tuple k] => some (List.zipWith (fun d e => .tuple [d, e]) l k)
  | _ => none
def revI : List D → Option (List D)
  | [.list l] => some l.reverse
  | _ => none
def iB (f : List D → Option (List D)) (a : Env Ω → Res Ω (List D)) (env : Env Ω) : Res Ω (List D) := (a env).bind fun ds e => match f ds with
  | some l => .ok l e
  | none => .bad
def loopM (g : D → Env Ω → Res Ω Unit) (body : Env Ω → Flow Ω) : List D → Env Ω → Flow Ω
  | [], e => .nx e
  | d :: r, e => (g d e).fl fun _ e1 => match body e1 with
    | .nx e2 => loopM g body r e2
    | .ct e2 => loopM g body r e2
    | .bk e2 => .nx e2
    | f => f
def bFor (it : Env Ω → Res Ω (List D)) (g : D → Env Ω → Res Ω Unit) (body : Env Ω → Flow Ω) (env : Env Ω) : Flow Ω := (it env).fl fun items e => loopM g body items e
def Res.ne {α : Type} (r : Res Ω α) : Res Ω α := match r with
  | .err _ _ _ => .bad
  | r => r
def wipeE : List Nat → Env Ω → Env Ω
  | [], e => e
  | v :: vs, e => (wipeE vs e).set v none
def lcM (g : D → Env Ω → Res Ω Unit) (t : Env Ω → Res Ω Bool) (el : Env Ω → Res Ω D) (vs : List Nat) : List D → List D → Env Ω → Res Ω (List D)
  | [], acc, e => .ok acc (wipeE vs e)
  | d :: r, acc, e => (g d e).ne.bind fun _ e1 => (t e1).ne.bind fun b e2 => if b = true then (el e2).ne.bind fun y e3 => lcM g t el vs r (acc ++ [y]) (wipeE vs e3) else lcM g t el vs r acc (wipeE vs e2)
def oLc (it : Env Ω → Res Ω (List D)) (g : D → Env Ω → Res Ω Unit) (t : Env Ω → Res Ω Bool) (el : Env Ω → Res Ω D) (vs : List Nat) (env : Env Ω) : Res Ω (SD Ω) := (it env).bind fun items e =>
  if items.length ≤ 1000000 then (lcM g t el vs items [] (wipeE vs e)).bind fun l e' => .ok (.lst l) e' else .bad
def tYesM (env : Env Ω) : Res Ω Bool := .ok true env
end
section
variable {Ω : Type} [ObS Ω] {K : PySem.W.Frag} {W : Wd} {wx : WX}
theorem ipost_at {α : Type} {F : Fr} {σ : L2.St} {H : Hp} {O : Ow} {R : It → Hp → Prop} {items : List D} {e : Env Ω} (h : IPost K W wx F σ H O R (.ok items e)) {J : It} {H' : Hp} {O' : Ow} {Fp' : Nat → List Addr}
    (r : Rel K W F e σ H' O' Fp') (x : Ex (vw O H) (vw O' H')) (i : Iter K (vw O' H') J items) : R J H' := h J H' O' Fp' r x i
theorem asL_some {d : D} {l : List D} (h : asL d = some l) : d = .list l := by cases d <;> first | (cases h; rfl) | cases h
theorem asS_some {d : D} {l : Str} (h : asS d = some l) : d = .str l := by cases d <;> first | (cases h; rfl) | cases h
instance {ta : TE} {a : Env Ω → Res Ω D} [A : SatE K W wx ta a] : SatI K W wx (iList K ta) (iL a) := ⟨fun F env σ H O Fp R r h => by
  refine A.thn r ((post_bind h).mono (Ex.refl _) fun d e1 h v1 H1 O1 Fp1 r1 x1 q1 => ?_)
  cases e : asL d with
  | none => rw [e] at h; exact h.elim
  | some l =>
    rw [e] at h
    obtain rfl := asL_some e
    obtain ⟨p, xs, rfl, h1, h2⟩ := q1.lst'
    exact ⟨p, rfl, ⟨xs, vw_l h1⟩, h _ H1 O1 Fp1 r1 x1 (iter_list h1 h2)⟩⟩
instance {ta : TE} {a : Env Ω → Res Ω D} [A : SatE K W wx ta a] : SatI K W wx (iTup K ta) (iT a) := ⟨fun F env σ H O Fp R r h => by
  refine A.thn r ((post_bind h).mono (Ex.refl _) fun d e1 h v1 H1 O1 Fp1 r1 x1 q1 => ?_)
  cases e : asT d with
  | none => rw [e] at h; exact h.elim
  | some l =>
    rw [e] at h
    obtain rfl := asT_some e
    obtain ⟨p, xs, rfl, h1, h2⟩ := q1.tup'
    exact ⟨p, rfl, ⟨xs, vw_t h1⟩, h _ H1 O1 Fp1 r1 x1 (iter_tup h1 h2)⟩⟩
instance {ta : TE} {a : Env Ω → Res Ω D} [A : SatE K W wx ta a] : SatI K W wx (iStr ta) (iS a) := ⟨fun F env σ H O Fp R r h => by
  refine A.thn r ((post_bind h).mono (Ex.refl _) fun d e1 h v1 H1 O1 Fp1 r1 x1 q1 => ?_)
  cases e : asS d with
  | none => rw [e] at h; exact h.elim
  | some l =>
    rw [e] at h
    obtain rfl := asS_some e
    obtain rfl := q1.str'
    exact ⟨l, rfl, h _ H1 O1 Fp1 r1 x1 iter_str⟩⟩
theorem sat_iB {ta : TA} {a : Env Ω → Res Ω (List D)} {f : List D → Option (List D)} {w : TI} (A : SatL K W wx ta a)
    (hw : ∀ (σ : L2.St) (H : Hp) (R : It → Hp → Prop), ta σ H (fun vs H1 => ∃ (O : Ow) (ds l : List D), RpAll K (vw O H1) vs ds ∧ f ds = some l ∧ ∀ J, Iter K (vw O H1) J l → R J H1) → w σ H R) : SatI K W wx w (iB f a) := ⟨fun F env σ H O Fp R r h => by
  refine hw (vis Ω σ) H R (A.go F env σ H O Fp _ r ((post_bind h).mono (Ex.refl _) fun ds e1 h vs H1 O1 Fp1 r1 x1 q1 => ?_))
  cases e : f ds with
  | none => rw [e] at h; exact h.elim
  | some l =>
    rw [e] at h
    exact ⟨O1, ds, l, q1, e, fun J i => h J H1 O1 Fp1 r1 x1 i⟩⟩
/-- a reading of arguments is monotone -/
class MonoA (ta : TA) : Prop where
  go : ∀ σ H (Q Q' : List V → Hp → Prop), (∀ vs H', Q vs H' → Q' vs H') → ta σ H Q → ta σ H Q'
theorem rpAll1 {H : Hp} {vs : List V} {d : D} (h : RpAll K H vs [d]) : ∃ v, vs = [v] ∧ Rp K H v d := by
  cases h with
  | cons h1 h2 => cases h2; exact ⟨_, rfl, h1⟩
theorem rpAll2 {H : Hp} {vs : List V} {d e : D} (h : RpAll K H vs [d, e]) : ∃ v u, vs = [v, u] ∧ Rp K H v d ∧ Rp K H u e := by
  cases h with
  | cons h1 h2 =>
    obtain ⟨u, rfl, h3⟩ := rpAll1 h2
    exact ⟨_, _, rfl, h1, h3⟩
theorem rpAll3 {H : Hp} {vs : List V} {d e f : D} (h : RpAll K H vs [d, e, f]) : ∃ v u w, vs = [v, u, w] ∧ Rp K H v d ∧ Rp K H u e ∧ Rp K H w f := by
  cases h with
  | cons h1 h2 =>
    obtain ⟨u, w, rfl, h3, h4⟩ := rpAll2 h2
    exact ⟨_, _, _, rfl, h1, h3, h4⟩
instance {ta : TA} {a : Env Ω → Res Ω (List D)} [A : SatL K W wx ta a] : SatI K W wx (iRng1 ta) (iB rngI a) := ⟨fun F env σ H O Fp R r h => by
  refine A.go F env σ H O Fp _ r ((post_bind h).mono (Ex.refl _) fun ds e1 h vs H1 O1 Fp1 r1 x1 q1 => ?_)
  split at h
  · rename_i l e
    unfold rngI at e
    split at e
    · split at e
      · rename_i hj
        cases e
        obtain ⟨v, rfl, q⟩ := rpAll1 q1
        obtain rfl := q.int'
        exact ⟨_, rfl, hj.1, hj.2, h _ H1 O1 Fp1 r1 x1 iter_rng⟩
      · cases e
    · cases e
  · exact h.elim⟩
instance {ta : TA} {a : Env Ω → Res Ω (List D)} [A : SatL K W wx ta a] : SatI K W wx (iRng2 ta) (iB rngI2 a) := ⟨fun F env σ H O Fp R r h => by
  refine A.go F env σ H O Fp _ r ((post_bind h).mono (Ex.refl _) fun ds e1 h vs H1 O1 Fp1 r1 x1 q1 => ?_)
  split at h
  · rename_i l e
    unfold rngI2 at e
    split at e
    · split at e
      · rename_i hj
        cases e
        obtain ⟨v, u, rfl, q, q'⟩ := rpAll2 q1
        obtain rfl := q.int'
        obtain rfl := q'.int'
        exact ⟨_, _, rfl, hj, h _ H1 O1 Fp1 r1 x1 iter_rng⟩
      · cases e
    · cases e
  · exact h.elim⟩
instance {ta : TA} {a : Env Ω → Res Ω (List D)} [A : SatL K W wx ta a] : SatI K W wx (iEnum K ta) (iB enumI a) := ⟨fun F env σ H O Fp R r h => by
  refine A.go F env σ H O Fp _ r ((post_bind h).mono (Ex.refl _) fun ds e1 h vs H1 O1 Fp1 r1 x1 q1 => ?_)
  split at h
  · rename_i l e
    unfold enumI at e
    split at e
    · cases e
      obtain ⟨v, rfl, q⟩ := rpAll1 q1
      obtain ⟨p, xs, rfl, h1, h2⟩ := q.lst'
      exact ⟨p, xs, rfl, vw_l h1, h _ H1 O1 Fp1 r1 x1 (iter_enum h1 h2)⟩
    · cases e
  · exact h.elim⟩
instance {ta : TA} {a : Env Ω → Res Ω (List D)} [A : SatL K W wx ta a] : SatI K W wx (RZ.iZipA K ta) (iB zipI a) := ⟨fun F env σ H O Fp R r h => by
  refine A.go F env σ H O Fp _ r ((post_bind h).mono (Ex.refl _) fun ds e1 h vs H1 O1 Fp1 r1 x1 q1 => ?_)
  split at h
  · rename_i l e
    unfold zipI at e
    split at e
    · cases e
      obtain ⟨v, u, rfl, q, q'⟩ := rpAll2 q1
      obtain ⟨p, xs, rfl, h1, h2⟩ := q.lst'
      obtain ⟨p', ys, rfl, h3, h4⟩ := q'.lst'
      exact ⟨p, p', xs, ys, rfl, .inl ⟨vw_l h1, vw_l h3, h _ H1 O1 Fp1 r1 x1 (iter_zip h1 h2 h3 h4)⟩⟩
    · cases e
      obtain ⟨v, u, rfl, q, q'⟩ := rpAll2 q1
      obtain ⟨p, xs, rfl, h1, h2⟩ := q.tup'
      obtain ⟨p', ys, rfl, h3, h4⟩ := q'.tup'
      exact ⟨p, p', xs, ys, rfl, .inr ⟨vw_t h1, vw_t h3, h _ H1 O1 Fp1 r1 x1 (iter_zipT h1 h2 h3 h4)⟩⟩
    · cases e
  · exact h.elim⟩
instance {ta : TA} {a : Env Ω → Res Ω (List D)} [A : SatL K W wx ta a] : SatI K W wx (iRev K ta) (iB revI a) := ⟨fun F env σ H O Fp R r h => by
  refine A.go F env σ H O Fp _ r ((post_bind h).mono (Ex.refl _) fun ds e1 h vs H1 O1 Fp1 r1 x1 q1 => ?_)
  split at h
  · rename_i l e
    unfold revI at e
    split at e
    · cases e
      obtain ⟨v, rfl, q⟩ := rpAll1 q1
      obtain ⟨p, xs, rfl, h1, h2⟩ := q.lst'
      exact ⟨p, xs, rfl, vw_l h1, h _ H1 O1 Fp1 r1 x1 (iter_rev h1 h2)⟩
    · cases e
  · exact h.elim⟩
/-! ### for -/
instance {wi : TI} {g : TG} {tb : TS} {it : Env Ω → Res Ω (List D)} {m : D → Env Ω → Res Ω Unit} {body : Env Ω → Flow Ω} [I : SatI K W wx wi it] [G : SatG K W g m] [N : NoErr m] [B : SatS K W wx tb body] : SatS K W wx (tFor wi g tb) (bFor it m body) := ⟨fun F env σ H O Fp D0 r h => by
  refine I.go F env σ H O Fp _ r (post_imp (fl_post σ h) fun items e1 h J H1 O1 Fp1 r1 x1 it => ?_)
  have h := FPost.mono h x1
  let Pv : Nat → L2.St → Hp → Prop := fun i σ H => ∃ (e : Env Ω) (O : Ow) (Fp : Nat → List Addr), Rel K W F e (ups Ω σ) H O Fp ∧ Ex (vw O1 H1) (vw O H) ∧ FPost K W wx F H1 O1 D0 (loopM m body (items.drop i) e)
  refine ⟨fun i k σ H => k = items.length - i ∧ i ≤ items.length ∧ Pv i σ H, ⟨_, rfl, Nat.zero_le _, e1, O1, Fp1, by rw [r1.up]; exact r1, Ex.refl _, h⟩, ?_⟩
  rintro i k σ2 H2 ⟨rfl, hi, e2, O2, Fp2, r2, x2, h2⟩
  rcases Nat.lt_or_ge i items.length with hlt | hge
  · refine .inr ⟨it.go i H2 O2 x2 r2.all hlt, Pv (i + 1), fun σ' H' p => ⟨items.length - (i + 1), by omega, rfl, hlt, p⟩, fun v H' y => ?_⟩
    have hd : items[i]? = some items[i] := List.getElem?_eq_getElem hlt
    obtain ⟨x3, q3⟩ := it.yld i H2 v H' O2 x2 r2.all y _ hd
    have hdrop : items.drop i = items[i] :: items.drop (i + 1) := List.drop_eq_getElem_cons hlt
    rw [hdrop] at h2
    unfold loopM at h2
    have r3 := r2.grow x3
    have x23 := x2.trans (vw_ex (O := O2) x3)
    rw [← vis_ups (Ω := Ω) (σ := σ2)]
    refine G.go F e2 (ups Ω σ2) H' O2 Fp2 v _ _ r3 q3 ?_
    have h4 := fl_post0 h2 fun c p e => N.go _ e2 c p e
    cases q : m items[i] e2 with
    | err c p e => rw [q] at h4; exact h4.elim
    | bad => rw [q] at h4; exact h4.elim
    | ok u e3 =>
      rw [q] at h4
      have h4 : FPost K W wx F H1 O1 D0 (match body e3 with | .nx e2 => loopM m body (items.drop (i + 1)) e2 | .ct e2 => loopM m body (items.drop (i + 1)) e2 | .bk e2 => .nx e2 | f => f) := h4
      intro σ4 H4 O4 Fp4 r4 x4
      have x14 := x23.trans x4
      refine B.go F e3 σ4 H4 O4 Fp4 _ r4 ?_
      cases qb : body e3 with
      | nx e5 => rw [qb] at h4; exact fun σ' H' O' Fp' r' x' => ⟨e5, O', Fp', by rw [r'.up]; exact r', x14.trans x', h4⟩
      | ct e5 => rw [qb] at h4; exact fun σ' H' O' Fp' r' x' => ⟨e5, O', Fp', by rw [r'.up]; exact r', x14.trans x', h4⟩
      | bk e5 => rw [qb] at h4; exact Nexts.mono h4 x14
      | rt rv e5 => rw [qb] at h4; exact FPost.mono (f := .rt rv e5) h4 x14
      | err c p e5 => rw [qb] at h4; exact FPost.mono (D0 := D0) (f := .err c p e5) h4 x14
      | bad => rw [qb] at h4; exact h4.elim
  · refine .inl ⟨it.stop i H2 O2 x2 r2.all hge, ?_⟩
    rw [List.drop_eq_nil_of_le hge] at h2
    have h3 := h2 (ups Ω σ2) H2 O2 Fp2 r2 x2
    rwa [vis_ups] at h3⟩
/-! ### comprehensions -/
theorem wipe_len (σ : L2.St) : ∀ vs : List Nat, (wipe σ vs).length = σ.length
  | [] => rfl
  | v :: vs => by show ((wipe σ vs).set v none).length = _; rw [List.length_set, wipe_len σ vs]
theorem wipeE_len (e : Env Ω) : ∀ vs : List Nat, (wipeE vs e).length = e.length
  | [] => rfl
  | v :: vs => by show ((wipeE vs e).set v none).length = _; rw [List.length_set, wipeE_len e vs]
theorem wipe_at (σ : L2.St) : ∀ (vs : List Nat) (j : Nat), j ∉ vs → (wipe σ vs)[j]? = σ[j]?
  | [], _, _ => rfl
  | v :: vs, j, h => by
    show ((wipe σ vs).set v none)[j]? = _
    rw [List.getElem?_set_ne fun z => h (by rw [z]; exact List.mem_cons_self), wipe_at σ vs j fun z => h (List.mem_cons_of_mem _ z)]
theorem wipeE_at (e : Env Ω) : ∀ (vs : List Nat) (j : Nat), j ∉ vs → (wipeE vs e)[j]? = e[j]?
  | [], _, _ => rfl
  | v :: vs, j, h => by
    show ((wipeE vs e).set v none)[j]? = _
    rw [List.getElem?_set_ne fun z => h (by rw [z]; exact List.mem_cons_self), wipeE_at e vs j fun z => h (List.mem_cons_of_mem _ z)]
theorem wipeE_none (e : Env Ω) : ∀ (vs : List Nat) (j : Nat) (sd : SD Ω), j ∈ vs → (wipeE vs e)[j]? ≠ some (some sd)
  | v :: vs, j, sd, h => by
    show ((wipeE vs e).set v none)[j]? ≠ _
    by_cases hv : v = j
    · subst hv
      rw [List.getElem?_set]
      simp
    · rw [List.getElem?_set_ne hv]
      exact wipeE_none e vs j sd ((List.mem_cons.mp h).resolve_left fun z => hv z.symm)
/-- the block's slots are another list: what is not its own is the same -/
theorem Rel.wipe {F : Fr} {env : Env Ω} {σ : L2.St} {H : Hp} {O : Ow} {Fp : Nat → List Addr} (r : Rel K W F env σ H O Fp) {vs : List Nat} {σ' : L2.St} (hs : wipe σ' vs = wipe σ vs) (hw : ∀ i ∈ vs, W i = true) : Rel K W F (wipeE vs env) σ' H O Fp where
  nms := ⟨r.nms.un, r.nms.hw, fun o ho h => by
    by_cases hi : 0 ∈ vs
    · exact absurd h (wipeE_none env vs 0 _ hi)
    · rw [wipeE_at env vs 0 hi] at h
      exact r.nms.lt o ho h, r.nms.nn, r.nms.dz⟩
  len := by
    have := congrArg List.length hs
    rw [wipe_len, wipe_len] at this
    rw [wipeE_len, this]; exact r.len
  slot := fun i sd h => by
    by_cases hi : i ∈ vs
    · exact absurd h (wipeE_none env vs i sd hi)
    · rw [wipeE_at env vs i hi] at h
      obtain ⟨v, h1, h2⟩ := r.slot i sd h
      refine ⟨v, ?_, h2⟩
      rw [← wipe_at σ' vs i hi, hs, wipe_at σ vs i hi]; exact h1
  own := r.own
  dis := r.dis
  mine := r.mine
  sub := r.sub
  new := r.new
  all := r.all
  keep := r.keep
  fix := fun i h => by
    have hi : i ∉ vs := fun z => by rw [hw i z] at h; cases h
    rw [← wipe_at σ' vs i hi, hs, wipe_at σ vs i hi]; exact r.fix i h
  pinned := r.pinned
  pin := r.pin
  base := r.base
  pw := r.pw
theorem wipe_in (σ : L2.St) : ∀ (vs : List Nat) (j : Nat), j ∈ vs → (wipe σ vs)[j]? = if j < σ.length then some none else none
  | v :: vs, j, h => by
    show ((wipe σ vs).set v none)[j]? = _
    by_cases hv : v = j
    · subst hv
      rw [List.getElem?_set, wipe_len]; simp
    · rw [List.getElem?_set_ne hv]
      exact wipe_in σ vs j ((List.mem_cons.mp h).resolve_left fun z => hv z.symm)
theorem wipe_wipe (σ : L2.St) (vs : List Nat) : wipe (wipe σ vs) vs = wipe σ vs := by
  apply List.ext_getElem?
  intro j
  by_cases hj : j ∈ vs
  · rw [wipe_in _ vs j hj, wipe_in _ vs j hj, wipe_len]
  · rw [wipe_at _ vs j hj]
class WrAll (W : Wd) (vs : List Nat) : Prop where
  eq : ∀ i ∈ vs, W i = true
instance : WrAll W [] := ⟨fun _ h => nomatch h⟩
instance {i : Nat} {vs : List Nat} [h : Wr W i] [t : WrAll W vs] : WrAll W (i :: vs) := ⟨fun j hj => by
  rcases List.mem_cons.mp hj with rfl | hj
  · exact h.eq
  · exact t.eq j hj⟩
theorem ne_post {α : Type} {r : Res Ω α} {β : Type} {f : α → Env Ω → Res Ω β} {P : β → Env Ω → Prop} {R : Str → Option D → Env Ω → Prop} (h : Post P R (r.ne.bind f)) : ∃ a e, r = .ok a e ∧ Post P R (f a e) := by
  cases r with
  | ok a e => exact ⟨a, e, rfl, h⟩
  | err c p e => exact h.elim
  | bad => exact h.elim
theorem vw_addp {O : Ow} {H : Hp} {p : Addr} (h : O p) : vw (addO O p) H = vw O H := by
  funext a
  rcases vw_cases (O := O) (a := a) with ⟨n, q, e1⟩ | ⟨q, e1⟩ | ⟨q, e1⟩
  · rw [e1, vw_nm (O := addO O p) q]
  · rw [e1, vw_in (O := addO O p) ⟨.inl q.1, q.2⟩]
  · rw [e1, vw_out (O := addO O p)]
    rintro (z | rfl)
    · exact q z
    · exact q h
instance : SatT (Ω := Ω) K W wx tYes tYesM := ⟨fun F env σ H O Fp Q r h => h H O Fp r (Ex.refl _)⟩
/-- a target stores into the block's own slots alone -/
class GWipe (g : TG) (vs : List Nat) : Prop where
  go : ∀ v σ H (R R' : L2.St → Hp → Prop), (∀ σ' H', L2.wipe σ' vs = L2.wipe σ vs → R σ' H' → R' σ' H') → g v σ H R → g v σ H R'
class GWipes (g : TGs) (vs : List Nat) : Prop where
  go : ∀ v σ H (R R' : L2.St → Hp → Prop), (∀ σ' H', L2.wipe σ' vs = L2.wipe σ vs → R σ' H' → R' σ' H') → g v σ H R → g v σ H R'
class InL (i : Nat) (vs : List Nat) : Prop where
  eq : i ∈ vs
instance {i : Nat} {vs : List Nat} : InL i (i :: vs) := ⟨List.mem_cons_self⟩
instance (priority := low) {i j : Nat} {vs : List Nat} [h : InL i vs] : InL i (j :: vs) := ⟨List.mem_cons_of_mem _ h.eq⟩
theorem wipe_set (σ : L2.St) {vs : List Nat} {i : Nat} (x : Option V) (h : i ∈ vs) : L2.wipe (σ.set i x) vs = L2.wipe σ vs := by
  apply List.ext_getElem?
  intro j
  by_cases hj : j ∈ vs
  · rw [wipe_in _ vs j hj, wipe_in _ vs j hj, List.length_set]
  · rw [wipe_at _ vs j hj, wipe_at _ vs j hj, List.getElem?_set_ne fun z => hj (by rw [← z]; exact h)]
instance {i : Nat} {vs : List Nat} [h : InL i vs] : GWipe (gName i) vs := ⟨fun v σ H R R' hR q => hR _ _ (wipe_set σ _ h.eq) q⟩
instance {vs : List Nat} : GWipes gNil vs := ⟨fun v σ H R R' hR q => ⟨q.1, hR _ _ rfl q.2⟩⟩
instance {t : TG} {u : TGs} {vs : List Nat} [T : GWipe t vs] [U : GWipes u vs] : GWipes (gCons t u) vs := ⟨fun v σ H R R' hR q => by
  obtain ⟨x, r, rfl, q⟩ := q
  exact ⟨x, r, rfl, T.go x σ H _ _ (fun σ' H' e q => U.go r σ' H' R R' (fun σ2 H2 e2 q => hR σ2 H2 (e2.trans e) q) q) q⟩⟩
instance {n : Nat} {t : TGs} {vs : List Nat} [T : GWipes t vs] : GWipe (gTup K n t) vs := ⟨fun v σ H R R' hR q => by
  obtain ⟨a, xs, rfl, h1, h2, q⟩ := q
  exact ⟨a, xs, rfl, h1, h2, T.go xs σ H R R' hR q⟩⟩
instance {n : Nat} {t : TGs} {vs : List Nat} [T : GWipes t vs] : GWipe (gStar K n t) vs := ⟨fun v σ H R R' hR q => by
  obtain ⟨a, xs, rfl, h1, h2, q⟩ := q
  exact ⟨a, xs, rfl, h1, h2, fun p hp => T.go _ σ _ R R' hR (q p hp)⟩⟩
open Classical in
/-- one more thing that stood as the def began -/
noncomputable def Fr.add (F : Fr) (D : Addr) (o : HO) : Fr := ⟨fun a => if a = D then some o else F.H0 a, addO F.O0 D, F.P, F.σ0⟩
section
variable {F : Fr} {env : Env Ω} {σ : L2.St} {H : Hp} {O : Ow} {Fp : Nat → List Addr} {p : Addr} {o : HO}
theorem add_at {a : Addr} (h : a ≠ p) : (F.add p o).H0 a = F.H0 a := by unfold Fr.add; simp [h]
theorem add_self : (F.add p o).H0 p = some o := by unfold Fr.add; simp
theorem Rel.adopt (r : Rel K W F env σ H O Fp) (hnm : O.nm p = none) (hO : O p) (hF : ∀ j, p ∉ Fp j) (h0 : F.H0 p = none) (hp : H p = some o) : Rel K W (F.add p o) env σ H O Fp where
  nms := ⟨r.nms.un, r.nms.hw, r.nms.lt, fun a n h => by
    by_cases e : a = p
    · subst e
      rcases r.nms.nn a n h with z | z
      · exact .inl z
      · exact absurd (O.sub a n h) (fun _ => by rw [hnm] at h; cases h)
    · rw [add_at e]; exact r.nms.nn a n h, r.nms.dz⟩
  len := r.len
  slot := r.slot
  own := r.own
  dis := r.dis
  mine := fun i a h => by
    rw [add_at fun z => hF i (by rw [← z]; exact h)]
    exact r.mine i a h
  sub := fun a h => by
    rcases h with h | rfl
    · exact r.sub a h
    · exact hO
  new := fun a h => by
    by_cases e : a = p
    · exact .inl (.inr e)
    · rw [add_at e]
      exact (r.new a h).imp .inl id
  all := r.all
  keep := fun a u h q => by
    by_cases e : a = p
    · subst e; rw [add_self] at h; rw [← h]; exact hp
    · rw [add_at e] at h; exact r.keep a u h q
  fix := r.fix
  pinned := r.pinned
  pin := fun i a h => .inl (r.pin i a h)
  base := fun a h => by
    by_cases e : a = p
    · subst e; rw [add_self]; intro z; cases z
    · rw [add_at e]; exact r.base a (h.resolve_right e)
  pw := r.pw
theorem Rel.unadopt (h0 : F.H0 p = none) (hP : ∀ i, p ∉ F.P i) (hF0 : ∀ i a, a ∈ F.P i → F.O0 a) (hb : ∀ a, F.O0 a → F.H0 a ≠ none) (r : Rel K W (F.add p o) env σ H O Fp) : Rel K W F env σ H O Fp ∧ O p ∧ (∀ j, p ∉ Fp j) ∧ H p = some o := by
  refine ⟨⟨⟨r.nms.un, r.nms.hw, r.nms.lt, fun a n h => by
      by_cases e : a = p
      · subst e
        refine (r.nms.nn a n h).imp id fun z => ?_
        have z := z.1; rw [add_self] at z; cases z
      · have := r.nms.nn a n h
        rwa [add_at e] at this, r.nms.dz⟩, r.len, r.slot, r.own, r.dis, fun i a h => ?_, fun a h => r.sub a (.inl h), fun a h => ?_, r.all, fun a u h q => ?_, r.fix, r.pinned, hF0, hb, r.pw⟩, r.sub p (.inr rfl), fun j h => ?_, r.keep p o add_self hP⟩
  · rcases r.mine i a h with z | z
    · exact .inl z
    · by_cases e : a = p
      · subst e; rw [add_self] at z; cases z
      · rw [add_at e] at z; exact .inr z
  · rcases r.new a h with z | z
    · rcases z with z | rfl
      · exact .inl z
      · exact .inr h0
    · by_cases e : a = p
      · subst e; rw [add_self] at z; cases z
      · rw [add_at e] at z; exact .inr z
  · by_cases e : a = p
    · subst e; rw [h0] at h; cases h
    · exact r.keep a u (by rw [add_at e]; exact h) q
  · rcases r.mine j p h with z | z
    · exact hP j z
    · rw [add_self] at z; cases z
theorem unm_of (r : Rel K W (F.add p o) env σ H O Fp) (h0 : F.H0 p = none) (hb : ∀ a, F.O0 a → F.H0 a ≠ none) : O.nm p = none := by
  cases e : O.nm p with
  | none => rfl
  | some n =>
    exfalso
    rcases r.nms.nn p n e with z | z
    · exact hb p (F.O0.sub p n z) h0
    · have z := z.1; rw [add_self] at z; cases z
/-- an own thing that no slot holds is written -/
theorem Rel.updO (r : Rel K W F env σ H O Fp) (hO : O p) (hF : ∀ j, p ∉ Fp j) (h0 : F.H0 p = none) : Rel K W F env σ (upd H p o) O Fp where
  nms := r.nms
  len := r.len
  slot := fun i sd h => by
    obtain ⟨v, h1, h2⟩ := r.slot i sd h
    refine ⟨v, h1, ?_⟩
    rw [vw_upd_own hO]
    exact h2.mono (Ex.refl _) fun a ha => upd_ne fun z => hF i (by rw [← z]; exact ha)
  own := r.own
  dis := r.dis
  mine := r.mine
  sub := r.sub
  new := r.new
  all := fun a h => by
    by_cases e : a = p
    · rw [e, upd_same]; intro z; cases z
    · rw [upd_ne e]; exact r.all a h
  keep := fun a u h q => by
    rw [upd_ne]
    · exact r.keep a u h q
    · intro z; subst z; rw [h0] at h; cases h
  fix := r.fix
  pinned := r.pinned
  pin := r.pin
  base := r.base
  pw := r.pw
end
theorem post_raise0 {α : Type} {r : Res Ω α} {P : α → Env Ω → Prop} {R : Str → Option D → Env Ω → Prop} {a : α} {e : Env Ω} (hr : r = .ok a e) (h : P a e) : Post P R r := by rw [hr]; exact h
instance {wi : TI} {g : TG} {tt : TT} {te : TE} {vs0 vs : List Nat} {it : Env Ω → Res Ω (List D)} {m : D → Env Ω → Res Ω Unit} {t : Env Ω → Res Ω Bool} {el : Env Ω → Res Ω D}
    [I : SatI K W wx wi it] [G : SatG K W g m] [N : GWipe g vs0] [T : SatT K W WX0 tt t] [E : SatE K W WX0 te el] [IX : Ixs Ω vs0 vs] [VW : WrAll W vs] : SatO K W wx (tLc wi g tt te vs0) (oLc it m t el vs) := ⟨fun F env σ H O Fp Q r h => by
  refine I.go F env σ H O Fp _ r ((post_bind h).mono (Ex.refl _) fun items e1 h J H1 O1 Fp1 r1 x1 it => ?_)
  by_cases hlen : items.length ≤ 1000000
  rotate_left
  · simp only [hlen, if_false] at h; exact h.elim
  simp only [hlen, if_true] at h
  intro Dp hn
  have hsz : (1000000 : Nat) < sizeLine := by decide
  have h0 : F.H0 Dp = none := r1.fresh hn
  have hP : ∀ i, Dp ∉ F.P i := fun i z => r1.base Dp (r1.pin i Dp z) h0
  let Fin : Res Ω (List D) → Prop := fun res => OPost K W wx F σ H O Q (res.bind fun l e' => .ok (.lst l) e')
  let Pv : Nat → Hp → Prop := fun i H' => ∃ (e : Env Ω) (O' : Ow) (Fp' : Nat → List Addr) (acc : List D) (ys : List V), Rel K W F e (L2.wipe σ vs) H' O' Fp' ∧ O'.un Dp ∧ (∀ j, Dp ∉ Fp' j) ∧ H' Dp = some (.lst ys) ∧ RpAll K (vw O' H') ys acc ∧ acc.length ≤ i ∧
    Ex (vw O1 H1) (vw O' H') ∧ Fin (lcM m t el vs (items.drop i) acc e)
  have start : Pv 0 (upd H1 Dp (.lst [])) := by
    refine ⟨wipeE vs e1, addO O1 Dp, Fp1, [], [], (r1.newO hn).wipe (wipe_wipe σ vs) VW.eq, addO_un (r1.notO hn), fun j z => r1.all Dp (r1.own j Dp z) hn, upd_same, .nil, Nat.le_refl _, by rw [vw_add (r1.notO hn) hn]; exact Ex.refl _, h⟩
  refine ⟨fun i k H' => k = items.length - i ∧ i ≤ items.length ∧ Pv i H', ⟨_, rfl, Nat.zero_le _, start⟩, ?_⟩
  rintro i k H2 ⟨rfl, hi, e2, O2, Fp2, acc, ys, r2, hO2, hF2, hD2, ha2, hl2, x2, h2⟩
  rcases Nat.lt_or_ge i items.length with hlt | hge
  · refine .inr ⟨it.go i H2 O2 x2 r2.all hlt, Pv (i + 1), fun H' p => ⟨items.length - (i + 1), by omega, rfl, hlt, p⟩, fun v H3 y => ?_⟩
    have hd : items[i]? = some items[i] := List.getElem?_eq_getElem hlt
    obtain ⟨x3, q3⟩ := it.yld i H2 v H3 O2 x2 r2.all y _ hd
    have hdrop : items.drop i = items[i] :: items.drop (i + 1) := List.drop_eq_getElem_cons hlt
    have h2 : Fin (lcM m t el vs (items[i] :: items.drop (i + 1)) acc e2) := by rw [← hdrop]; exact h2
    have r3 := (r2.adopt hO2.2 hO2.1 hF2 h0 hD2).grow x3
    have x23 : Ex (vw O2 H2) (vw O2 H3) := vw_ex x3
    -- the mirror's turn
    have h3 : ∃ u e3, m items[i] e2 = .ok u e3 ∧ Fin ((t e3).ne.bind fun b e2 => if b = true then (el e2).ne.bind fun y e3 => lcM m t el vs (items.drop (i + 1)) (acc ++ [y]) (wipeE vs e3) else lcM m t el vs (items.drop (i + 1)) acc (wipeE vs e2)) := by
      cases q : m items[i] e2 with
      | ok u e3 => exact ⟨u, e3, rfl, by have z := h2; simp only [Fin, lcM, q, Res.ne, Res.bind] at z ⊢; exact z⟩
      | err c p e3 => have z := h2; simp only [Fin, lcM, q, Res.ne, Res.bind] at z; exact z.elim
      | bad => have z := h2; simp only [Fin, lcM, q, Res.ne, Res.bind] at z; exact z.elim
    obtain ⟨u, e3, hm, h3⟩ := h3
    refine N.go v _ H3 (fun σ' H' => L2.wipe σ' vs0 = L2.wipe (L2.wipe (vis Ω σ) vs0) vs0 ∧ (L2.wipe σ' vs0 = L2.wipe (vis Ω σ) vs0 → tt σ' H' _)) _ (fun σ' H' e q => ⟨by rw [e, wipe_wipe], q.2 (by rw [e, wipe_wipe])⟩) ?_
    refine N.go v _ H3 (fun σ' H' => (L2.wipe σ' vs0 = L2.wipe (vis Ω σ) vs0 → tt σ' H' _)) _ (fun σ' H' e q => ⟨e, q⟩) ?_
    rw [← vis_wipe IX r.up]
    refine G.go (F.add Dp (.lst ys)) e2 _ H3 O2 Fp2 v _ _ r3 q3 (post_raise0 hm ?_)
    intro σ4 H4 O4 Fp4 r4 x4 hw
    have hw : L2.wipe σ4 vs = L2.wipe σ vs := by
      have e1 := wipe_ups (Ω := Ω) (σ := vis Ω σ4) IX
      have e2 := wipe_ups (Ω := Ω) (σ := vis Ω σ) IX
      rw [r4.up] at e1; rw [r.up] at e2
      rw [e1, e2, hw, vis_wipe IX r.up]
    have h4 : ∃ b e4, t e3 = .ok b e4 ∧ Fin (if b = true then (el e4).ne.bind fun y e3 => lcM m t el vs (items.drop (i + 1)) (acc ++ [y]) (wipeE vs e3) else lcM m t el vs (items.drop (i + 1)) acc (wipeE vs e4)) := by
      cases q : t e3 with
      | ok b e4 => exact ⟨b, e4, rfl, by have z := h3; simp only [Fin, q, Res.ne, Res.bind] at z ⊢; exact z⟩
      | err c p e3 => have z := h3; simp only [Fin, q, Res.ne, Res.bind] at z; exact z.elim
      | bad => have z := h3; simp only [Fin, q, Res.ne, Res.bind] at z; exact z.elim
    obtain ⟨b, e4, ht, h4⟩ := h4
    refine T.go (F.add Dp (.lst ys)) e3 σ4 H4 O4 Fp4 _ r4 (post_raise0 ht ?_)
    intro H5 O5 Fp5 r5 x5
    cases b with
    | false =>
      refine iteF ?_
      obtain ⟨r6, hO6, hF6, hD6⟩ := Rel.unadopt h0 hP r.pin r.base r5
      have hO6 : O5.un Dp := ⟨hO6, unm_of r5 h0 r.base⟩
      have x25 := (x23.trans x4).trans x5
      exact ⟨wipeE vs e4, O5, Fp5, acc, ys, r6.wipe (by rw [wipe_wipe, hw]) VW.eq, hO6, hF6, hD6, ha2.mono x25, Nat.le_succ_of_le hl2, x2.trans x25, h4⟩
    | true =>
      refine iteT ?_
      have h5 : ∃ d e5, el e4 = .ok d e5 ∧ Fin (lcM m t el vs (items.drop (i + 1)) (acc ++ [d]) (wipeE vs e5)) := by
        cases q : el e4 with
        | ok b e4 => exact ⟨b, e4, rfl, by have z := h4; simp only [Fin, q, Res.ne, Res.bind, if_true] at z ⊢; exact z⟩
        | err c p e3 => have z := h4; simp only [Fin, q, Res.ne, Res.bind, if_true] at z; exact z.elim
        | bad => have z := h4; simp only [Fin, q, Res.ne, Res.bind, if_true] at z; exact z.elim
      obtain ⟨d, e5, he, h5⟩ := h5
      refine E.go (F.add Dp (.lst ys)) e4 σ4 H5 O5 Fp5 _ r5 (post_raise0 he ?_)
      intro v6 H6 O6 Fp6 r6 x6 q6
      obtain ⟨r7, hO7, hF7, hD7⟩ := Rel.unadopt h0 hP r.pin r.base r6
      have hO7' : O6.un Dp := ⟨hO7, unm_of r6 h0 r.base⟩
      have x26 := ((x23.trans x4).trans x5).trans x6
      have hyl : ys.length = acc.length := ha2.length
      refine ⟨ys, hD7, by omega, wipeE vs e5, O6, Fp6, acc ++ [d], ys ++ [v6], (r7.updO hO7 hF7 h0).wipe (by rw [wipe_wipe, hw]) VW.eq, hO7', hF7, upd_same, ?_, by rw [List.length_append]; exact Nat.succ_le_succ hl2, ?_, h5⟩
      · rw [vw_upd_own hO7]
        exact (ha2.mono x26).append (.cons q6 .nil)
      · rw [vw_upd_own hO7]; exact x2.trans x26
  · refine .inl ⟨it.stop i H2 O2 x2 r2.all hge, ?_⟩
    rw [List.drop_eq_nil_of_le hge] at h2
    have h2 : OPost K W wx F σ H O Q (.ok (.lst acc) (wipeE vs e2)) := h2
    exact h2 (.ref Dp) H2 O2 Fp2 [Dp] (r2.wipe (wipe_wipe σ vs).symm VW.eq) (x1.trans x2) ⟨Dp, ys, rfl, rfl, hD2, ha2⟩ fun a ha => by
      rw [List.mem_singleton.mp ha]
      exact ⟨hO2, h0, hF2⟩⟩
end
end Ve

set_option Elab.async false
set_option linter.all false
set_option maxRecDepth 100000
set_option maxHeartbeats 4000000
/-! Built-ins, slices, own lists in slots, raise. -/
namespace Ve
open PySem PySem.Spec PyProof.Rows L2 Evl Ny
/-! ### built-ins -/
def dLen : List D → Option D
  | [.list l] => some (.int l.length)
  | [.tuple l] => some (.int l.length)
  | [.str x] => if x.length ≤ sizeLine then some (.int x.length) else none
  | [.dict es] => if refOf (.dict es) = none then some (.int es.length) else none
  | _ => none
def dInt : List D → Option D
  | [.int i] => some (.int i)
  | [.bool b] => some (.int (if b then 1 else 0))
  | [.str x] => if x.length ≤ 640 then (PySem.intText? x).map .int else none
  | _ => none
def dMax : List D → Option D
  | [.int i, .int j] => some (.int (if j > i then j else i))
  | _ => none
def dMin : List D → Option D
  | [.int i, .int j] => some (.int (if j < i then j else i))
  | _ => none
def dStr : List D → Option D
  | [.int i] => if i.natAbs < 10 ^ 200 then some (.str (Str.ofString (toString i))) else none
  | [.str x] => some (.str x)
  | [.none] => some (.str "None")
  | _ => none
def boolsOf : List D → Option (List Bool)
  | [] => some []
  | .bool b :: r => (boolsOf r).map fun l => b :: l
  | _ :: _ => none
def dAny : List D → Option D
  | [.list l] => (boolsOf l).map fun bs => .bool (bs.any id)
  | _ => none
def dAll : List D → Option D
  | [.list l] => (boolsOf l).map fun bs => .bool (bs.all id)
  | _ => none
def oList : List D → Option (List D)
  | [.list l] => some l
  | [.tuple l] => some l
  | _ => none
/-- which kind a datum is of -/
def isiB (c : Kd) (d : D) : Bool := (PyData.kd d).isi c
section
variable {K : PySem.W.Frag}
theorem rp_kd {O : Ow} {H : Hp} {v : V} {d : D} (h : Rp K (vw O H) v d) (hn : noRef d = true) : KdOf K H v (PyData.kd d) := by
  cases h with
  | ref h => cases hn
  | non => exact .non
  | bl b => exact .bl b
  | int i => exact .int i
  | str x => exact .str x
  | lst h _ => exact .lst (vw_l h)
  | tup h _ => exact .tup (vw_t h)
  | dct h _ _ => exact .dct (vw_d h)
instance : SatRL K (uLen K) dLen := ⟨fun O xs ds z H Q hO hx hf hq => by
  unfold dLen at hf
  split at hf
  · cases hf
    obtain ⟨v, rfl, q⟩ := rpAll1 hx
    obtain ⟨a, ys, rfl, h1, h2⟩ := q.lst'
    refine w_lenL (vw_l h1) ?_
    rw [h2.length]; exact hq _ H (Ex.refl _) (.int _)
  · cases hf
    obtain ⟨v, rfl, q⟩ := rpAll1 hx
    obtain ⟨a, ys, rfl, h1, h2⟩ := q.tup'
    refine w_lenT (vw_t h1) ?_
    rw [h2.length]; exact hq _ H (Ex.refl _) (.int _)
  · split at hf
    · rename_i hl
      cases hf
      obtain ⟨v, rfl, q⟩ := rpAll1 hx
      obtain rfl := q.str'
      exact w_lenS hl (hq _ H (Ex.refl _) (.int _))
    · cases hf
  · split at hf
    · rename_i hn
      cases hf
      obtain ⟨v, rfl, q⟩ := rpAll1 hx
      obtain ⟨a, kvs, rfl, h1, h2, h3⟩ := q.dget hn
      refine .inr ⟨a, kvs, rfl, h1, ?_⟩
      rw [keys_len h2]; exact hq _ H (Ex.refl _) (.int _)
    · cases hf
  · cases hf⟩
instance : SatRL K uInt dInt := ⟨fun O xs ds z H Q hO hx hf hq => by
  unfold dInt at hf
  split at hf
  · cases hf
    obtain ⟨v, rfl, q⟩ := rpAll1 hx
    obtain rfl := q.int'
    exact w_toint_int (hq _ H (Ex.refl _) (.int _))
  · cases hf
    obtain ⟨v, rfl, q⟩ := rpAll1 hx
    obtain rfl := q.bl'
    exact w_toint_bl (hq _ H (Ex.refl _) (.int _))
  · split at hf
    · rename_i x hl
      cases e : PySem.intText? x with
      | none => rw [e] at hf; cases hf
      | some n =>
        rw [e] at hf; cases hf
        obtain ⟨v, rfl, q⟩ := rpAll1 hx
        obtain rfl := q.str'
        exact .inr ⟨x, n, rfl, e, hl, hq _ H (Ex.refl _) (.int _)⟩
    · cases hf
  · cases hf⟩
instance : SatRL K (uMax K) dMax := ⟨fun O xs ds z H Q hO hx hf hq => by
  unfold dMax at hf
  split at hf
  · cases hf
    obtain ⟨v, u, rfl, q, q'⟩ := rpAll2 hx
    obtain rfl := q.int'
    obtain rfl := q'.int'
    exact w_max2 (hq _ H (Ex.refl _) (.int _))
  · cases hf⟩
instance : SatRL K (uMin K) dMin := ⟨fun O xs ds z H Q hO hx hf hq => by
  unfold dMin at hf
  split at hf
  · cases hf
    obtain ⟨v, u, rfl, q, q'⟩ := rpAll2 hx
    obtain rfl := q.int'
    obtain rfl := q'.int'
    exact w_min2 (hq _ H (Ex.refl _) (.int _))
  · cases hf⟩
instance : SatRL K uStr dStr := ⟨fun O xs ds z H Q hO hx hf hq => by
  unfold dStr at hf
  split at hf
  · split at hf
    · rename_i i hl
      cases hf
      obtain ⟨v, rfl, q⟩ := rpAll1 hx
      obtain rfl := q.int'
      exact .inl ⟨i, rfl, Nat.lt_of_le_of_lt (big200 hl) (by decide), hq _ H (Ex.refl _) (.str _)⟩
    · cases hf
  · cases hf
    obtain ⟨v, rfl, q⟩ := rpAll1 hx
    obtain rfl := q.str'
    exact .inr (.inl ⟨_, rfl, hq _ H (Ex.refl _) (.str _)⟩)
  · cases hf
    obtain ⟨v, rfl, q⟩ := rpAll1 hx
    obtain rfl := q.non'
    exact .inr (.inr ⟨rfl, hq _ H (Ex.refl _) (.str _)⟩)
  · cases hf⟩
theorem bools_ok {H : Hp} : ∀ {xs : List V} {l : List D} {bs : List Bool}, RpAll K H xs l → boolsOf l = some bs → xs = bs.map V.bl
  | _, _, _, .nil, e => by cases e; rfl
  | _, _, _, .cons h t, e => by
    rename_i d ds
    cases d with
    | bool b =>
      cases q : boolsOf ds with
      | none => simp [boolsOf, q] at e
      | some l =>
        simp [boolsOf, q] at e
        subst e
        rw [h.bl', bools_ok t q]; rfl
    | _ => simp [boolsOf] at e
instance : SatRL K (uAny K) dAny := ⟨fun O xs ds z H Q hO hx hf hq => by
  unfold dAny at hf
  split at hf
  · rename_i l
    cases e : boolsOf l with
    | none => rw [e] at hf; cases hf
    | some bs =>
      rw [e] at hf; cases hf
      obtain ⟨v, rfl, q⟩ := rpAll1 hx
      obtain ⟨a, ys, rfl, h1, h2⟩ := q.lst'
      rw [bools_ok h2 e] at h1
      exact ⟨a, bs, rfl, vw_l h1, hq _ H (Ex.refl _) (.bl _)⟩
  · cases hf⟩
instance : SatRL K (uAll K) dAll := ⟨fun O xs ds z H Q hO hx hf hq => by
  unfold dAll at hf
  split at hf
  · rename_i l
    cases e : boolsOf l with
    | none => rw [e] at hf; cases hf
    | some bs =>
      rw [e] at hf; cases hf
      obtain ⟨v, rfl, q⟩ := rpAll1 hx
      obtain ⟨a, ys, rfl, h1, h2⟩ := q.lst'
      rw [bools_ok h2 e] at h1
      exact ⟨a, bs, rfl, vw_l h1, hq _ H (Ex.refl _) (.bl _)⟩
  · cases hf⟩
end
/-! ### slices of anything -/
def vSl (K : PySem.W.Frag) : V → Option Int → Option Int → Hp → VK → Prop := fun x lo hi H Q => uSl K x lo hi H Q ∨ rSlA K x lo hi H Q ∨ rSlS x lo hi H Q
theorem sv_sl {X : Cx} : SlR X (vSl X.K) := sl_list.or (sl_tupA.or sl_str)
def cutD (l : List D) (lo hi : Option Int) : List D := (l.drop (HT.sIx l.length 0 lo)).take (HT.sIx l.length l.length hi - HT.sIx l.length 0 lo)
theorem cut_rp {K : PySem.W.Frag} {H : Hp} {xs : List V} {l : List D} (h : RpAll K H xs l) (lo hi : Option Int) : RpAll K H (cutV xs lo hi) (cutD l lo hi) := by
  unfold cutV cutD
  rw [h.length]
  exact (h.drop _).take _
section
variable {Ω : Type}
def pNo (env : Env Ω) : Res Ω (Option Int) := .ok none env
def asI : D → Option Int
  | .int i => some i
  | _ => none
def pI (a : Env Ω → Res Ω D) (env : Env Ω) : Res Ω (Option Int) := (a env).bind fun d e => match asI d with
  | some i => .ok (some i) e
  | none => .bad
def dSl : D → Option Int → Option Int → Option D
  | .list l, lo, hi => some (.list (cutD l lo hi))
  | .tuple l, lo, hi => some (.tuple (cutD l lo hi))
  | .str z, lo, hi => if z.length ≤ sizeLine then some (.str (cutS z lo hi)) else none
  | _, _, _ => none
def eSl (a : Env Ω → Res Ω D) (p q : Env Ω → Res Ω (Option Int)) (env : Env Ω) : Res Ω D := (a env).bind fun d e1 => (p e1).bind fun lo e2 => (q e2).bind fun hi e3 => match dSl d lo hi with
  | some z => .ok z e3
  | none => .bad
def oSl (a : Env Ω → Res Ω D) (p q : Env Ω → Res Ω (Option Int)) (env : Env Ω) : Res Ω (SD Ω) := (a env).bind fun d e1 => (p e1).bind fun lo e2 => (q e2).bind fun hi e3 => match asL d with
  | some l => .ok (.lst (cutD l lo hi)) e3
  | none => .bad
/-- what stands in a slot, own or not -/
def slotD (i : Nat) (env : Env Ω) : Option D := match env[i]? with
  | some (some (.val d)) => some d
  | some (some (.lst l)) => some (.list l)
  | some (some (.dct es)) => some (.dict es)
  | _ => none
def slotL (i : Nat) (env : Env Ω) : Option (List D) := match env[i]? with
  | some (some (.lst l)) => some l
  | _ => none
def hasS (i : Nat) (env : Env Ω) : Bool := (slotD i env).isSome
def eIxV (i : Nat) (b : Env Ω → Res Ω D) (env : Env Ω) : Res Ω D := if hasS i env = true then (b env).bind fun y e => match (slotD i e).bind fun d => dIx d y with
  | some z => .ok z e
  | none => .bad else .bad
def eLenV (i : Nat) (env : Env Ω) : Res Ω D := match (slotD i env).bind fun d => dLen [d] with
  | some z => .ok z env
  | none => .bad
def eSlV (i : Nat) (p q : Env Ω → Res Ω (Option Int)) (env : Env Ω) : Res Ω D := if hasS i env = true then (p env).bind fun lo e2 => (q e2).bind fun hi e3 => match (slotD i e3).bind fun d => dSl d lo hi with
  | some z => .ok z e3
  | none => .bad else .bad
def eEqV (neg : Bool) (i : Nat) (b : Env Ω → Res Ω D) (env : Env Ω) : Res Ω D := if hasS i env = true then (b env).bind fun y e => match (slotD i e).bind fun d => eqB d y with
  | some k => .ok (.bool (if neg then !k else k)) e
  | none => .bad else .bad
def tTrV (i : Nat) (env : Env Ω) : Res Ω Bool := match (slotD i env).bind truD with
  | some k => .ok k env
  | none => .bad
def eIsi (c : Kd) (a : Env Ω → Res Ω D) (env : Env Ω) : Res Ω D := (a env).bind fun d e => if noRef d = true then .ok (.bool (isiB c d)) e else .bad
/-- a method that changes a slot's own list -/
def eMt (f : List D → List D → Option (D × List D)) (i : Nat) (a : Env Ω → Res Ω (List D)) (env : Env Ω) : Res Ω D := if (slotL i env).isSome = true then (a env).bind fun ds e => match (slotL i e).bind fun l => f l ds with
  | some (z, l) => .ok z (e.set i (some (.lst l)))
  | none => .bad else .bad
def bSetV (i : Nat) (v : Env Ω → Res Ω D) (b : Env Ω → Res Ω D) (f : List D → D → D → Option (List D)) (env : Env Ω) : Flow Ω := (v env).fl fun d e1 => if (slotL i e1).isSome = true then (b e1).fl fun k e2 => match (slotL i e2).bind fun l => f l k d with
  | some l => .nx (e2.set i (some (.lst l)))
  | none => .bad else .bad
def mAppend : List D → List D → Option (D × List D)
  | l, [d] => if l.length < 1000000 then some (.none, l ++ [d]) else none
  | _, _ => none
def mPop : List D → List D → Option (D × List D)
  | l, [] => (l[l.length - 1]?).map fun d => (d, l.dropLast)
  | _, _ => none
def mPopAt : List D → List D → Option (D × List D)
  | l, [.int i] => if -(2 ^ 63) ≤ i ∧ i < 2 ^ 63 then (seqIndex? i l.length).bind fun k => (l[k]?).map fun d => (d, l.eraseIdx k) else none
  | _, _ => none
def mClear : List D → List D → Option (D × List D)
  | _, [] => some (.none, [])
  | _, _ => none
def mReverse : List D → List D → Option (D × List D)
  | l, [] => some (.none, l.reverse)
  | _, _ => none
def mInsert : List D → List D → Option (D × List D)
  | l, [.int i, d] => if l.length < 1000000 ∧ 0 ≤ i ∧ i < 2 ^ 63 then some (.none, l.take i.toNat ++ [d] ++ l.drop i.toNat) else none
  | _, _ => none
def setAt : List D → D → D → Option (List D)
  | l, .int i, d => (ixN l.length i).map fun j => l.set j d
  | _, _, _ => none
def eExtend (i : Nat) (a : Env Ω → Res Ω (SD Ω)) (env : Env Ω) : Res Ω D := if (slotL i env).isSome = true then (a env).bind fun sd e => match sd, slotL i e with
  | .lst k, some l => if l.length + k.length ≤ 1000000 then .ok .none (e.set i (some (.lst (l ++ k)))) else .bad
  | _, _ => .bad else .bad
def oListM (a : Env Ω → Res Ω (List D)) (env : Env Ω) : Res Ω (SD Ω) := (a env).bind fun ds e => match oList ds with
  | some l => .ok (.lst l) e
  | none => .bad
def oAdd (a b : Env Ω → Res Ω D) (env : Env Ω) : Res Ω (SD Ω) := (a env).bind fun x e1 => (b e1).bind fun y e2 => match asL x, asL y with
  | some k, some l => if k.length + l.length ≤ 1000000 then .ok (.lst (k ++ l)) e2 else .bad
  | _, _ => .bad
def bRaise (c : Str) (env : Env Ω) : Flow Ω := .err c none env
end
section
variable {Ω : Type} [ObS Ω] (K : PySem.W.Frag) (W : Wd) (wx : WX)
class SatP (t : TO) (m : outParam (Env Ω → Res Ω (Option Int))) : Prop where
  go : ∀ F env σ H O Fp Q, Rel K W F env σ H O Fp → Post (fun p env' => ∀ H' O' Fp', Rel K W F env' σ H' O' Fp' → Ex (vw O H) (vw O' H') → Q p H') (Raised K W wx F σ H O) (m env) → t (vis Ω σ) H Q
/-- a method of a list by its values -/
class SatMt (r : V → List V → Hp → VK → Prop) (f : outParam (List D → List D → Option (D × List D))) : Prop where
  go : ∀ Hv p xs l vs ds z l' H Q, H p = some (.lst xs) → RpAll K Hv xs l → RpAll K Hv vs ds → f l ds = some (z, l') → (∀ v xs', RpAll K Hv xs' l' → Rp K Hv v z → Q v (upd H p (.lst xs'))) → r (.ref p) vs H Q
end
section
variable {Ω : Type} [ObS Ω] {K : PySem.W.Frag} {W : Wd} {wx : WX}
variable {a b : Env Ω → Res Ω D} {ta tb te : TE} {tl th : TO} {p q : Env Ω → Res Ω (Option Int)}
instance : SatP (Ω := Ω) K W wx tNoPart pNo := ⟨fun F env σ H O Fp Q r h => h H O Fp r (Ex.refl _)⟩
theorem asI_some {d : D} {l : Int} (h : asI d = some l) : d = .int l := by cases d <;> first | (cases h; rfl) | cases h
instance [A : SatE K W wx ta a] : SatP K W wx (tPart ta) (pI a) := ⟨fun F env σ H O Fp Q r h => by
  refine A.thn r ((post_bind h).mono (Ex.refl _) fun d e1 h v1 H1 O1 Fp1 r1 x1 q1 => ?_)
  cases e : asI d with
  | none => rw [e] at h; exact h.elim
  | some i =>
    rw [e] at h
    obtain rfl := asI_some e
    exact ⟨i, q1.int', h H1 O1 Fp1 r1 x1⟩⟩
theorem sl_ok {O : Ow} {H : Hp} {v : V} {d z : D} {lo hi : Option Int} {Q : VK} (hO : ∀ a, O a → H a ≠ none) (h : Rp K (vw O H) v d) (e : dSl d lo hi = some z) (hq : ∀ v H', Ex H H' → Rp K (vw O H') v z → Q v H') : vSl K v lo hi H Q := by
  unfold dSl at e
  split at e
  · cases e
    obtain ⟨a, xs, rfl, h1, h2⟩ := h.lst'
    refine .inl (w_slL (vw_l h1) fun p H2 hp x hat => ?_)
    exact hq _ H2 x (.lst (.of (vw_outV (fun z => hO p z hp) hat rfl)) ((cut_rp h2 _ _).mono (vw_ex x)))
  · cases e
    rename_i l
    obtain ⟨a, xs, rfl, h1, h2⟩ := h.tup'
    refine .inr (.inl ⟨a, xs, rfl, vw_t h1, fun hw => ?_, fun hw p hp => ?_⟩)
    · have e2 : cutD l lo hi = l := by
        unfold cutD
        rw [h2.length] at hw
        rw [hw.1, hw.2, List.drop_zero, Nat.sub_zero, List.take_length]
      rw [e2] at hq
      exact hq _ H (Ex.refl _) (.tup h1 h2)
    · have x := Ex.new (o := HO.tup (cutV xs lo hi)) hp
      exact hq _ _ x (.tup (.of (vw_new (fun z => hO p z hp) hp)) ((cut_rp h2 _ _).mono (vw_ex x)))
  · split at e
    · rename_i hz
      cases e
      cases h
      exact .inr (.inr ⟨_, rfl, hz, hq _ H (Ex.refl _) (.str _)⟩)
    · cases e
  · cases e
instance [A : SatE K W wx ta a] [P : SatP K W wx tl p] [P' : SatP K W wx th q] : SatE K W wx (tSl (vSl K) ta tl th) (eSl a p q) := ⟨fun F env σ H O Fp Q r h => by
  refine A.thn r ((post_bind h).mono (Ex.refl _) fun d e1 h v1 H1 O1 Fp1 r1 x1 q1 => ?_)
  refine P.go F e1 σ H1 O1 Fp1 _ r1 ((post_bind h).mono x1 fun lo e2 h H2 O2 Fp2 r2 x2 => ?_)
  refine P'.go F e2 σ H2 O2 Fp2 _ r2 ((post_bind h).mono (x1.trans x2) fun hi e3 h H3 O3 Fp3 r3 x3 => ?_)
  have h2 := EPost.mono (O1 := O3) (H1 := H3) h ((x1.trans x2).trans x3)
  obtain ⟨z, hz, hq⟩ := epost_opt (wx := wx) r3 h2
  exact sl_ok r3.all (q1.mono (x2.trans x3)) hz hq⟩
theorem slot_rd {F : Fr} {env : Env Ω} {σ : L2.St} {H : Hp} {O : Ow} {Fp : Nat → List Addr} {i : Nat} {d : D} (r : Rel K W F env σ H O Fp) (hi : ObS.off Ω ≤ i) (e : slotD i env = some d) : ∃ v, σ[i]? = some (some v) ∧ (Rp K (vw (subO O (Fp i)) H) v d ∨ ∃ p kvs es, v = .ref p ∧ d = .dict es ∧ H p = some (.dK kvs) ∧ es.map (·.1) = kvs.map (fun q => kD q.1) ∧ RpAll K (vw O H) (kvs.map (·.2)) (es.map (·.2))) := by
  unfold slotD at e
  split at e
  · rename_i d' h
    cases e
    obtain ⟨v, h1, _, h2⟩ := r.slot i _ h
    exact ⟨v, h1, .inl (h2.mono vw_subO)⟩
  · rename_i l h
    cases e
    obtain ⟨v, h1, h2⟩ := r.slot i _ h
    exact ⟨v, h1, .inl (frz_rp h2 (fun a ha => r.nms.un i a hi ha) rfl)⟩
  · rename_i es h
    cases e
    obtain ⟨v, h1, p, kvs, rfl, _, h2, h3, h4⟩ := r.slot i _ h
    exact ⟨_, h1, .inr ⟨p, kvs, es, rfl, rfl, h2, h3, h4⟩⟩
  · cases e
theorem ix_l {l : List D} {y z : D} (h : dIx (.list l) y = some z) : ∃ i, y = .int i ∧ atI l i = some z := by
  cases y <;> first | exact ⟨_, rfl, h⟩ | cases h
/-- an item of what a slot holds is no own thing -/
theorem slot_ix {F : Fr} {env : Env Ω} {σ : L2.St} {H : Hp} {O : Ow} {Fp : Nat → List Addr} {i : Nat} {d z y : D} {u : V} {Q : VK} (r : Rel K W F env σ H O Fp) (e : slotD i env = some d) (hz : dIx d y = some z) (hy : Rp K (vw O H) u y)
    (hq : ∀ v, Rp K (vw O H) v z → Q v H) : ∃ v, σ[i]? = some (some v) ∧ rIxW K v u H Q := by
  unfold slotD at e
  split at e
  · rename_i d' h
    cases e
    obtain ⟨v, h1, _, h2⟩ := r.slot i _ h
    refine ⟨v, h1, ?_⟩
    unfold dIx at hz
    split at hz
    · split at hz
      · rename_i hn
        obtain ⟨a, kvs, rfl, h1, h3, h4⟩ := h2.dget hn
        obtain ⟨k, hk, hl⟩ := Option.bind_eq_some_iff.mp hz
        obtain rfl := keyD_v hk hy
        rcases look_ok k h3 h4 with ⟨q, _⟩ | ⟨z', v, q1, q2, q3⟩
        · rw [q] at hl; cases hl
        · rw [q1] at hl; cases hl
          exact .inr ⟨a, v, rfl, .inl ⟨kvs, k, h1, rfl, q2.symm⟩, hq _ q3⟩
      · cases hz
    · obtain ⟨a, xs, rfl, h1, h2⟩ := h2.lst'
      cases hy
      obtain ⟨w, hv, r⟩ := atI_get h2 hz
      exact .inl (w_ixL (vw_l h1) hv (hq _ r))
    · obtain ⟨a, xs, rfl, h1, h2⟩ := h2.tup'
      cases hy
      obtain ⟨w, hv, r⟩ := atI_get h2 hz
      exact .inl (w_ixT (vw_t h1) hv (hq _ r))
    · cases h2; cases hy
      split at hz
      · rename_i z i hl
        cases q : atI z.cps.toList i with
        | none => rw [q] at hz; cases hz
        | some c => rw [q] at hz; cases hz; exact .inl (.inr (.inr ⟨z, i, c, rfl, rfl, hl, q, hq _ (.str _)⟩))
      · cases hz
    · cases hz
  · rename_i l h
    cases e
    obtain ⟨v, h1, p, xs, rfl, _, h2, h3⟩ := r.slot i _ h
    refine ⟨_, h1, ?_⟩
    obtain ⟨iy, rfl, hz⟩ := ix_l hz
    obtain rfl := hy.int'
    obtain ⟨w, hv, r⟩ := atI_get h3 hz
    exact .inl (w_ixL (.of h2) hv (hq _ r))
  · rename_i es h
    cases e
    obtain ⟨v, h1, p, kvs, rfl, _, h2, h3, h4⟩ := r.slot i _ h
    refine ⟨_, h1, ?_⟩
    have hz : (if refOf (.dict es) = none then (keyD y).bind fun k => lookE es k else none) = some z := hz
    split at hz
    · obtain ⟨k, hk, hl⟩ := Option.bind_eq_some_iff.mp hz
      obtain rfl := keyD_v hk hy
      rcases look_ok k h3 h4 with ⟨q, _⟩ | ⟨z', v, q1, q2, q3⟩
      · rw [q] at hl; cases hl
      · rw [q1] at hl; cases hl
        exact .inr ⟨p, v, rfl, .inl ⟨kvs, k, .inl h2, rfl, q2.symm⟩, hq _ q3⟩
    · cases hz
  · cases e
theorem hasS_v {F : Fr} {env : Env Ω} {σ : L2.St} {H : Hp} {O : Ow} {Fp : Nat → List Addr} {i : Nat} (r : Rel K W F env σ H O Fp) (hi : ObS.off Ω ≤ i) (h : hasS i env = true) : ∃ v, σ[i]? = some (some v) := by
  unfold hasS at h
  cases e : slotD i env with
  | none => rw [e] at h; cases h
  | some d => obtain ⟨v, hv, _⟩ := slot_rd r hi e; exact ⟨v, hv⟩
instance (priority := high) {i' i : Nat} [ix : Ix Ω i' i] [B : SatE K W wx tb b] : SatE K W wx (tOp (rIxW K) (tVar i') tb) (eIxV i b) := ⟨fun F env σ H O Fp Q r h => by
  unfold eIxV at h
  by_cases hs : hasS i env = true
  · rw [if_pos hs] at h
    obtain ⟨v, hv⟩ := hasS_v r ix.le hs
    refine ⟨v, (vis_get ix).trans hv, B.thn r ((post_bind h).mono (Ex.refl _) fun y e1 h u H1 O1 Fp1 r1 x1 q1 => ?_)⟩
    cases e : slotD i e1 with
    | none => rw [e] at h; exact h.elim
    | some d =>
      rw [e] at h
      cases hz : dIx d y with
      | none => simp only [Option.bind_some, hz] at h; exact h.elim
      | some z =>
        simp only [Option.bind_some, hz] at h
        obtain ⟨v', hv', g⟩ := slot_ix r1 e hz q1 fun w hw => h w H1 O1 Fp1 r1 x1 hw
        rw [hv] at hv'; cases hv'
        exact g
  · rw [if_neg hs] at h; exact h.elim⟩
instance (priority := high) {i' i : Nat} [ix : Ix Ω i' i] : SatE (Ω := Ω) K W wx (tCB (uLen K) (tCons (tVar i') tNil)) (eLenV i) := ⟨fun F env σ H O Fp Q r h => by
  unfold eLenV at h
  cases e : slotD i env with
  | none => rw [e] at h; exact h.elim
  | some d =>
    rw [e] at h
    cases hz : dLen [d] with
    | none => simp only [Option.bind_some, hz] at h; exact h.elim
    | some z =>
      simp only [Option.bind_some, hz] at h
      obtain ⟨v, hv, q⟩ := slot_rd r ix.le e
      refine ⟨v, (vis_get ix).trans hv, ?_⟩
      have hi : ∃ n, z = .int n := by
        unfold dLen at hz
        split at hz
        · cases hz; exact ⟨_, rfl⟩
        · cases hz; exact ⟨_, rfl⟩
        · split at hz
          · cases hz; exact ⟨_, rfl⟩
          · cases hz
        · split at hz
          · cases hz; exact ⟨_, rfl⟩
          · cases hz
        · cases hz
      obtain ⟨n, rfl⟩ := hi
      rcases q with q | ⟨p, kvs, es, rfl, rfl, q1, q2, q3⟩
      case inr =>
        have hz : (if refOf (.dict es) = none then some (PyData.int es.length) else none) = some (.int n) := hz
        split at hz
        · cases hz
          refine .inr ⟨p, kvs, rfl, .inl q1, ?_⟩
          rw [keys_len q2]; exact h _ H O Fp r (Ex.refl _) (.int _)
        · cases hz
      exact SatRL.go (K := K) (r := uLen K) (subO O (Fp i)) [v] [d] (.int n) H Q (fun a z => r.all a z.1) (.cons q .nil) hz fun w H' x hw => by
        cases hw
        exact h _ H' O Fp (r.grow x) (vw_ex x) (.int _)⟩
instance (priority := high) {i' i : Nat} [ix : Ix Ω i' i] : SatT (Ω := Ω) K W wx (tTr K (tVar i')) (tTrV i) := ⟨fun F env σ H O Fp Q r h => by
  unfold tTrV at h
  cases e : slotD i env with
  | none => rw [e] at h; exact h.elim
  | some d =>
    rw [e] at h
    cases hz : truD d with
    | none => simp only [Option.bind_some, hz] at h; exact h.elim
    | some k =>
      simp only [Option.bind_some, hz] at h
      obtain ⟨v, hv, q⟩ := slot_rd r ix.le e
      refine ⟨v, (vis_get ix).trans hv, k, ?_, h H O Fp r (Ex.refl _)⟩
      rcases q with q | ⟨p, kvs, es, rfl, rfl, q1, q2, q3⟩
      · exact tru_ok q hz
      · have hz : (match refOf (.dict es) with | none => some (!es.isEmpty) | some _ => none) = some k := hz
        split at hz
        · cases hz
          exact .inr ⟨_, _, rfl, .inl q1, by rw [isEmpty_len (keys_len q2)]⟩
        · cases hz⟩
theorem eqB_dct (es : List (D × D)) (y : D) (k : Bool) : eqB (.dict es) y ≠ some k := fun h => by
  have hz : (if SeqAt.shaped (.dict es) = true ∧ SeqAt.shaped y = true then some (PyData.eqv (.dict es) y) else none) = some k := by
    cases y <;> exact h
  rw [if_neg (fun z => by have := z.1; simp [SeqAt.shaped, PyData.canLay0] at this)] at hz
  cases hz
theorem eqV_ok {i' i : Nat} (ix : Ix Ω i' i) {neg : Bool} {r2 : R2} (hr : ∀ (O : Ow) (H : Hp) x y d e k Q, Rp K (vw O H) x d → Rp K (vw O H) y e → eqB d e = some k → Q (.bl (if neg then !k else k)) H → r2 x y H Q) (B : SatE K W wx tb b) :
    SatE K W wx (tOp r2 (tVar i') tb) (eEqV neg i b) := ⟨fun F env σ H O Fp Q r h => by
  unfold eEqV at h
  by_cases hs : hasS i env = true
  · rw [if_pos hs] at h
    obtain ⟨v, hv⟩ := hasS_v r ix.le hs
    refine ⟨v, (vis_get ix).trans hv, B.thn r ((post_bind h).mono (Ex.refl _) fun y e1 h u H1 O1 Fp1 r1 x1 q1 => ?_)⟩
    cases e : slotD i e1 with
    | none => rw [e] at h; exact h.elim
    | some d =>
      rw [e] at h
      cases hz : eqB d y with
      | none => simp only [Option.bind_some, hz] at h; exact h.elim
      | some k =>
        simp only [Option.bind_some, hz] at h
        obtain ⟨v', hv', g⟩ := slot_rd r1 ix.le e
        rw [hv] at hv'; cases hv'
        rcases g with g | ⟨p, kvs, es, rfl, rfl, _⟩
        case inr =>
          exact absurd hz (eqB_dct _ _ _)
        exact hr (subO O1 (Fp1 i)) H1 v u d y k Q g (q1.mono vw_subO) hz (h _ H1 O1 Fp1 r1 x1 (.bl _))
  · rw [if_neg hs] at h; exact h.elim⟩
instance (priority := high) {i' i : Nat} [ix : Ix Ω i' i] [B : SatE K W wx tb b] : SatE K W wx (tOp (uEq K) (tVar i') tb) (eEqV false i b) := eqV_ok ix (fun O H x y d e k Q hx hy hk q => eq_ok hx hy hk q) B
instance (priority := high) {i' i : Nat} [ix : Ix Ω i' i] [B : SatE K W wx tb b] : SatE K W wx (tOp (uNe K) (tVar i') tb) (eEqV true i b) := eqV_ok ix (fun O H x y d e k Q hx hy hk q => ne_ok hx hy hk q) B
/-! ### isinstance -/
theorem isi_sat {c : Kd} {n : String} (hc : c ≠ .non) (ht : c.ty = n) (A : SatE K W wx ta a) : SatE K W wx (tCB (uIsi K) (tCons ta (tCons (tC (.ty n)) tNil))) (eIsi c a) := ⟨fun F env σ H O Fp Q r h => by
  refine A.thn r ((post_bind h).mono (Ex.refl _) fun d e1 h v1 H1 O1 Fp1 r1 x1 q1 => ?_)
  by_cases hn : noRef d = true
  · rw [if_pos hn] at h
    exact w_isi hc ht (rp_kd q1 hn) rfl (h _ H1 O1 Fp1 r1 x1 (.bl _))
  · rw [if_neg hn] at h; exact h.elim⟩
instance [A : SatE K W wx ta a] : SatE K W wx (tCB (uIsi K) (tCons ta (tCons (tC (.ty "int")) tNil))) (eIsi .int a) := isi_sat (by intro z; cases z) rfl A
instance [A : SatE K W wx ta a] : SatE K W wx (tCB (uIsi K) (tCons ta (tCons (tC (.ty "bool")) tNil))) (eIsi .bl a) := isi_sat (by intro z; cases z) rfl A
instance [A : SatE K W wx ta a] : SatE K W wx (tCB (uIsi K) (tCons ta (tCons (tC (.ty "str")) tNil))) (eIsi .str a) := isi_sat (by intro z; cases z) rfl A
instance [A : SatE K W wx ta a] : SatE K W wx (tCB (uIsi K) (tCons ta (tCons (tC (.ty "list")) tNil))) (eIsi .lst a) := isi_sat (by intro z; cases z) rfl A
instance [A : SatE K W wx ta a] : SatE K W wx (tCB (uIsi K) (tCons ta (tCons (tC (.ty "tuple")) tNil))) (eIsi .tup a) := isi_sat (by intro z; cases z) rfl A
instance [A : SatE K W wx ta a] : SatE K W wx (tCB (uIsi K) (tCons ta (tCons (tC (.ty "dict")) tNil))) (eIsi .dct a) := isi_sat (by intro z; cases z) rfl A
/-! ### own lists -/
theorem slotL_some {i : Nat} {env : Env Ω} {l : List D} (h : slotL i env = some l) : env[i]? = some (some (.lst l)) := by
  unfold slotL at h
  split at h
  · rename_i e; cases h; exact e
  · cases h
/-- a slot's own list is another one now -/
theorem Rel.putL {F : Fr} {env : Env Ω} {σ : L2.St} {H : Hp} {O : Ow} {Fp : Nat → List Addr} (r : Rel K W F env σ H O Fp) {i : Nat} (hx : ObS.off Ω ≤ i) {l l' : List D} {p : Addr} {xs' : List V} (h : env[i]? = some (some (.lst l))) (hv : σ[i]? = some (some (.ref p))) (hF : Fp i = [p]) (ha : RpAll K (vw O H) xs' l') :
    Rel K W F (env.set i (some (.lst l'))) σ (upd H p (.lst xs')) O (fset Fp i [p]) ∧ vw O (upd H p (.lst xs')) = vw O H := by
  have hO : O p := r.own i p (by rw [hF]; exact List.mem_cons_self)
  have ev : vw O (upd H p (.lst xs')) = vw O H := vw_upd_own hO
  refine ⟨r.put (O' := O) hx h hv (fun _ => rfl) (fun a z => z) (fun a z => .inl z) ⟨p, xs', rfl, rfl, upd_same, by rw [ev]; exact ha⟩ (fun a z => .inl (by rw [hF]; exact z)) (fun a hn o ho => ?_) (fun a z => ?_), ev⟩
  · rw [upd_ne]
    · exact ho
    · intro e; exact hn (by rw [hF, e]; exact List.mem_cons_self)
  · by_cases e : a = p
    · rw [e, upd_same]; intro w; cases w
    · rw [upd_ne e]; exact r.all a z
theorem ownL {F : Fr} {env : Env Ω} {σ : L2.St} {H : Hp} {O : Ow} {Fp : Nat → List Addr} (r : Rel K W F env σ H O Fp) {i : Nat} {l : List D} (h : slotL i env = some l) : ∃ p xs, env[i]? = some (some (.lst l)) ∧ σ[i]? = some (some (.ref p)) ∧ Fp i = [p] ∧ H p = some (.lst xs) ∧ RpAll K (vw O H) xs l := by
  have h := slotL_some h
  obtain ⟨v, h1, p, xs, rfl, h2, h3, h4⟩ := r.slot i _ h
  exact ⟨p, xs, h, h1, h2, h3, h4⟩
theorem mt_go {F : Fr} {e : Env Ω} {σ : L2.St} {H H0 : Hp} {O O0 : Ow} {Fp : Nat → List Addr} {rm : V → List V → Hp → VK → Prop} {f : List D → List D → Option (D × List D)} (M : SatMt K rm f) {i : Nat} (hx : ObS.off Ω ≤ i) {vs : List V} {ds : List D} {Q : VK} (r : Rel K W F e σ H O Fp) (x : Ex (vw O0 H0) (vw O H)) (ha : RpAll K (vw O H) vs ds)
    (h : EPost K W wx F σ H0 O0 Q (match (slotL i e).bind fun l => f l ds with | some (z, l) => Res.ok z (e.set i (some (.lst l))) | none => .bad)) {v : V} (hv : σ[i]? = some (some v)) : rm v vs H Q := by
  cases el : slotL i e with
  | none => rw [el] at h; exact h.elim
  | some l =>
    rw [el] at h
    cases ef : f l ds with
    | none => simp only [Option.bind_some, ef] at h; exact h.elim
    | some zl =>
      obtain ⟨z, l'⟩ := zl
      simp only [Option.bind_some, ef] at h
      obtain ⟨p, xs, h1, h2, h3, h4, h5⟩ := ownL r el
      rw [hv] at h2; cases h2
      refine M.go (vw O H) p xs l vs ds z l' H Q h4 h5 ha ef fun w xs' h6 h7 => ?_
      obtain ⟨r', ev⟩ := r.putL hx h1 hv h3 h6
      exact h w _ O _ r' (by rw [ev]; exact x) (by rw [ev]; exact h7)
theorem slotL_v {F : Fr} {env : Env Ω} {σ : L2.St} {H : Hp} {O : Ow} {Fp : Nat → List Addr} {i : Nat} (r : Rel K W F env σ H O Fp) (h : (slotL i env).isSome = true) : ∃ p xs, σ[i]? = some (some (.ref p)) ∧ H p = some (.lst xs) := by
  cases e : slotL i env with
  | none => rw [e] at h; cases h
  | some l => obtain ⟨p, xs, _, h1, _, h2, _⟩ := ownL r e; exact ⟨p, xs, h1, h2⟩
instance {i' i : Nat} [ix : Ix Ω i' i] {rm : V → List V → Hp → VK → Prop} {f : List D → List D → Option (D × List D)} {t : TA} {m : Env Ω → Res Ω (List D)} [M : SatMt K rm f] [A : SatL K W wx t m] : SatE K W wx (tBM K "list" rm (tVar i') t) (eMt f i m) := ⟨fun F env σ H O Fp Q r h => by
  unfold eMt at h
  by_cases hs : (slotL i env).isSome = true
  · rw [if_pos hs] at h
    obtain ⟨p, xs, hv, hp⟩ := slotL_v r hs
    refine ⟨_, (vis_get ix).trans hv, ty_lst hp, A.go F env σ H O Fp _ r ((post_bind h).mono (Ex.refl _) fun ds e h vs H1 O1 Fp1 r1 x1 q1 => ?_)⟩
    exact mt_go M ix.le r1 x1 q1 h hv
  · rw [if_neg hs] at h; exact h.elim⟩
instance {i' i : Nat} [ix : Ix Ω i' i] {rm : V → List V → Hp → VK → Prop} {f : List D → List D → Option (D × List D)} [M : SatMt K rm f] : SatE (Ω := Ω) K W wx (tBM0 K "list" rm (tVar i')) (eMt f i lNil) := ⟨fun F env σ H O Fp Q r h => by
  unfold eMt at h
  by_cases hs : (slotL i env).isSome = true
  · rw [if_pos hs] at h
    obtain ⟨p, xs, hv, hp⟩ := slotL_v r hs
    exact ⟨_, (vis_get ix).trans hv, ty_lst hp, mt_go M ix.le r (Ex.refl _) .nil h hv⟩
  · rw [if_neg hs] at h; exact h.elim⟩
instance : SatMt K rAppend mAppend := ⟨fun Hv p xs l vs ds z l' H Q hp hx ha hf hq => by
  unfold mAppend at hf
  split at hf
  · split at hf
    · rename_i hl
      cases hf
      obtain ⟨v, rfl, q⟩ := rpAll1 ha
      exact ⟨p, xs, v, rfl, rfl, hp, by rw [hx.length]; exact Nat.lt_of_lt_of_le hl (by decide), hq _ _ (hx.append (.cons q .nil)) .non⟩
    · cases hf
  · cases hf⟩
theorem RpAll.dropLast {H : Hp} {xs : List V} {l : List D} (h : RpAll K H xs l) : RpAll K H xs.dropLast l.dropLast := by
  rw [List.dropLast_eq_take, List.dropLast_eq_take, h.length]
  exact h.take _
instance : SatMt K rPop mPop := ⟨fun Hv p xs l vs ds z l' H Q hp hx ha hf hq => by
  cases ds with
  | cons d ds => cases hf
  | nil =>
    have hf : (l[l.length - 1]?).map (fun d => (d, l.dropLast)) = some (z, l') := hf
    cases e : l[l.length - 1]? with
    | none => rw [e] at hf; cases hf
    | some d =>
      rw [e] at hf; cases hf
      cases ha
      obtain ⟨v, hv, q⟩ := hx.get' e
      exact ⟨p, xs, v, rfl, rfl, hp, by rw [hx.length]; exact hv, hq _ _ hx.dropLast q⟩⟩
instance : SatMt K rClear mClear := ⟨fun Hv p xs l vs ds z l' H Q hp hx ha hf hq => by
  cases ds with
  | cons d ds => cases hf
  | nil => cases hf; cases ha; exact ⟨p, xs, rfl, rfl, hp, hq _ _ .nil .non⟩⟩
instance : SatMt K rReverse mReverse := ⟨fun Hv p xs l vs ds z l' H Q hp hx ha hf hq => by
  cases ds with
  | cons d ds => cases hf
  | nil => cases hf; cases ha; exact ⟨p, xs, rfl, rfl, hp, hq _ _ hx.reverse .non⟩⟩
theorem popAt_in {l l' : List D} {ds : List D} {z : D} (h : mPopAt l ds = some (z, l')) : ∃ i k, ds = [.int i] ∧ -(2 ^ 63) ≤ i ∧ i < 2 ^ 63 ∧ seqIndex? i l.length = some k ∧ l[k]? = some z ∧ l' = l.eraseIdx k := by
  cases ds with
  | nil => cases h
  | cons d t =>
    cases t with
    | cons _ _ => cases d <;> cases h
    | nil =>
      cases d with
      | int i =>
        have h : (if -(2 ^ 63) ≤ i ∧ i < 2 ^ 63 then (seqIndex? i l.length).bind fun k => (l[k]?).map fun d => (d, l.eraseIdx k) else none) = some (z, l') := h
        split at h
        · rename_i hb
          cases e : seqIndex? i l.length with
          | none => simp only [e, Option.bind_none] at h; cases h
          | some k =>
            simp only [e, Option.bind_some] at h
            cases e2 : l[k]? with
            | none => simp only [e2, Option.map_none] at h; cases h
            | some d => simp only [e2, Option.map_some] at h; cases h; exact ⟨i, k, rfl, hb.1, hb.2, e, e2, rfl⟩
        · cases h
      | _ => cases h
instance : SatMt K rPopAt mPopAt := ⟨fun Hv p xs l vs ds z l' H Q hp hx ha hf hq => by
  obtain ⟨i, k, rfl, h1, h2, h3, h4, rfl⟩ := popAt_in hf
  obtain ⟨v, rfl, q⟩ := rpAll1 ha
  obtain rfl := q.int'
  obtain ⟨w, hw, qw⟩ := hx.get' h4
  exact ⟨p, xs, i, k, w, rfl, rfl, hp, h1, h2, by rw [hx.length]; exact h3, hw, hq _ _ (hx.eraseIdx k) qw⟩⟩
def rInsertL : V → List V → Hp → VK → Prop := fun x vs H Q => ∃ (l : Addr) (xs : List V) (i : Int) (y : V), x = .ref l ∧ vs = [.int i, y] ∧ H l = some (.lst xs) ∧ xs.length < sizeLine ∧ 0 ≤ i ∧ i < 2 ^ 63 ∧
    Q .non (upd H l (.lst (xs.take i.toNat ++ [y] ++ xs.drop i.toNat)))
theorem mt_insertL {X : Cx} : MtR X "list.insert" rInsertL := mt_insert
instance : SatMt K rInsertL mInsert := ⟨fun Hv p xs l vs ds z l' H Q hp hx ha hf hq => by
  unfold mInsert at hf
  split at hf
  · split at hf
    · rename_i hb
      cases hf
      obtain ⟨v, u, rfl, q, q'⟩ := rpAll2 ha
      obtain rfl := q.int'
      exact ⟨p, xs, _, u, rfl, rfl, hp, by rw [hx.length]; exact Nat.lt_of_lt_of_le hb.1 (by decide), hb.2.1, hb.2.2, hq _ _ (((hx.take _).append (.cons q' .nil)).append (hx.drop _)) .non⟩
    · cases hf
  · cases hf⟩
instance {i' i : Nat} [ix : Ix Ω i' i] {o : Env Ω → Res Ω (SD Ω)} [A : SatO K W wx te o] : SatE K W wx (tBM K "list" rExtend (tVar i') (tCons te tNil)) (eExtend i o) := ⟨fun F env σ H O Fp Q r h => by
  unfold eExtend at h
  by_cases hs : (slotL i env).isSome = true
  · rw [if_pos hs] at h
    obtain ⟨p, xs, hv, hp⟩ := slotL_v r hs
    refine ⟨_, (vis_get ix).trans hv, ty_lst hp, A.go F env σ H O Fp _ r ((post_bind h).mono (Ex.refl _) fun sd e h u H1 O1 Fp1 G r1 x1 q1 hG => ?_)⟩
    cases sd with
    | lst k =>
      cases el : slotL i e with
      | none => simp only [el] at h; exact h.elim
      | some l =>
        simp only [el] at h
        by_cases hl : l.length + k.length ≤ 1000000
        · rw [if_pos hl] at h
          obtain ⟨pk, ks, rfl, rfl, hk, hka⟩ := q1
          obtain ⟨p', xs', h1, h2, h3, h4, h5⟩ := ownL r1 el
          rw [hv] at h2; cases h2
          obtain ⟨r', ev⟩ := r1.putL ix.le h1 hv h3 (h5.append hka)
          refine ⟨p, pk, xs', ks, rfl, rfl, h4, hk, by rw [h5.length, hka.length]; exact Nat.le_trans hl (by decide), ?_⟩
          exact h .non _ O1 _ r' (by rw [ev]; exact x1) .non
        · rw [if_neg hl] at h; exact h.elim
    | _ => exact h.elim
  · rw [if_neg hs] at h; exact h.elim⟩
instance {i' i : Nat} [ix : Ix Ω i' i] [A : SatE K W wx te a] [B : SatE K W wx tb b] : SatS K W wx (tAsg te (gSub (tVar i') tb rSetL)) (bSetV i a b setAt) := ⟨fun F env σ H O Fp D0 r h => by
  refine A.thn r (post_imp (fl_post σ h) fun d e1 h v H1 O1 Fp1 r1 x1 q1 => ?_)
  by_cases hs : (slotL i e1).isSome = true
  · rw [if_pos hs] at h
    obtain ⟨p, xs, hv, hp⟩ := slotL_v r1 hs
    have h := FPost.mono h x1
    refine ⟨_, (vis_get ix).trans hv, B.thn r1 (post_imp (fl_post σ h) fun k e2 h u H2 O2 Fp2 r2 x2 q2 => ?_)⟩
    cases el : slotL i e2 with
    | none => rw [el] at h; exact h.elim
    | some l =>
      rw [el] at h
      cases ef : setAt l k d with
      | none => simp only [Option.bind_some, ef] at h; exact h.elim
      | some l' =>
        simp only [Option.bind_some, ef] at h
        obtain ⟨p', xs', h1, h2, h3, h4, h5⟩ := ownL r2 el
        rw [hv] at h2; cases h2
        unfold setAt at ef
        split at ef
        · rename_i iz
          obtain rfl := q2.int'
          cases ej : ixN l.length iz with
          | none => rw [ej] at ef; cases ef
          | some j =>
            rw [ej] at ef; cases ef
            obtain ⟨r', ev⟩ := r2.putL ix.le h1 hv h3 (RpAll.set (q1.mono x2) j h5)
            exact ⟨p, xs', iz, j, rfl, rfl, h4, by rw [h5.length]; exact ej, h σ _ O2 _ r' (by rw [ev]; exact x2)⟩
        · cases ef
  · rw [if_neg hs] at h; exact h.elim⟩
/-- a new list, made by a built-in or an operator -/
theorem newL {F : Fr} {e : Env Ω} {σ : L2.St} {H H0 : Hp} {O O0 : Ow} {Fp : Nat → List Addr} {xs : List V} {l : List D} {Q : VK} (r : Rel K W F e σ H O Fp) (x : Ex (vw O0 H0) (vw O H)) (ha : RpAll K (vw O H) xs l) (h : OPost K W wx F σ H0 O0 Q (.ok (.lst l) e)) {p : Addr} {H2 : Hp} (hp : H p = none) (hH2 : H2 = upd H p (.lst xs)) : Q (.ref p) H2 := by
  subst hH2
  have hO := r.notO hp
  refine h _ _ (addO O p) Fp [p] (r.newO hp) (by rw [vw_add hO hp]; exact x) ⟨p, xs, rfl, rfl, upd_same, by rw [vw_add hO hp]; exact ha⟩ fun a ha => ?_
  rw [List.mem_singleton.mp ha]
  exact ⟨addO_un hO, r.fresh hp, fun j z => r.all p (r.own j p z) hp⟩
instance {t : TA} {m : Env Ω → Res Ω (List D)} [A : SatL K W wx t m] : SatO K W wx (tCB (uList K) t) (oListM m) := ⟨fun F env σ H O Fp Q r h => by
  refine A.go F env σ H O Fp _ r ((post_bind h).mono (Ex.refl _) fun ds e h vs H1 O1 Fp1 r1 x1 q1 => ?_)
  cases eo : oList ds with
  | none => rw [eo] at h; exact h.elim
  | some l =>
    rw [eo] at h
    unfold oList at eo
    split at eo
    · cases eo
      obtain ⟨v, rfl, q⟩ := rpAll1 q1
      obtain ⟨a, xs, rfl, h1, h2⟩ := q.lst'
      exact ⟨a, xs, rfl, .inl (vw_l h1), fun p hp => newL r1 x1 h2 h hp rfl⟩
    · cases eo
      obtain ⟨v, rfl, q⟩ := rpAll1 q1
      obtain ⟨a, xs, rfl, h1, h2⟩ := q.tup'
      exact ⟨a, xs, rfl, .inr (vw_t h1), fun p hp => newL r1 x1 h2 h hp rfl⟩
    · cases eo⟩
instance {t : TA} {m : Env Ω → Res Ω (List D)} [A : SatL K W wx t m] : SatE K W wx (tCB (uList K) t) (eFrz (oListM m)) := sat_frz inferInstance
instance {ta : TA} {a : Env Ω → Res Ω (List D)} [A : SatL K W wx ta a] : SatE K W wx (tLst ta) (eFrz (oLst a)) := sat_frz inferInstance
instance : SatE (Ω := Ω) K W wx tDNewK (eFrz oNewD) := sat_frz inferInstance
instance {wi : TI} {g : TG} {tt : TT} {te : TE} {vs : List Nat} {o : Env Ω → Res Ω (SD Ω)} [I : SatO K W wx (tLc wi g tt te vs) o] : SatE K W wx (tLc wi g tt te vs) (eFrz o) := sat_frz I
instance [A : SatE K W wx ta a] [B : SatE K W wx tb b] : SatO K W wx (tOp (uAdd K) ta tb) (oAdd a b) := ⟨fun F env σ H O Fp Q r h => by
  refine A.thn r ((post_bind h).mono (Ex.refl _) fun x e1 h v1 H1 O1 Fp1 r1 x1 q1 => ?_)
  refine B.thn r1 ((post_bind h).mono x1 fun y e2 h v2 H2 O2 Fp2 r2 x2 q2 => ?_)
  cases ek : asL x with
  | none => rw [ek] at h; exact h.elim
  | some k =>
    cases el : asL y with
    | none => rw [ek, el] at h; exact h.elim
    | some l =>
      obtain rfl := asL_some ek
      obtain rfl := asL_some el
      have h : OPost K W wx F σ H O Q (if k.length + l.length ≤ 1000000 then .ok (.lst (k ++ l)) e2 else .bad) := h
      by_cases hl : k.length + l.length ≤ 1000000
      · rw [if_pos hl] at h
        obtain ⟨a, xs, rfl, h1, h2⟩ := q1.lst'
        obtain ⟨b, ys, rfl, h3, h4⟩ := q2.lst'
        exact .inr (.inl ⟨a, b, xs, ys, rfl, rfl, vw_l (ex_l x2 h1), vw_l h3, by rw [h2.length, h4.length]; exact Nat.le_trans hl (by decide), fun p hp => newL r2 (x1.trans x2) ((h2.mono x2).append h4) h hp rfl⟩)
      · rw [if_neg hl] at h; exact h.elim⟩
instance [A : SatE K W wx ta a] [P : SatP K W wx tl p] [P' : SatP K W wx th q] : SatO K W wx (tSl (vSl K) ta tl th) (oSl a p q) := ⟨fun F env σ H O Fp Q r h => by
  refine A.thn r ((post_bind h).mono (Ex.refl _) fun d e1 h v1 H1 O1 Fp1 r1 x1 q1 => ?_)
  refine P.go F e1 σ H1 O1 Fp1 _ r1 ((post_bind h).mono x1 fun lo e2 h H2 O2 Fp2 r2 x2 => ?_)
  refine P'.go F e2 σ H2 O2 Fp2 _ r2 ((post_bind h).mono (x1.trans x2) fun hi e3 h H3 O3 Fp3 r3 x3 => ?_)
  cases e : asL d with
  | none => rw [e] at h; exact h.elim
  | some l =>
    obtain rfl := asL_some e
    have h : OPost K W wx F σ H O Q (.ok (.lst (cutD l lo hi)) e3) := h
    obtain ⟨a, xs, rfl, h1, h2⟩ := (q1.mono (x2.trans x3)).lst'
    exact .inl ⟨a, xs, rfl, vw_l h1, fun p hp => newL r3 ((x1.trans x2).trans x3) (cut_rp h2 lo hi) h hp rfl⟩⟩
/-! ### raise -/
def tRaise (wx : WX) (C : Addr) : TS := fun _ σ H => wx (.ref C) none σ H
class ExcN (K : PySem.W.Frag) (C : Addr) (c : outParam Str) : Prop where
  eq : C = He.ga K c
instance {c : Str} : ExcN K (He.ga K c) c := ⟨rfl⟩
instance {C : Addr} {c : Str} [N : ExcN K C c] : SatS (Ω := Ω) K W wx (tRaise wx C) (bRaise c) := ⟨fun F env σ H O Fp D0 r h => h (.ref C) none σ H O Fp r (Ex.refl _) ⟨by rw [N.eq], rfl⟩⟩
end
section
variable {X : Cx} {B newId initId : String} {bmB : List Value} {C : Addr} {W : WX}
theorem ps_rz {x m : Str} {j : Nat} {p p2 pos pos2 : Pos} (hc : X.calm = true) (tk : Takes X W) (F : ExcBaseFacts B newId initId bmB) (q : PySem.W.excIn X.K C bmB newId = true) (gC : X.mg x = some (.ref C)) (kC : PySem.W.keepIn X.K (.ref C) = true) (r : Raises X (.ref C)) (hg : Gl X x := by rfl)
    (hdb : (x == ("__debug__" : Str)) = false := by decide) : PS X (.Raise (some (.Call (.Name x p) [.Constant (.str m) j p2] [] pos)) none pos2) (tRaise W C) := ps_raise hc tk (pmk_own F q gC kC r hg hdb)
end
end Ve

set_option Elab.async false
set_option linter.all false
set_option maxRecDepth 100000
set_option maxHeartbeats 4000000
/-! More built-ins; marks; what a law's end wants. -/
namespace Ve
open PySem PySem.Spec PyProof.Rows L2 Evl Ny
theorem _root_.L2.Room.units65 {k : Nat} {A : Around} (r : Room k A) : A.units + 65 < cLine := by have := r.un; omega
/-! ### ints in lists -/
def intsOf : List D → Option (List Int)
  | [] => some []
  | .int i :: r => (intsOf r).map fun l => i :: l
  | _ :: _ => none
def maxI : List Int → Int
  | [] => 0
  | [a] => a
  | a :: r => max a (maxI r)
def minI : List Int → Int
  | [] => 0
  | [a] => a
  | a :: r => min a (minI r)
theorem maxI_mem : ∀ {l : List Int}, l ≠ [] → maxI l ∈ l
  | [a], _ => by simp [maxI]
  | a :: b :: r, _ => by
    have := maxI_mem (l := b :: r) (by simp)
    unfold maxI
    rcases Int.le_total a (maxI (b :: r)) with h | h
    · rw [Int.max_eq_right h]; exact List.mem_cons_of_mem _ this
    · rw [Int.max_eq_left h]; exact List.mem_cons_self
theorem maxI_ge : ∀ {l : List Int} {y : Int}, y ∈ l → y ≤ maxI l
  | [a], y, h => by simp at h; subst h; exact Int.le_refl _
  | a :: b :: r, y, h => by
    unfold maxI
    rcases List.mem_cons.mp h with rfl | h
    · exact Int.le_max_left _ _
    · exact Int.le_trans (maxI_ge h) (Int.le_max_right _ _)
theorem minI_mem : ∀ {l : List Int}, l ≠ [] → minI l ∈ l
  | [a], _ => by simp [minI]
  | a :: b :: r, _ => by
    have := minI_mem (l := b :: r) (by simp)
    unfold minI
    rcases Int.le_total a (minI (b :: r)) with h | h
    · rw [Int.min_eq_left h]; exact List.mem_cons_self
    · rw [Int.min_eq_right h]; exact List.mem_cons_of_mem _ this
theorem minI_le : ∀ {l : List Int} {y : Int}, y ∈ l → minI l ≤ y
  | [a], y, h => by simp at h; subst h; exact Int.le_refl _
  | a :: b :: r, y, h => by
    unfold minI
    rcases List.mem_cons.mp h with rfl | h
    · exact Int.min_le_left _ _
    · exact Int.le_trans (Int.min_le_right _ _) (minI_le h)
def dMaxL : List D → Option D
  | [.list l] => match intsOf l with
    | some (a :: r) => some (.int (maxI (a :: r)))
    | _ => none
  | _ => none
def dMinL : List D → Option D
  | [.list l] => match intsOf l with
    | some (a :: r) => some (.int (minI (a :: r)))
    | _ => none
  | _ => none
def dMaxA (ds : List D) : Option D := match dMax ds with
  | some z => some z
  | none => dMaxL ds
def dMinA (ds : List D) : Option D := match dMin ds with
  | some z => some z
  | none => dMinL ds
def dSum : List D → Option D
  | [.list l] => (intsOf l).map fun ns => .int ns.sum
  | _ => none
def dAbs : List D → Option D
  | [.int i] => some (.int (if i < 0 then -i else i))
  | _ => none
def dDivmod : List D → Option D
  | [.int i, .int j] => if 0 < j ∧ j < 1073741824 then some (.tuple [.int (i / j), .int (i % j)]) else none
  | _ => none
def dTuple : List D → Option D
  | [.list l] => some (.tuple l)
  | [.tuple l] => some (.tuple l)
  | _ => none
def ints1 : List D → Option (List Int)
  | [.list l] => intsOf l
  | _ => none
def leI (a b : Int) : Bool := decide (a ≤ b)
def geI (a b : Int) : Bool := decide (b ≤ a)
def sortI (ns : List Int) : List Int := ns.mergeSort leI
def sortR (ns : List Int) : List Int := ns.mergeSort geI
section
variable {K : PySem.W.Frag}
theorem ints_ok {H : Hp} : ∀ {xs : List V} {l : List D} {bs : List Int}, RpAll K H xs l → intsOf l = some bs → xs = bs.map V.int
  | _, _, _, .nil, e => by cases e; rfl
  | _, _, _, .cons h t, e => by
    rename_i d ds
    cases d with
    | int b =>
      cases q : intsOf ds with
      | none => simp [intsOf, q] at e
      | some l =>
        simp [intsOf, q] at e
        subst e
        rw [h.int', ints_ok t q]; rfl
    | _ => simp [intsOf] at e
theorem rp_ints {H : Hp} : ∀ ns : List Int, RpAll K H (ns.map V.int) (ns.map PyData.int)
  | [] => .nil
  | _ :: r => .cons (.int _) (rp_ints r)
instance (priority := high) : SatRL K (uMax K) dMaxA := ⟨fun O xs ds z H Q hO hx hf hq => by
  unfold dMaxA at hf
  split at hf
  · rename_i w hw
    cases hf
    exact SatRL.go (K := K) (r := uMax K) (f := dMax) O xs ds z H Q hO hx hw hq
  · unfold dMaxL at hf
    split at hf
    · split at hf
      · rename_i a r hi
        cases hf
        obtain ⟨v, rfl, q⟩ := rpAll1 hx
        obtain ⟨p, ys, rfl, h1, h2⟩ := q.lst'
        rw [ints_ok h2 hi] at h1
        refine .inr ⟨p, a :: r, rfl, vw_l h1, Nat.succ_pos _, fun m hm hle => ?_⟩
        have e : m = maxI (a :: r) := Int.le_antisymm (maxI_ge hm) (hle _ (maxI_mem (by simp)))
        rw [e]; exact hq _ H (Ex.refl _) (.int _)
      · cases hf
    · cases hf⟩
instance (priority := high) : SatRL K (uMin K) dMinA := ⟨fun O xs ds z H Q hO hx hf hq => by
  unfold dMinA at hf
  split at hf
  · rename_i w hw
    cases hf
    exact SatRL.go (K := K) (r := uMin K) (f := dMin) O xs ds z H Q hO hx hw hq
  · unfold dMinL at hf
    split at hf
    · split at hf
      · rename_i a r hi
        cases hf
        obtain ⟨v, rfl, q⟩ := rpAll1 hx
        obtain ⟨p, ys, rfl, h1, h2⟩ := q.lst'
        rw [ints_ok h2 hi] at h1
        refine .inr ⟨p, a :: r, rfl, vw_l h1, Nat.succ_pos _, fun m hm hle => ?_⟩
        have e : m = minI (a :: r) := Int.le_antisymm (hle _ (minI_mem (by simp))) (minI_le hm)
        rw [e]; exact hq _ H (Ex.refl _) (.int _)
      · cases hf
    · cases hf⟩
def uSum (K : PySem.W.Frag) : List V → Hp → VK → Prop := rSum K
theorem cy_sum {X : Cx} (hc : X.calm = true) : CallR X (.builtin "sum") (uSum X.K) := cr_sum hc
instance : SatRL K (uSum K) dSum := ⟨fun O xs ds z H Q hO hx hf hq => by
  unfold dSum at hf
  split at hf
  · rename_i l
    cases e : intsOf l with
    | none => rw [e] at hf; cases hf
    | some ns =>
      rw [e] at hf; cases hf
      obtain ⟨v, rfl, q⟩ := rpAll1 hx
      obtain ⟨p, ys, rfl, h1, h2⟩ := q.lst'
      rw [ints_ok h2 e] at h1
      exact ⟨p, ns, rfl, vw_l h1, hq _ H (Ex.refl _) (.int _)⟩
  · cases hf⟩
def uAbs : List V → Hp → VK → Prop := fun xs H Q => ∃ i, xs = [.int i] ∧ Q (.int (if i < 0 then -i else i)) H
theorem cy_abs {X : Cx} : CallR X (.builtin "abs") uAbs := call_abs
instance : SatRL K uAbs dAbs := ⟨fun O xs ds z H Q hO hx hf hq => by
  unfold dAbs at hf
  split at hf
  · cases hf
    obtain ⟨v, rfl, q⟩ := rpAll1 hx
    obtain rfl := q.int'
    exact ⟨_, rfl, hq _ H (Ex.refl _) (.int _)⟩
  · cases hf⟩
def uDivmod : List V → Hp → VK → Prop := fun xs H Q => ∃ i j, xs = [.int i, .int j] ∧ L2.CDiv i j ∧ ∀ p, H p = none → Q (.ref p) (upd H p (.tup [.int (i / j), .int (i % j)]))
theorem cy_divmod {X : Cx} : CallR X (.builtin "divmod") uDivmod := call_divmod
instance : SatRL K uDivmod dDivmod := ⟨fun O xs ds z H Q hO hx hf hq => by
  unfold dDivmod at hf
  split at hf
  · split at hf
    · rename_i hj
      cases hf
      obtain ⟨v, u, rfl, q, q'⟩ := rpAll2 hx
      obtain rfl := q.int'
      obtain rfl := q'.int'
      exact ⟨_, _, rfl, hj, fun p hp => hq _ _ (Ex.new hp) (.tup (.of (vw_new (fun z => hO p z hp) hp)) (.cons (.int _) (.cons (.int _) .nil)))⟩
    · cases hf
  · cases hf⟩
def uTuple (K : PySem.W.Frag) : List V → Hp → VK → Prop := fun xs H Q => ∃ p ys, xs = [.ref p] ∧ ((SqL K H p ys ∧ ∀ l, H l = none → Q (.ref l) (upd H l (.tup ys))) ∨ (SqT K H p ys ∧ Q (.ref p) H))
theorem cy_tuple {X : Cx} : CallR X (.type "tuple") (uTuple X.K) := call_tuple_of
instance : SatRL K (uTuple K) dTuple := ⟨fun O xs ds z H Q hO hx hf hq => by
  unfold dTuple at hf
  split at hf
  · cases hf
    obtain ⟨v, rfl, q⟩ := rpAll1 hx
    obtain ⟨p, ys, rfl, h1, h2⟩ := q.lst'
    exact ⟨p, ys, rfl, .inl ⟨vw_l h1, fun t ht => hq _ _ (Ex.new ht) (.tup (.of (vw_new (fun z => hO t z ht) ht)) (h2.mono (vw_ex (Ex.new ht))))⟩⟩
  · cases hf
    obtain ⟨v, rfl, q⟩ := rpAll1 hx
    obtain ⟨p, ys, rfl, h1, h2⟩ := q.tup'
    exact ⟨p, ys, rfl, .inr ⟨vw_t h1, hq _ H (Ex.refl _) (.tup h1 h2)⟩⟩
  · cases hf⟩
theorem ints1_ok {O : Ow} {H : Hp} {vs : List V} {ds : List D} {ns : List Int} (h : RpAll K (vw O H) vs ds) (e : ints1 ds = some ns) : ∃ p, vs = [.ref p] ∧ SqL K H p (ns.map V.int) := by
  unfold ints1 at e
  split at e
  · obtain ⟨v, rfl, q⟩ := rpAll1 h
    obtain ⟨p, ys, rfl, h1, h2⟩ := q.lst'
    rw [ints_ok h2 e] at h1
    exact ⟨p, rfl, vw_l h1⟩
  · cases e
theorem sort_uniqI {ns ns' : List Int} (h1 : ns'.Perm ns) (h2 : ns'.Pairwise (· ≤ ·)) : ns' = sortI ns := by
  refine List.Perm.eq_of_pairwise (le := (· ≤ ·)) (fun a b _ _ h1 h2 => Int.le_antisymm h1 h2) h2 ?_ (h1.trans (List.mergeSort_perm ns leI).symm)
  have := List.pairwise_mergeSort (le := leI) (fun a b c h1 h2 => by simp [leI] at *; omega) (fun a b => by simp [leI]; omega) ns
  exact this.imp fun h => by simpa [leI] using h
theorem sort_uniqR {ns ns' : List Int} (h1 : ns'.Perm ns) (h2 : ns'.Pairwise (· ≥ ·)) : ns' = sortR ns := by
  refine List.Perm.eq_of_pairwise (le := (· ≥ ·)) (fun a b _ _ h1 h2 => Int.le_antisymm h2 h1) h2 ?_ (h1.trans (List.mergeSort_perm ns geI).symm)
  have := List.pairwise_mergeSort (le := geI) (fun a b c h1 h2 => by simp [geI] at *; omega) (fun a b => by simp [geI]; omega) ns
  exact this.imp fun h => by simpa [geI] using h
end
section
variable {Ω : Type}
def oSortI (a : Env Ω → Res Ω (List D)) (env : Env Ω) : Res Ω (SD Ω) := (a env).bind fun ds e => match ints1 ds with
  | some ns => .ok (.lst ((sortI ns).map PyData.int)) e
  | none => .bad
/-- sorted(xs, reverse=True) -/
def oSortR (a : Env Ω → Res Ω (List D)) (env : Env Ω) : Res Ω (SD Ω) := (a env).bind fun ds e => match ints1 ds with
  | some ns => .ok (.lst ((sortR ns).map PyData.int)) e
  | none => .bad
end
section
variable {Ω : Type} [ObS Ω] {K : PySem.W.Frag} {W : Wd} {wx : WX}
variable {a b : Env Ω → Res Ω D} {ta tb te : TE}
instance {t : TA} {m : Env Ω → Res Ω (List D)} [A : SatL K W wx t m] : SatO K W wx (tCB (rSortedI K) t) (oSortI m) := ⟨fun F env σ H O Fp Q r h => by
  refine A.go F env σ H O Fp _ r ((post_bind h).mono (Ex.refl _) fun ds e h vs H1 O1 Fp1 r1 x1 q1 => ?_)
  cases ei : ints1 ds with
  | none => rw [ei] at h; exact h.elim
  | some ns =>
    rw [ei] at h
    obtain ⟨p, rfl, h1⟩ := ints1_ok q1 ei
    refine ⟨p, ns, rfl, h1, fun ns' p' hp ho hn => ?_⟩
    rw [sort_uniqI hp ho]
    exact newL r1 x1 (rp_ints _) h hn rfl⟩
instance {t : TA} {m : Env Ω → Res Ω (List D)} [A : SatL K W wx t m] : SatO K W wx (tCKw (rSortedKw K true [.bl true]) t (tCons (tC (.bl true)) tNil)) (oSortR m) := ⟨fun F env σ H O Fp Q r h => by
  refine A.go F env σ H O Fp _ r ((post_bind h).mono (Ex.refl _) fun ds e h vs H1 O1 Fp1 r1 x1 q1 => ?_)
  cases ei : ints1 ds with
  | none => rw [ei] at h; exact h.elim
  | some ns =>
    rw [ei] at h
    obtain ⟨p, rfl, h1⟩ := ints1_ok q1 ei
    refine ⟨p, ns, rfl, rfl, h1, fun ns' p' hp ho hn => ?_⟩
    rw [sort_uniqR hp ho]
    exact newL r1 x1 (rp_ints _) h hn rfl⟩
instance {t : TA} {m : Env Ω → Res Ω (List D)} [A : SatL K W wx t m] : SatE K W wx (tCB (rSortedI K) t) (eFrz (oSortI m)) := sat_frz inferInstance
instance {t : TA} {m : Env Ω → Res Ω (List D)} [A : SatL K W wx t m] : SatE K W wx (tCKw (rSortedKw K true [.bl true]) t (tCons (tC (.bl true)) tNil)) (eFrz (oSortR m)) := sat_frz inferInstance
/-! ### marks -/
def tEnd (vs : List Nat) (t : TS) : TS := t
end
section
variable {Ω : Type}
def dropE : List Nat → Env Ω → Env Ω
  | [], e => e
  | v :: vs, e => dropE vs (e.set v none)
/-- behind a turn some slots are forgotten -/
def bEnd (vs : List Nat) (m : Env Ω → Flow Ω) (env : Env Ω) : Flow Ω := match m env with
  | .nx e => .nx (dropE vs e)
  | .ct e => .ct (dropE vs e)
  | f => f
end
section
variable {Ω : Type} [ObS Ω] {K : PySem.W.Frag} {W : Wd} {wx : WX}
theorem Rel.dropE {F : Fr} {σ : L2.St} {H : Hp} {O : Ow} {Fp : Nat → List Addr} : ∀ (vs : List Nat) {env : Env Ω}, Rel K W F env σ H O Fp → Rel K W F (Ve.dropE vs env) σ H O Fp
  | [], _, r => r
  | v :: vs, _, r => Rel.dropE vs (r.drop v)
instance {vs : List Nat} {t : TS} {m : Env Ω → Flow Ω} [T : SatS K W wx t m] : SatS K W wx (tEnd vs t) (bEnd vs m) := ⟨fun F env σ H O Fp D0 r h => by
  refine T.go F env σ H O Fp D0 r ?_
  unfold bEnd at h
  cases e : m env with
  | nx e1 => rw [e] at h; exact fun σ' H' O' Fp' r' x => h σ' H' O' Fp' (Rel.dropE vs r') x
  | ct e1 => rw [e] at h; exact fun σ' H' O' Fp' r' x => h σ' H' O' Fp' (Rel.dropE vs r') x
  | bk e1 => rw [e] at h; exact h
  | rt r e1 => rw [e] at h; exact h
  | err c p e1 => rw [e] at h; exact h
  | bad => rw [e] at h; exact h⟩
end
section
variable {X : Cx}
theorem ps_own {st : Stmt} {te : TE} {i : Nat} (h : PS X st (tAsg te (gName i))) : PS X st (tOwnS te i) := h
theorem ps_retO {st : Stmt} {te : TE} (h : PS X st (tRet te)) : PS X st (tRetO te) := h
theorem pe_move {e : Expr} {i : Nat} (h : PE X e (tVar i)) : PE X e (tMove i) := h
theorem ps_frz {st : Stmt} {t : TS} (i : Nat) (h : PS X st t) : PS X st (tFrz i t) := h
theorem pss_end {st : List Stmt} {t : TS} (vs : List Nat) (h : PSs X st t) : PSs X st (tEnd vs t) := h
end
/-! ### exceptions' classes -/
abbrev veBases : List Value := [.type "ValueError", .type "Exception", .type "BaseException", .type "object"]
/-- what the written part tells of an exception class of the text -/
def ExcTxt (K : PySem.W.Frag) (mg : Str → Option Value) (c : Str) (C : Addr) : Prop :=
  PySem.W.excIn K C veBases "ValueError.__new__" = true ∧ mg c = some (.ref C) ∧ PySem.W.keepIn K (.ref C) = true ∧ PySem.W.subIn K (.ref C) (.type "BaseException") = some true ∧ PySem.W.typeIn K (.ref C) = some (.type "type")
def excB (K : PySem.W.Frag) (c : Str) : Bool :=
  PySem.W.excIn K (He.ga K c) veBases "ValueError.__new__" && (PySem.W.keepIn K (.ref (He.ga K c)) && (decide (PySem.W.subIn K (.ref (He.ga K c)) (.type "BaseException") = some true) && decide (PySem.W.typeIn K (.ref (He.ga K c)) = some (.type "type"))))
theorem excB_ok {K : PySem.W.Frag} {mg : Str → Option Value} {c : Str} (h : excB K c = true) (g : mg c = some (.ref (He.ga K c))) : ExcTxt K mg c (He.ga K c) := by
  unfold excB at h
  simp only [Bool.and_eq_true, decide_eq_true_eq] at h
  exact ⟨h.1, g, h.2.1, h.2.2.1, h.2.2.2⟩
/-! ### in comprehensions -/
section
variable (K : PySem.W.Frag) {X : Cx}
theorem ky_in (hu : X.A.units + 64 < cLine) (hu2 : X.A.units + 65 < cLine) (h : X.K = K := by rfl) : OpR X (compareOp .In) (vIn K) := by subst h; exact ov_in hu hu2
theorem ky_nin (hu : X.A.units + 64 < cLine) (hu2 : X.A.units + 65 < cLine) (h : X.K = K := by rfl) : OpR X (compareOp .NotIn) (vNin K) := by subst h; exact ov_nin hu hu2
theorem ky_sl (h : X.K = K := by rfl) : SlR X (vSl K) := by subst h; exact sv_sl
theorem ky_sum (hc : X.calm = true) (h : X.K = K := by rfl) : CallR X (.builtin "sum") (uSum K) := by subst h; exact cy_sum hc
theorem ky_tuple (h : X.K = K := by rfl) : CallR X (.type "tuple") (uTuple K) := by subst h; exact cy_tuple
theorem ky_abs (h : X.K = K := by rfl) : CallR X (.builtin "abs") uAbs := cy_abs
theorem ky_divmod (h : X.K = K := by rfl) : CallR X (.builtin "divmod") uDivmod := cy_divmod
end
/-! ### the law itself -/
theorem fn_cx0 {P : Program} {w : World} {K : PySem.W.Frag} {mg : Str → Option Value} {base : Heap} {k : Nat} {f : Addr} {fd : FuncData} {ps : List Str} {sp : Sp} (F : FnOk P w K mg base (L2.CX P w) k f fd ps sp) (h : ∀ vs H Q E, sp vs H Q E → sp vs H Q E0) : FnOk P w K mg base CX0 k f fd ps sp :=
  ⟨F.len, fun A outer s H args us vs Q E hr he hb hv hs => codeAny_mono (F.run A outer s H args us vs Q E0 hr he hb hv (h _ _ _ _ hs)) fun r s' q => by
    cases r with
    | error e =>
      obtain ⟨_, _, _, _, _, _, _, _, _, _, _, _, z⟩ := (show L2.CX P w outer H s E0 e s' from q)
      exact z.elim
    | ok fl => cases fl <;> exact q⟩
theorem no_l {K : PySem.W.Frag} {H : Hp} {a : Addr} {xs : List V} (h : SqL K H a xs) : SqL K (vw noO H) a xs := by
  rcases h with (h | ⟨o, h⟩) | h
  · exact .inl (.inl (vw_outV (fun z => z) h rfl))
  · exact .inl (.inr ⟨o, vw_outV (fun z => z) h rfl⟩)
  · exact .inr h
/-- the script's promise from the plain law -/
theorem law_sp {K : PySem.W.Frag} {m : List (SD Empty) → RetM Empty} (hm : ∀ ns : List Int, ns.length ≤ 63 → m [.val (.list (ns.map PyData.int))] = .ok (.val (.bool true)) []) (vs : List V) (H : Hp) (Q : VK) (E : XK) (h : spLaw K vs H Q E) : spV [] 1 m K vs H Q E := by
  obtain ⟨a, ns, rfl, hS, hl, q⟩ := h
  have rel : Rel K (wOf []) (frOf H noO (fun _ => []) [V.ref a]) ([SD.val (.list (ns.map PyData.int))].map some : Env Empty) ([V.ref a].map some) H noO (fun _ => []) := {
    nms := ⟨fun _ _ _ _ => rfl, fun i h => (Nat.not_lt_zero _ h).elim, fun o => o.elim, fun a n h => (by cases h), fun i h => (Nat.not_lt_zero _ h).elim⟩
    len := rfl
    slot := fun i sd hi => by
      cases i with
      | zero =>
        cases hi
        exact ⟨_, rfl, rfl, .lst (no_l hS) (rp_ints ns)⟩
      | succ i => simp at hi
    own := fun i a h => nomatch h
    dis := fun i j a h => nomatch h
    mine := fun i a h => nomatch h
    sub := fun a h => h
    new := fun a h => False.elim h
    all := fun a h => False.elim h
    keep := fun a o h _ => h
    fix := fun i h => rfl
    pinned := fun i a h => by cases h
    pin := fun i a h => nomatch h
    base := fun a h => False.elim h
    pw := fun i h => rfl }
  refine ⟨noO, fun _ => [], [.val (.list (ns.map PyData.int))], rfl, rfl, rel, ?_⟩
  rw [hm ns hl]
  intro v H' O' Fp' _ _ r
  cases (show Rp K (vw O' H') v (.bool true) from r)
  exact q H'
theorem law_ok {P : Program} {w : World} {K : PySem.W.Frag} {mg : Str → Option Value} {base : Heap} {k : Nat} {f : Addr} {fd : FuncData} {m : List (SD Empty) → RetM Empty} (F : FnOk P w K mg base (L2.CX P w) k f fd ["_law_script"] (spV [] 1 m K))
    (hm : ∀ ns : List Int, ns.length ≤ 63 → m [.val (.list (ns.map PyData.int))] = .ok (.val (.bool true)) []) : FnOk P w K mg base CX0 k f fd ["_law_script"] (spLaw K) :=
  fn_cx0 (F.imp (law_sp hm)) fun vs H Q E h => h
end Ve

set_option Elab.async false
set_option linter.all false
set_option maxRecDepth 100000
set_option maxHeartbeats 4000000
/-! Calls with keywords and defaults. -/
namespace Ve
open PySem PySem.Spec PyProof.Rows L2 Evl Ny
/-- where a parameter's value comes from -/
inductive Src where
  | pos (i : Nat) | kw (i : Nat) | dfl (v : V) (d : D)
def Src.pick {α : Type} (dv : V → D → α) (as bs : List α) : Src → Option α
  | .pos i => as[i]?
  | .kw i => bs[i]?
  | .dfl v d => some (dv v d)
def layV (lay : List Src) (vs zs : List V) : List V := lay.filterMap (Src.pick (fun v _ => v) vs zs)
def layAD (lay : List Src) (as bs : List AD) : List AD := lay.filterMap (Src.pick (fun _ d => .val d) as bs)
class LayOk (lay : List Src) : Prop where
  ok : ∀ v d, Src.dfl v d ∈ lay → ∀ K H, Rp K H v d
instance : LayOk [] := ⟨fun _ _ h => by cases h⟩
instance {i : Nat} {l : List Src} [h : LayOk l] : LayOk (.pos i :: l) := ⟨fun v d q => by
  rcases List.mem_cons.mp q with e | q
  · cases e
  · exact h.ok v d q⟩
instance {i : Nat} {l : List Src} [h : LayOk l] : LayOk (.kw i :: l) := ⟨fun v d q => by
  rcases List.mem_cons.mp q with e | q
  · cases e
  · exact h.ok v d q⟩
instance {l : List Src} [h : LayOk l] : LayOk (.dfl .non .none :: l) := ⟨fun v d q => by
  rcases List.mem_cons.mp q with e | q
  · cases e; intro K H; exact .non
  · exact h.ok v d q⟩
instance {i : Int} {l : List Src} [h : LayOk l] : LayOk (.dfl (.int i) (.int i) :: l) := ⟨fun v d q => by
  rcases List.mem_cons.mp q with e | q
  · cases e; intro K H; exact .int i
  · exact h.ok v d q⟩
instance {i : Bool} {l : List Src} [h : LayOk l] : LayOk (.dfl (.bl i) (.bool i) :: l) := ⟨fun v d q => by
  rcases List.mem_cons.mp q with e | q
  · cases e; intro K H; exact .bl i
  · exact h.ok v d q⟩
section
variable {Ω : Type} [ObS Ω] {K : PySem.W.Frag} {W : Wd} {wx : WX}
variable {F : Fr} {env : Env Ω} {σ : L2.St} {H H' : Hp} {O O' : Ow} {Fp Fp' : Nat → List Addr} {l : List Bool} {n : Nat}
theorem ARs.mono {Hv Hv' : Hp} (x : Ex Hv Hv') : ∀ {vs : List V} {as : List AD}, ARs K σ Hv vs as → ARs K σ Hv' vs as
  | _, _, .nil => .nil
  | _, _, .cons (a := .val d) h t => .cons (Rp.mono x h) (ARs.mono x t)
  | _, _, .cons (a := .slot i) h t => .cons h (ARs.mono x t)
theorem ars_lay {Hv : Hp} {vs zs : List V} {as bs : List AD} (h1 : ARs K σ Hv vs as) (h2 : ARs K σ Hv zs bs) : ∀ {lay : List Src}, (∀ v d, Src.dfl v d ∈ lay → ∀ K H, Rp K H v d) → ARs K σ Hv (layV lay vs zs) (layAD lay as bs)
  | [], _ => .nil
  | s :: lay, h => by
    have ih := ars_lay h1 h2 (lay := lay) fun v d q => h v d (List.mem_cons_of_mem _ q)
    have pick : ∀ {vs : List V} {as : List AD} (i : Nat), ARs K σ Hv vs as → (∃ v a, vs[i]? = some v ∧ as[i]? = some a ∧ AR K σ Hv v a) ∨ (vs[i]? = none ∧ as[i]? = none) := fun {vs as} i q => by
      cases e : as[i]? with
      | some a =>
        obtain ⟨v, e2, r⟩ := q.get e
        exact .inl ⟨v, a, e2, rfl, r⟩
      | none =>
        refine .inr ⟨?_, rfl⟩
        rw [List.getElem?_eq_none_iff] at e ⊢
        rw [q.length]; exact e
    cases s with
    | pos i =>
      rcases pick i h1 with ⟨v, a, e1, e2, r⟩ | ⟨e1, e2⟩
      · show ARs K σ Hv (List.filterMap _ _) (List.filterMap _ _)
        rw [List.filterMap_cons_some (b := v) (by exact e1), List.filterMap_cons_some (b := a) (by exact e2)]
        exact .cons r ih
      · show ARs K σ Hv (List.filterMap _ _) (List.filterMap _ _)
        rw [List.filterMap_cons_none (by exact e1), List.filterMap_cons_none (by exact e2)]
        exact ih
    | kw i =>
      rcases pick i h2 with ⟨v, a, e1, e2, r⟩ | ⟨e1, e2⟩
      · show ARs K σ Hv (List.filterMap _ _) (List.filterMap _ _)
        rw [List.filterMap_cons_some (b := v) (by exact e1), List.filterMap_cons_some (b := a) (by exact e2)]
        exact .cons r ih
      · show ARs K σ Hv (List.filterMap _ _) (List.filterMap _ _)
        rw [List.filterMap_cons_none (by exact e1), List.filterMap_cons_none (by exact e2)]
        exact ih
    | dfl v d =>
      show ARs K σ Hv (v :: layV lay vs zs) (AD.val d :: layAD lay as bs)
      exact .cons (h v d List.mem_cons_self K Hv) ih
def goCall (l : List Bool) (n : Nat) (m : List (SD Ω) → RetM Ω) (ads : List AD) (e1 : Env Ω) : Res Ω (RV Ω) := match resAs e1 (hidL Ω ++ ads) with
  | none => .bad
  | some args => if args.length = n ∧ okA e1 l (hidL Ω ++ ads) [] = true ∧ hidB Ω l (hidL Ω ++ ads) = true then (match m args with
    | .ok r outs => .ok r (wb l (hidL Ω ++ ads) (padE n outs) e1)
    | .err c p outs => .err c p (wb l (hidL Ω ++ ads) (padE n outs) e1)
    | .bad => .bad) else .bad
theorem go_sat {m : List (SD Ω) → RetM Ω} {ads : List AD} {vs : List V} {Q : VK} (r1 : Rel K W F env σ H O Fp) (hA : ARs K σ (vw O H) vs ads) (h : CPost K W wx F σ H O Q (goCall l n m ads env)) : spV l n m K vs H Q (WE wx (vis Ω σ)) := by
  have hA := hid_ars r1 r1.nms.hw hA
  unfold goCall at h
  split at h
  · exact h.elim
  · rename_i args hr
    split at h
    · rename_i hc
      obtain ⟨hn, hk, hh⟩ := hc
      refine ⟨O, fpIn l (hidL Ω ++ ads) Fp, args, by rw [hA.length, ← resAs_len hr, hn], hn, rel_in r1 hA hr hk hh dums_at, ?_⟩
      cases e : m args with
      | bad => rw [e] at h; exact h.elim
      | ok rv outs =>
        rw [e] at h
        intro v H' O' Fp' c x2 q
        have rb := rel_back r1 hA hr hk hh hn c x2
        refine h v H' O' _ rb x2 ?_
        cases rv with
        | val d => exact q
        | own sd =>
          obtain ⟨G, q1, q2⟩ := q
          refine ⟨G, q1, fun b hb => ⟨(q2 b hb).1, r1.fresh (q2 b hb).2.1, fun j z => ?_⟩⟩
          unfold fpBack at z
          split at z
          · rename_i k _; exact (q2 b hb).2.2 k z
          · exact r1.all b (r1.own j b z) (q2 b hb).2.1
      | err cl p outs =>
        rw [e] at h
        intro cls dx H' O' Fp' c x2 q
        exact h cls dx H' O' _ (rel_back r1 hA hr hk hh hn c x2) x2 q
    · exact h.elim
def eCallKO (lay : List Src) (n1 n2 : Nat) (l : List Bool) (n : Nat) (m : List (SD Ω) → RetM Ω) (a b : Env Ω → Res Ω (List AD)) (env : Env Ω) : Res Ω (RV Ω) := (a env).bind fun as e1 => (b e1).bind fun bs e2 =>
  if as.length = n1 ∧ bs.length = n2 then goCall l n m (layAD lay as bs) e2 else .bad
def eCallK (lay : List Src) (n1 n2 : Nat) (l : List Bool) (n : Nat) (m : List (SD Ω) → RetM Ω) (a b : Env Ω → Res Ω (List AD)) (env : Env Ω) : Res Ω D := (eCallKO lay n1 n2 l n m a b env).bind fun r e => match rvD r with
  | some d => .ok d e
  | none => .bad
def oCallK (lay : List Src) (n1 n2 : Nat) (l : List Bool) (n : Nat) (m : List (SD Ω) → RetM Ω) (a b : Env Ω → Res Ω (List AD)) (env : Env Ω) : Res Ω (SD Ω) := (eCallKO lay n1 n2 l n m a b env).bind fun r e => match rvO r with
  | some d => .ok d e
  | none => .bad
def tCallKS (lay : List Src) (n1 n2 : Nat) (sp : Sp) (E : L2.St → XK) (t tk : TA) : TE := fun σ H Q => t σ H fun vs H1 => tk σ H1 fun zs H2 => vs.length = n1 ∧ zs.length = n2 ∧ sp (layV lay vs zs) H2 Q (E σ)
theorem CPost.mono {Q : VK} {r : Res Ω (RV Ω)} {H1 : Hp} {O1 : Ow} (h : CPost K W wx F σ H O Q r) (e : Ex (vw O H) (vw O1 H1)) : CPost K W wx F σ H1 O1 Q r := by
  cases r with
  | ok a e2 => exact fun v H' O' Fp' r x y => h v H' O' Fp' r (e.trans x) y
  | err c p e2 => exact Raised.mono h e
  | bad => exact h
theorem callK_sat {lay : List Src} {n1 n2 : Nat} {ta tb : TA} {m : List (SD Ω) → RetM Ω} {a b : Env Ω → Res Ω (List AD)} (L : LayOk lay) (A : SatA K W wx ta a) (B : SatA K W wx tb b) {Q : VK} (r : Rel K W F env σ H O Fp) (h : CPost K W wx F σ H O Q (eCallKO lay n1 n2 l n m a b env)) :
    tCallKS lay n1 n2 (spV l n m K) (WE wx) ta tb (vis Ω σ) H Q := by
  refine A.go F env σ H O Fp _ r ((post_bind h).mono (Ex.refl _) fun as e1 h vs H1 O1 Fp1 r1 x1 hA => ?_)
  refine B.go F e1 σ H1 O1 Fp1 _ r1 ((post_bind h).mono x1 fun bs e2 h zs H2 O2 Fp2 r2 x2 hB => ?_)
  by_cases q : as.length = n1 ∧ bs.length = n2
  · rw [if_pos q] at h
    refine ⟨by rw [hA.length, q.1], by rw [hB.length, q.2], ?_⟩
    exact go_sat r2 (ars_lay (hA.mono x2) hB L.ok) (CPost.mono h (x1.trans x2))
  · rw [if_neg q] at h; exact h.elim
instance {lay : List Src} {n1 n2 : Nat} {ta tb : TA} {m : List (SD Ω) → RetM Ω} {a b : Env Ω → Res Ω (List AD)} [L : LayOk lay] [A : SatA K W wx ta a] [B : SatA K W wx tb b] : SatE K W wx (tCallKS lay n1 n2 (spV l n m K) (WE wx) ta tb) (eCallK lay n1 n2 l n m a b) := ⟨fun F env σ H O Fp Q r h => by
  refine callK_sat L A B r ((post_bind h).mono (Ex.refl _) fun rv e1 h v H1 O1 Fp1 r1 x1 q => ?_)
  cases rv with
  | val d => exact h v H1 O1 Fp1 r1 x1 q
  | own sd =>
    obtain ⟨G, q1, q2⟩ := q
    cases e : frzD sd with
    | none => simp only [rvD, e] at h; exact h.elim
    | some d =>
      simp only [rvD, e] at h
      exact h v H1 (subO O1 G) Fp1 (r1.unO fun a ha => (q2 a ha).2) (x1.trans vw_subO) (frz_rp q1 (fun a ha => (q2 a ha).1.2) e)⟩
instance {lay : List Src} {n1 n2 : Nat} {ta tb : TA} {m : List (SD Ω) → RetM Ω} {a b : Env Ω → Res Ω (List AD)} [L : LayOk lay] [A : SatA K W wx ta a] [B : SatA K W wx tb b] : SatO K W wx (tCallKS lay n1 n2 (spV l n m K) (WE wx) ta tb) (oCallK lay n1 n2 l n m a b) := ⟨fun F env σ H O Fp Q r h => by
  refine callK_sat L A B r ((post_bind h).mono (Ex.refl _) fun rv e1 h v H1 O1 Fp1 r1 x1 q => ?_)
  cases rv with
  | val d => exact h.elim
  | own sd =>
    obtain ⟨G, q1, q2⟩ := q
    exact h v H1 O1 Fp1 G r1 x1 q1 q2⟩
end
/-! ### the derivations -/
/-- a def, called by a layout -/
structure CallK (P : Program) (w : World) (K : PySem.W.Frag) (mg : Str → Option Value) (base : Heap) (CX : CXT) (k : Nat) (x : Str) (ps : List Str) (n : Nat) (ks : List Str) (lay : List Src) (sp : Sp) : Prop where
  ex : ∃ f fd g, mg x = some (.ref f) ∧ PySem.W.keepIn K (.ref f) = true ∧ KBn K fd ps n ks g (layV lay) ∧ FnOk P w K mg base CX k f fd ps sp
section
variable {X : Cx} {k n : Nat} {x : Str} {ps ks : List Str} {lay : List Src} {sp : Sp} {W : L2.WX} {e : Expr} {es : List Expr} {kws : List Keyword} {t tk : TA} {p pos : Pos} {g : List Value → List Value → List Value} {gV : List V → List V → List V}
theorem run_fnNS {pins : List (Addr × Obj)} {σ : L2.St} {H : Hp} {s : Shared} {Q : VK} {us ws : List Value} {vs zs : List V} {CX : CXT} {f : Addr} {fd : FuncData} {E : XK} (F : FnOk X.prog X.w X.K X.mg X.base CX k f fd ps sp) (hr : Room k X.A) (hb : KBn X.K fd ps n ks g gV) (hx : PassesAt CX X σ E)
    (I : Inv X pins σ H s) (r : Vals vs us) (rz : Vals zs ws) (l1 : vs.length = n) (l2 : zs.length = ks.length) (h : sp (gV vs zs) H Q E) : wpAny (model X.prog X.w) X.A (call (.ref f) us (ks.zip ws)) (EP X pins σ Q) X.xe s := by
  have r2 := hb.rel r rz
  refine wpAny_call (codeAny_mono (F.run X.A X.stack s H ⟨us, ks.zip ws⟩ (g us ws) (gV vs zs) Q E hr I.env0 (hb.to s us ws I.kIn (r.length.symm.trans l1) (rz.length.symm.trans l2)) r2 h) fun r s' hq => ?_)
  cases r with
  | error e => exact hx pins H s e s' I hq
  | ok fl =>
    cases fl with
    | ret u => exact I.after hq
    | next => exact False.elim hq
    | brk => exact False.elim hq
    | cont => exact False.elim hq
theorem pe_cK (C : CallK X.prog X.w X.K X.mg X.base (L2.CX X.prog X.w) k x ps n ks lay sp) (hr : Room k X.A) (tk' : Takes X W) (ha : PA X (e :: es) t) (hkw : PK X kws tk) (hg : Gl X x := by rfl)
    (hall : (backToKw pos (keywordEach kws X.env)).all (·.1.isSome) = true := by rfl) (hks : (backToKw pos (keywordEach kws X.env)).filterMap (·.1) = ks := by rfl)
    (hdb : (x == ("__debug__" : Str)) = false := by decide) (he : starEach (e :: es) X.env = (false, eval e X.env) :: starEach es X.env := by rfl)
    (hpl : ((backTo pos (starEach (e :: es) X.env)).any (·.1) || (backToKw pos (keywordEach kws X.env)).any (·.1.isNone)) = false := by rfl) :
    PE X (.Call (.Name x p) (e :: es) kws pos) (tCallKS lay n ks.length sp (WE W) t tk) := by
  obtain ⟨f, fd, g, hm, hk, hb, F⟩ := C.ex
  refine ⟨fun pins s σ H Q I h => ?_⟩
  refine wpAny_Call_Name_kw (ld_glob I hg hm ?_ hdb)
  refine PySem.W.callWith_KW (h₀ := X.base) I.ok.mod.kin hk hall (thn (ha.run pos pins s σ H _ I h) fun us s1 ⟨vs, H1, I1, r, q⟩ => ?_) hpl he
  refine thn (hkw.run pos pins s1 σ H1 _ I1 q) fun ws s2 ⟨zs, H2, I2, rz, l1, l2, q2⟩ => ⟨I2.kIn, ?_⟩
  rw [hks]
  exact run_fnNS F hr hb (passAt tk' σ) I2 r rz l1 l2 q2
/-- the same where no keyword is written: the defaults stand in -/
theorem pe_cD (C : CallK X.prog X.w X.K X.mg X.base (L2.CX X.prog X.w) k x ps n [] lay sp) (hr : Room k X.A) (tk' : Takes X W) (ha : PA X (e :: es) t) (hg : Gl X x := by rfl)
    (hdb : (x == ("__debug__" : Str)) = false := by decide) (he : starEach (e :: es) X.env = (false, eval e X.env) :: starEach es X.env := by rfl)
    (hpl : (backTo pos (starEach es X.env)).any (·.1) = false := by rfl) :
    PE X (.Call (.Name x p) (e :: es) [] pos) (tCallKS lay n 0 sp (WE W) t tNil) := by
  obtain ⟨f, fd, g, hm, hk, hb, F⟩ := C.ex
  refine ⟨fun pins s σ H Q I h => ?_⟩
  refine wpAny_Call_Name_kw (ld_glob I hg hm ?_ hdb)
  refine PySem.W.callWith_K (h₀ := X.base) I.ok.mod.kin hk (thn (ha.run pos pins s σ H _ I h) fun us s1 ⟨vs, H1, I1, r, q⟩ => ⟨I1.kIn, ?_⟩) he hpl
  exact run_fnNS (ws := []) F hr hb (passAt tk' σ) I1 r .nil q.1 rfl q.2.2
end
/-! ### the layouts' bindings -/
theorem vals_pick {vs zs : List V} {us ws : List Value} (h1 : Vals vs us) (h2 : Vals zs ws) (i : Nat) : (vs[i]? = none ∧ us[i]? = none) ∨ ∃ v u, vs[i]? = some v ∧ us[i]? = some u ∧ RelV v u := by
  induction h1 generalizing i with
  | nil => exact .inl ⟨by simp, by simp⟩
  | cons r t ih =>
    cases i with
    | zero => exact .inr ⟨_, _, rfl, rfl, r⟩
    | succ i => simpa using ih i
/-- a layout over three lists: what is written, what lacks, the keywords' -/
def pkG {α : Type} (us mv ws : List α) : Nat × Nat → Option α
  | (0, i) => us[i]?
  | (1, i) => ws[i]?
  | (_, i) => mv[i]?
def layG {α : Type} (lay : List (Nat × Nat)) (us mv ws : List α) : List α := lay.filterMap (pkG us mv ws)
theorem vals_pkG {vs mz zs : List V} {us mv ws : List Value} (h1 : Vals vs us) (h2 : Vals mz mv) (h3 : Vals zs ws) (q : Nat × Nat) : (pkG vs mz zs q = none ∧ pkG us mv ws q = none) ∨ ∃ v u, pkG vs mz zs q = some v ∧ pkG us mv ws q = some u ∧ RelV v u := by
  rcases q with ⟨a, i⟩
  rcases a with _ | _ | a
  · exact vals_pick h1 h1 i
  · exact vals_pick h3 h3 i
  · exact vals_pick h2 h2 i
theorem vals_layG {vs mz zs : List V} {us mv ws : List Value} (h1 : Vals vs us) (h2 : Vals mz mv) (h3 : Vals zs ws) : ∀ (lay : List (Nat × Nat)), Vals (layG lay vs mz zs) (layG lay us mv ws)
  | [] => .nil
  | q :: lay => by
    have ih := vals_layG h1 h2 h3 lay
    rcases vals_pkG h1 h2 h3 q with ⟨e1, e2⟩ | ⟨v, u, e1, e2, r⟩
    · unfold layG; rw [List.filterMap_cons_none e1, List.filterMap_cons_none e2]; exact ih
    · unfold layG; rw [List.filterMap_cons_some e1, List.filterMap_cons_some e2]; exact .cons r ih
/-! ### a slice of a list is given anew -/
def rSetSlc : V → Option Int → Option Int → V → Hp → (Hp → Prop) → Prop := fun o l u v H Q => ∃ (p q : Addr) (xs ys : List V) (a c : Int), o = .ref p ∧ v = .ref q ∧ p ≠ q ∧ H p = some (.lst xs) ∧ H q = some (.lst ys) ∧ l = some a ∧ u = some c ∧ 0 ≤ a ∧ a ≤ c ∧ c ≤ xs.length ∧ xs.length + ys.length ≤ sizeLine ∧
  Q (upd H p (.lst (xs.take a.toNat ++ ys ++ xs.drop c.toNat)))
def gSlcV (to : TE) (tl th : TO) : TG := fun v σ H Q => to σ H fun o H1 => tl σ H1 fun l H2 => th σ H2 fun u H3 => rSetSlc o l u v H3 fun H4 => Q σ H4
section
variable {X : Cx} {o : Expr} {lo hi : Option Expr} {to : TE} {tl th : TO} {p2 pos : Pos}
theorem pg_slcV (ho : PE X o to) (hl : PO X lo tl) (hu : PO X hi th)
    (ha : ∀ v, assign (.Subscript o (.Slice lo hi none p2) pos) X.env v = (do
      let ov ← holding [v] (eval o X.env)
      let iv ← holding [v, ov] (eval (.Slice lo hi none p2) X.env)
      standAt pos
      holding [v, ov, iv] (setItem ov iv v)
      release [iv, v, ov] []) := by intro _; rfl) : PG X (.Subscript o (.Slice lo hi none p2) pos) (gSlcV to tl th) := by
  refine ⟨fun pins s σ H v u Q I r h => ?_⟩
  rw [ha]
  refine wpAny_bind (wpAny_holding (thn (ho.run pins s σ H _ I h) fun ov s1 ⟨x, H1, I1, r1, q1⟩ => ?_))
  refine wpAny_bind (wpAny_holding ?_)
  refine wpAny_Slice (thn (hl.run pins s1 σ H1 _ I1 q1) fun vl s2 ⟨l, H2, I2, pl, q2⟩ => thn (hu.run pins s2 σ H2 _ I2 q2) fun vu s3 ⟨w, H3, I3, pu, q3⟩ => ?_)
  rw [evalPart_none]
  refine wpAny_pure ?_
  have I4 : Inv X pins σ H3 { s3 with heap := s3.heap.push { cls := .type "slice", data := .fields #[vl, vu, .none] } } := I3.kept (t' := s3.toks) fun b ob q => Heap.get?_push_of_some _ q
  refine wpAny_bind (wpAny_standAt (wpAny_bind (wpAny_holding ?_)))
  obtain ⟨p, q, xs, ys, a, c, rfl, rfl, hne, hp, hq, rfl, rfl, h0, hac, hc, hz, hQ⟩ := q3
  cases r1
  cases r
  cases pl with
  | int _ ta =>
    cases pu with
    | int _ tc =>
      exact set_slice I4 hp hq hne (Heap.IsSliceOf.new ..) ⟨ta, rfl⟩ ⟨tc, rfl⟩ h0 hac hc hz fun s' I' => wpAny_release ⟨σ, _, I', hQ⟩
end
section
variable {Ω : Type} [ObS Ω] {K : PySem.W.Frag} {W : Wd} {wx : WX}
def bSlc (i : Nat) (a : Env Ω → Res Ω (SD Ω)) (p q : Env Ω → Res Ω (Option Int)) (env : Env Ω) : Flow Ω := (a env).fl fun sd e1 => match sd with
  | .lst k => if (slotL i e1).isSome = true then (p e1).fl fun lo e2 => (q e2).fl fun hi e3 => match slotL i e3, lo, hi with
    | some l, some x, some y => if 0 ≤ x ∧ x ≤ y ∧ y ≤ l.length ∧ l.length + k.length ≤ 1000000 then .nx (e3.set i (some (.lst (l.take x.toNat ++ k ++ l.drop y.toNat)))) else .bad
    | _, _, _ => .bad else .bad
  | _ => .bad
instance {i' i : Nat} [ix : Ix Ω i' i] {te : TE} {tl th : TO} {a : Env Ω → Res Ω (SD Ω)} {p q : Env Ω → Res Ω (Option Int)} [A : SatO K W wx te a] [P : SatP K W wx tl p] [Q : SatP K W wx th q] : SatS K W wx (tAsg te (gSlcV (tVar i') tl th)) (bSlc i a p q) := ⟨fun F env σ H O Fp D0 r h => by
  refine A.go F env σ H O Fp _ r (post_imp (fl_post σ h) fun sd e1 h v H1 O1 Fp1 G r1 x1 q1 hG => ?_)
  cases sd with
  | lst k =>
    have h : FPost K W wx F H O D0 (if (slotL i e1).isSome = true then _ else _) := h
    by_cases hs : (slotL i e1).isSome = true
    · rw [if_pos hs] at h
      obtain ⟨w, ys, rfl, rfl, hw, hk⟩ := q1
      obtain ⟨pa, xs, hv, hp⟩ := slotL_v r1 hs
      have r1' := r1.unO (G := [w]) fun a ha => (hG a ha).2
      have hw' : vw (subO O1 [w]) H1 w = some (.lst ys) := vw_outV (subO_out (hG w List.mem_cons_self).1.2 List.mem_cons_self) hw rfl
      have hk' : RpAll K (vw (subO O1 [w]) H1) ys k := hk.mono vw_subO
      have x1' := x1.trans (vw_subO (O := O1) (H := H1) (G := [w]))
      have h := FPost.mono h x1'
      refine ⟨_, (vis_get ix).trans hv, P.go F e1 σ H1 (subO O1 [w]) Fp1 _ r1' (post_imp (fl_post σ h) fun lo e2 h H2 O2 Fp2 r2 x2 => ?_)⟩
      have h := FPost.mono h x2
      refine Q.go F e2 σ H2 O2 Fp2 _ r2 (post_imp (fl_post σ h) fun hi e3 h H3 O3 Fp3 r3 x3 => ?_)
      cases el : slotL i e3 with
      | none => rw [el] at h; exact h.elim
      | some l =>
        rw [el] at h
        cases lo with
        | none => exact h.elim
        | some x =>
          cases hi with
          | none => exact h.elim
          | some y =>
            have h : FPost K W wx F H2 O2 D0 (if 0 ≤ x ∧ x ≤ y ∧ y ≤ l.length ∧ l.length + k.length ≤ 1000000 then _ else _) := h
            by_cases hc : 0 ≤ x ∧ x ≤ y ∧ y ≤ l.length ∧ l.length + k.length ≤ 1000000
            · rw [if_pos hc] at h
              obtain ⟨p', xs', h1, h2, h3, h4, h5⟩ := ownL r3 el
              rw [hv] at h2; cases h2
              have x13 := x2.trans x3
              have hw3 := x13 _ _ hw'
              have hk3 := hk'.mono x13
              obtain ⟨hwO, hw4⟩ := vw_some hw3 rfl
              have hne : pa ≠ w := fun z => by subst z; exact hwO (r3.own i _ (by rw [h3]; exact List.mem_cons_self))
              obtain ⟨r', ev⟩ := r3.putL ix.le h1 hv h3 ((h5.take x.toNat).append hk3 |>.append (h5.drop y.toNat))
              refine ⟨pa, w, xs', ys, x, y, rfl, rfl, hne, h4, hw4, rfl, rfl, hc.1, hc.2.1, by rw [h5.length]; exact hc.2.2.1, by rw [h5.length, hk3.length]; exact Nat.le_trans hc.2.2.2 (by decide), ?_⟩
              exact h σ _ O3 _ r' (by rw [ev]; exact x3)
            · rw [if_neg hc] at h; exact h.elim
    · rw [if_neg hs] at h; exact h.elim
  | _ => exact h.elim⟩
end
end Ve

set_option Elab.async false
set_option linter.all false
set_option maxRecDepth 100000
set_option maxHeartbeats 4000000
/-! A thing made for a call alone, handed to a parameter that is changed in place. -/
namespace Ve
open PySem PySem.Spec PyProof.Rows L2 Evl Ny
section
variable {Ω : Type} [ObS Ω]
def oneA : SD Ω → Bool
  | .lst _ => true
  | .dct _ => true
  | _ => false
def aO (o : Env Ω → Res Ω (SD Ω)) (r : Env Ω → Res Ω (List AD)) (env : Env Ω) : Res Ω (List AD × SD Ω) := (o env).bind fun sd e1 => if oneA sd = true then (r e1).bind fun bs e2 => .ok (.slot e2.length :: bs, sd) e2 else .bad
def aET (a : Env Ω → Res Ω D) (r : Env Ω → Res Ω (List AD × SD Ω)) (env : Env Ω) : Res Ω (List AD × SD Ω) := (a env).bind fun d e1 => (r e1).bind fun q e2 => .ok (.val d :: q.1, q.2) e2
def aVarT (i : Nat) (r : Env Ω → Res Ω (List AD × SD Ω)) (env : Env Ω) : Res Ω (List AD × SD Ω) := match env[i]? with
  | some (some _) => (r env).bind fun q e => .ok (.slot i :: q.1, q.2) e
  | _ => .bad
def eCallTO (l : List Bool) (n : Nat) (m : List (SD Ω) → RetM Ω) (a : Env Ω → Res Ω (List AD × SD Ω)) (env : Env Ω) : Res Ω (RV Ω) := (a env).bind fun q e1 => match goCall l n m q.1 (e1 ++ [some q.2]) with
  | .ok r e2 => .ok r (e2.take e1.length)
  | .err c p e2 => .err c p (e2.take e1.length)
  | .bad => .bad
def eCallT (l : List Bool) (n : Nat) (m : List (SD Ω) → RetM Ω) (a : Env Ω → Res Ω (List AD × SD Ω)) (env : Env Ω) : Res Ω D := (eCallTO l n m a env).bind fun r e => match rvD r with
  | some d => .ok d e
  | none => .bad
def oCallT (l : List Bool) (n : Nat) (m : List (SD Ω) → RetM Ω) (a : Env Ω → Res Ω (List AD × SD Ω)) (env : Env Ω) : Res Ω (SD Ω) := (eCallTO l n m a env).bind fun r e => match rvO r with
  | some d => .ok d e
  | none => .bad
end
section
variable {Ω : Type} [ObS Ω] (K : PySem.W.Frag) (W : Wd) (wx : WX)
def ATPost (F : Fr) (σ : L2.St) (H : Hp) (O : Ow) (Q : List V → Hp → Prop) : Res Ω (List AD × SD Ω) → Prop :=
  Post (fun q env' => ∀ vs v p H' O' Fp', Rel K W F env' σ H' O' Fp' → Ex (vw O H) (vw O' H') → ARs K (σ ++ [some v]) (vw O' H') vs q.1 → OwnR K (vw O' H') H' [p] v q.2 → O'.un p → F.H0 p = none → (∀ j, p ∉ Fp' j) → Q vs H') (Raised K W wx F σ H O)
class SatAT (t : TA) (m : outParam (Env Ω → Res Ω (List AD × SD Ω))) : Prop where
  go : ∀ F env σ H O Fp Q, Rel K W F env σ H O Fp → ATPost K W wx F σ H O Q (m env) → t (vis Ω σ) H Q
end
section
variable {Ω : Type} [ObS Ω] {K : PySem.W.Frag} {W : Wd} {wx : WX}
variable {F : Fr} {env : Env Ω} {σ : L2.St} {H H' : Hp} {O O' : Ow} {Fp Fp' : Nat → List Addr} {l : List Bool} {n : Nat}
theorem ARs.push {Hv : Hp} {x : Option V} : ∀ {vs : List V} {as : List AD}, ARs K σ Hv vs as → ARs K (σ ++ [x]) Hv vs as
  | _, _, .nil => .nil
  | _, _, .cons (a := .val d) h t => .cons (a := .val d) h (ARs.push t)
  | _, _, .cons (a := .slot i) h t => .cons (a := .slot i) (by
    have h : σ[i]? = _ := h
    have hi : i < σ.length := (List.getElem?_eq_some_iff.mp h).1
    show (σ ++ [x])[i]? = _
    rw [List.getElem?_append_left hi]; exact h) (ARs.push t)
theorem notP (r : Rel K W F env σ H O Fp) {p : Addr} (h0 : F.H0 p = none) : ∀ i, p ∉ F.P i := fun i z => r.base p (r.pin i p z) h0
theorem one_fp {Hv : Hp} {G : List Addr} {v : V} {sd : SD Ω} (h : OwnR K Hv H G v sd) (e : oneA sd = true) : ∃ p o, G = [p] ∧ v = .ref p ∧ H p = some o ∧ ∀ {Hv' H' : Hp}, Ex Hv Hv' → H' p = some o → OwnR K Hv' H' [p] v sd := by
  cases sd with
  | val d => cases e
  | ob o => cases e
  | lst l =>
    obtain ⟨p, xs, rfl, rfl, hp, a⟩ := h
    exact ⟨p, _, rfl, rfl, hp, fun x e => ⟨p, xs, rfl, rfl, e, a.mono x⟩⟩
  | dct es =>
    obtain ⟨p, kvs, rfl, rfl, hp, k, a⟩ := h
    exact ⟨p, _, rfl, rfl, hp, fun x e => ⟨p, kvs, rfl, rfl, e, k, a.mono x⟩⟩
instance (priority := high) {to : TE} {tr : TA} {o : Env Ω → Res Ω (SD Ω)} {r : Env Ω → Res Ω (List AD)} [A : SatO K W wx to o] [B : SatA K W wx tr r] : SatAT K W wx (tCons to tr) (aO o r) := ⟨fun F env σ H O Fp Q rl h => by
  refine A.go F env σ H O Fp _ rl ((post_bind h).mono (Ex.refl _) fun sd e1 h v H1 O1 Fp1 G r1 x1 q1 hG => ?_)
  by_cases hs : oneA sd = true
  · rw [if_pos hs] at h
    obtain ⟨p, o, rfl, rfl, hp, back⟩ := one_fp q1 hs
    obtain ⟨hO, h0, hF⟩ := hG p List.mem_cons_self
    have hP := notP r1 h0
    have ra := r1.adopt hO.2 hO.1 hF h0 hp
    refine B.go (F.add p o) e1 σ H1 O1 Fp1 _ ra ?_
    have h := post_bind h
    cases e : r e1 with
    | ok bs e2 =>
      rw [e] at h
      intro vs H2 O2 Fp2 r2 x2 q2
      obtain ⟨r3, hO3, hF3, hp3⟩ := Rel.unadopt h0 hP r1.pin r1.base r2
      refine h (.ref p :: vs) (.ref p) p H2 O2 Fp2 r3 (x1.trans x2) (.cons (a := .slot e2.length) ?_ (ARs.push q2)) (back x2 hp3) ⟨hO3, unm_of r2 h0 r1.base⟩ h0 hF3
      show (σ ++ [some (V.ref p)])[e2.length]? = _
      rw [← r3.len, List.getElem?_append_right (Nat.le_refl _), Nat.sub_self]; rfl
    | err c pp e2 =>
      rw [e] at h
      intro cls dx H2 O2 Fp2 r2 x2 k2
      obtain ⟨r3, _, _, _⟩ := Rel.unadopt h0 hP r1.pin r1.base r2
      exact h cls dx H2 O2 Fp2 r3 (x1.trans x2) k2
    | bad => rw [e] at h; exact h.elim
  · rw [if_neg hs] at h; exact h.elim⟩
instance (priority := low) {ta : TE} {tr : TA} {a : Env Ω → Res Ω D} {r : Env Ω → Res Ω (List AD × SD Ω)} [A : SatE K W wx ta a] [B : SatAT K W wx tr r] : SatAT K W wx (tCons ta tr) (aET a r) := ⟨fun F env σ H O Fp Q rl h => by
  refine A.thn rl ((post_bind h).mono (Ex.refl _) fun x e1 h v1 H1 O1 Fp1 r1 x1 q1 => ?_)
  refine B.go F e1 σ H1 O1 Fp1 _ r1 ((post_bind h).mono x1 fun q e2 h vs v p H2 O2 Fp2 r2 x2 q2 o2 hO h0 hF => ?_)
  exact h (v1 :: vs) v p H2 O2 Fp2 r2 (x1.trans x2) (.cons (a := .val x) (q1.mono x2) q2) o2 hO h0 hF⟩
instance {i' i : Nat} [ix : Ix Ω i' i] {tr : TA} {r : Env Ω → Res Ω (List AD × SD Ω)} [B : SatAT K W wx tr r] : SatAT K W wx (tCons (tVar i') tr) (aVarT i r) := ⟨fun F env σ H O Fp Q rl h => by
  unfold aVarT at h
  split at h
  · rename_i sd e
    obtain ⟨v, hv, _⟩ := rl.slot i sd e
    refine ⟨v, (vis_get ix).trans hv, ?_⟩
    refine B.go F env σ H O Fp _ rl ((post_bind h).mono (Ex.refl _) fun q e2 h vs w p H2 O2 Fp2 r2 x2 q2 o2 hO h0 hF => ?_)
    refine h (v :: vs) w p H2 O2 Fp2 r2 x2 (.cons (a := .slot i) ?_ q2) o2 hO h0 hF
    show (σ ++ [some w])[i]? = _
    rw [List.getElem?_append_left (List.getElem?_eq_some_iff.mp hv).1]; exact hv
  · exact h.elim⟩
theorem Rel.low (r : Rel K W F env σ H O Fp) (i : Nat) (hi : i < ObS.off Ω) : σ[i]? = some (some .non) := by
  rw [r.fix i (r.nms.hw i hi)]; exact r.nms.dz i hi
/-- one slot more, for the time of a call -/
theorem Rel.push (r : Rel K W F env σ H O Fp) {v : V} {sd : SD Ω} {p : Addr} (ho : OwnR K (vw O H) H [p] v sd) (hO' : O.un p) (h0 : F.H0 p = none) (hF : ∀ j, p ∉ Fp j) :
    Rel K ⟨fun i => if i = env.length then false else W i, fun _ => none⟩ ⟨F.H0, F.O0, F.P, σ ++ [some v]⟩ (env ++ [some sd]) (σ ++ [some v]) H O (fun i => if i < env.length then Fp i else if i = env.length then [p] else []) where
  nms := ⟨fun i a hi h => by
      by_cases q : i < env.length
      · rw [if_pos q] at h; exact r.nms.un i a hi h
      · rw [if_neg q] at h
        split at h
        · rw [List.mem_singleton.mp h]; exact hO'.2
        · exact absurd h (by simp), fun i hi => by
      show (if i = env.length then false else W i) = false
      split
      · rfl
      · exact r.nms.hw i hi, fun o ho' h => by
      have hl : 0 < env.length := by
        have := (List.getElem?_eq_some_iff.mp (r.low 0 ho')).1
        rw [← r.len]; exact this
      rw [List.getElem?_append_left hl] at h
      exact r.nms.lt o ho' h, r.nms.nn, fun i hi => by
      have := r.low i hi
      have hl := (List.getElem?_eq_some_iff.mp this).1
      show (σ ++ [some v])[i]? = _
      rw [List.getElem?_append_left hl]; exact this⟩
  len := by rw [List.length_append, List.length_append, r.len]; rfl
  slot := fun i sd' h => by
    by_cases hi : i < env.length
    · rw [List.getElem?_append_left hi] at h
      obtain ⟨u, h1, h2⟩ := r.slot i sd' h
      refine ⟨u, by rw [List.getElem?_append_left (by rw [r.len]; exact hi)]; exact h1, ?_⟩
      rw [if_pos hi]; exact h2
    · have hi2 : i = env.length := by
        have := (List.getElem?_eq_some_iff.mp h).1
        rw [List.length_append] at this
        have : i < env.length + 1 := this
        omega
      subst hi2
      rw [List.getElem?_append_right (Nat.le_refl _), Nat.sub_self] at h
      cases h
      refine ⟨v, by rw [← r.len, List.getElem?_append_right (Nat.le_refl _), Nat.sub_self]; rfl, ?_⟩
      rw [if_neg hi, if_pos rfl]; exact ho
  own := fun i a h => by
    by_cases hi : i < env.length
    · rw [if_pos hi] at h; exact r.own i a h
    · rw [if_neg hi] at h
      split at h
      · rw [List.mem_singleton.mp h]; exact hO'.1
      · cases h
  dis := fun i j a h1 h2 => by
    have one : ∀ i, a ∈ (if i < env.length then Fp i else if i = env.length then [p] else []) → (i < env.length ∧ a ∈ Fp i) ∨ (i = env.length ∧ a = p) := fun i h => by
      by_cases hi : i < env.length
      · rw [if_pos hi] at h; exact .inl ⟨hi, h⟩
      · rw [if_neg hi] at h
        split at h
        · rename_i e; exact .inr ⟨e, List.mem_singleton.mp h⟩
        · cases h
    rcases one i h1 with ⟨_, a1⟩ | ⟨e1, a1⟩ <;> rcases one j h2 with ⟨_, a2⟩ | ⟨e2, a2⟩
    · exact r.dis i j a a1 a2
    · subst a2; exact absurd a1 (hF i)
    · subst a1; exact absurd a2 (hF j)
    · omega
  mine := fun i a h => by
    by_cases hi : i < env.length
    · rw [if_pos hi] at h; exact r.mine i a h
    · rw [if_neg hi] at h
      split at h
      · rw [List.mem_singleton.mp h]; exact .inr h0
      · cases h
  sub := r.sub
  new := r.new
  all := r.all
  keep := r.keep
  fix := fun i h => rfl
  pinned := fun i a h => by cases h
  pin := r.pin
  base := r.base
  pw := fun i h => by
    have h : (if i = env.length then false else W i) = true := h
    by_cases hi : i = env.length
    · rw [if_pos hi] at h; cases h
    · rw [if_neg hi] at h; exact r.pw i h
theorem Rel.popT (r : Rel K W F env σ H O Fp) {v : V} {W' : Wd} {e2 : Env Ω} (c : Rel K W' ⟨F.H0, F.O0, F.P, σ ++ [some v]⟩ e2 (σ ++ [some v]) H' O' Fp') :
    Rel K W F (e2.take env.length) σ H' O' (fun i => if i < env.length then Fp' i else []) where
  nms := ⟨fun i a hi h => by
      split at h
      · exact c.nms.un i a hi h
      · exact absurd h (by simp), r.nms.hw, fun o ho h => by
      have hi : 0 < env.length := by
        have := (List.getElem?_eq_some_iff.mp h).1
        rw [List.length_take] at this; omega
      rw [List.getElem?_take_of_lt hi] at h
      exact c.nms.lt o ho h, c.nms.nn, r.nms.dz⟩
  len := by
    have h := c.len
    rw [List.length_append] at h
    have h : σ.length + 1 = e2.length := h
    rw [List.length_take, ← r.len]; omega
  slot := fun i sd h => by
    have hi : i < env.length := by
      have := (List.getElem?_eq_some_iff.mp h).1
      rw [List.length_take] at this; omega
    rw [List.getElem?_take_of_lt hi] at h
    obtain ⟨u, h1, h2⟩ := c.slot i sd h
    rw [List.getElem?_append_left (by rw [r.len]; exact hi)] at h1
    exact ⟨u, h1, by rw [if_pos hi]; exact h2⟩
  own := fun i a h => by
    split at h
    · exact c.own i a h
    · cases h
  dis := fun i j a h1 h2 => by
    split at h1
    · split at h2
      · exact c.dis i j a h1 h2
      · cases h2
    · cases h1
  mine := fun i a h => by
    split at h
    · exact c.mine i a h
    · cases h
  sub := c.sub
  new := c.new
  all := c.all
  keep := c.keep
  fix := r.fix
  pinned := r.pinned
  pin := r.pin
  base := r.base
  pw := r.pw
def tTmp (t : TA) : TA := t
theorem callT_sat {ta : TA} {m : List (SD Ω) → RetM Ω} {a : Env Ω → Res Ω (List AD × SD Ω)} (A : SatAT K W wx ta a) {Q : VK} (r : Rel K W F env σ H O Fp) (h : CPost K W wx F σ H O Q (eCallTO l n m a env)) :
    tCallS (spV l n m K) (WE wx) ta (vis Ω σ) H Q := by
  refine A.go F env σ H O Fp _ r ((post_bind h).mono (Ex.refl _) fun q e1 h vs v p H1 O1 Fp1 r1 x1 hA ho hO h0 hF => ?_)
  have rp := r1.push ho hO h0 hF
  refine go_sat (wx := fun cls dx _ H' => wx cls dx (vis Ω σ) H') (σ := σ ++ [some v]) rp hA ?_
  cases e : goCall l n m q.1 (e1 ++ [some q.2]) with
  | ok rv e2 =>
    rw [e] at h
    intro u H2 O2 Fp2 r2 x2 q2
    have r3 := r1.popT r2
    refine h u H2 O2 _ r3 (x1.trans x2) ?_
    cases rv with
    | val d => exact q2
    | own sd =>
      obtain ⟨G, g1, g2⟩ := q2
      refine ⟨G, g1, fun b hb => ⟨(g2 b hb).1, (g2 b hb).2.1, fun j z => ?_⟩⟩
      have z : b ∈ (if j < e1.length then Fp2 j else []) := z
      split at z
      · exact (g2 b hb).2.2 j z
      · cases z
  | err c pp e2 =>
    rw [e] at h
    intro cls dx H2 O2 Fp2 r2 x2 k2
    exact h cls dx H2 O2 _ (r1.popT r2) (x1.trans x2) k2
  | bad => rw [e] at h; exact h.elim
instance (priority := low) {ta : TA} {m : List (SD Ω) → RetM Ω} {a : Env Ω → Res Ω (List AD × SD Ω)} [A : SatAT K W wx ta a] : SatE K W wx (tCallS (spV l n m K) (WE wx) (tTmp ta)) (eCallT l n m a) := ⟨fun F env σ H O Fp Q r h => by
  refine callT_sat A r ((post_bind h).mono (Ex.refl _) fun rv e1 h v H1 O1 Fp1 r1 x1 q => ?_)
  cases rv with
  | val d => exact h v H1 O1 Fp1 r1 x1 q
  | own sd =>
    obtain ⟨G, q1, q2⟩ := q
    cases e : frzD sd with
    | none => simp only [rvD, e] at h; exact h.elim
    | some d =>
      simp only [rvD, e] at h
      exact h v H1 (subO O1 G) Fp1 (r1.unO fun a ha => (q2 a ha).2) (x1.trans vw_subO) (frz_rp q1 (fun a ha => (q2 a ha).1.2) e)⟩
instance (priority := low) {ta : TA} {m : List (SD Ω) → RetM Ω} {a : Env Ω → Res Ω (List AD × SD Ω)} [A : SatAT K W wx ta a] : SatO K W wx (tCallS (spV l n m K) (WE wx) (tTmp ta)) (oCallT l n m a) := ⟨fun F env σ H O Fp Q r h => by
  refine callT_sat A r ((post_bind h).mono (Ex.refl _) fun rv e1 h v H1 O1 Fp1 r1 x1 q => ?_)
  cases rv with
  | val d => exact h.elim
  | own sd =>
    obtain ⟨G, q1, q2⟩ := q
    exact h v H1 O1 Fp1 G r1 x1 q1 q2⟩
end
section
variable {X : Cx} {es : List Expr} {t : TA}
theorem pa_tmp (h : PA X es t) : PA X es (tTmp t) := h
end
end Ve

set_option Elab.async false
set_option linter.all false
set_option maxRecDepth 100000
set_option maxHeartbeats 4000000
/-! sorted(set(a list of whole numbers)). -/
namespace Ve
open PySem PySem.Spec PyProof.Rows L2 Evl Ny
/-! ### the plain side: rising, each once -/
def insU (k : Int) : List Int → List Int
  | [] => [k]
  | x :: l => if k < x then k :: x :: l else if k = x then x :: l else x :: insU k l
def sortU (ns : List Int) : List Int := ns.foldr insU []
theorem mem_insU {k j : Int} : ∀ {l : List Int}, j ∈ insU k l ↔ j = k ∨ j ∈ l
  | [] => by simp [insU]
  | x :: l => by
    unfold insU
    split
    · simp
    · split
      · rename_i h; subst h; simp
      · rw [List.mem_cons, mem_insU, List.mem_cons]
        constructor
        · rintro (h | h | h)
          · exact .inr (.inl h)
          · exact .inl h
          · exact .inr (.inr h)
        · rintro (h | h | h)
          · exact .inr (.inl h)
          · exact .inl h
          · exact .inr (.inr h)
theorem mem_sortU {j : Int} : ∀ {ns : List Int}, j ∈ sortU ns ↔ j ∈ ns
  | [] => by simp [sortU]
  | n :: ns => by
    show j ∈ insU n (sortU ns) ↔ _
    rw [mem_insU, mem_sortU, List.mem_cons]
theorem pw_insU {k : Int} : ∀ {l : List Int}, l.Pairwise (· < ·) → (insU k l).Pairwise (· < ·)
  | [], _ => List.pairwise_singleton _ _
  | x :: l, h => by
    obtain ⟨h1, h2⟩ := List.pairwise_cons.mp h
    unfold insU
    split
    · rename_i q
      refine List.pairwise_cons.mpr ⟨fun y hy => ?_, h⟩
      rcases List.mem_cons.mp hy with rfl | hy
      · exact q
      · have := h1 y hy; omega
    · split
      · exact h
      · refine List.pairwise_cons.mpr ⟨fun y hy => ?_, pw_insU h2⟩
        rcases mem_insU.mp hy with rfl | hy
        · omega
        · exact h1 y hy
theorem pw_sortU : ∀ {ns : List Int}, (sortU ns).Pairwise (· < ·)
  | [] => .nil
  | n :: ns => pw_insU (pw_sortU (ns := ns))
theorem pw_ext : ∀ {a b : List Int}, a.Pairwise (· < ·) → b.Pairwise (· < ·) → (∀ k, k ∈ a ↔ k ∈ b) → a = b
  | [], [], _, _, _ => rfl
  | [], y :: b, _, _, h => by have := (h y).mpr List.mem_cons_self; cases this
  | x :: a, [], _, _, h => by have := (h x).mp List.mem_cons_self; cases this
  | x :: a, y :: b, ha, hb, h => by
    obtain ⟨a1, a2⟩ := List.pairwise_cons.mp ha
    obtain ⟨b1, b2⟩ := List.pairwise_cons.mp hb
    have e : x = y := by
      rcases List.mem_cons.mp ((h x).mp List.mem_cons_self) with e | q
      · exact e
      · rcases List.mem_cons.mp ((h y).mpr List.mem_cons_self) with e | q2
        · exact e.symm
        · have := b1 x q; have := a1 y q2; omega
    subst e
    have e2 : a = b := pw_ext a2 b2 fun k => by
      constructor
      · intro hk
        rcases List.mem_cons.mp ((h k).mp (List.mem_cons_of_mem _ hk)) with e | q
        · subst e; have := a1 k hk; omega
        · exact q
      · intro hk
        rcases List.mem_cons.mp ((h k).mpr (List.mem_cons_of_mem _ hk)) with e | q
        · subst e; have := b1 k hk; omega
        · exact q
    rw [e2]
section
variable {P : Program} {w : World} {A : Around} {E : Value → Shared → Prop} {s : Shared}
set_option maxHeartbeats 8000000 in
theorem call_set_lstI {l : Addr} {items : Array Value} (ns : List Int) {Q : Value → Shared → Prop} (hh : A.handled = none) (hl : s.heap.IsList l items) (hit : IntsAre items.toList ns) (hb : ns.length + 1 < scanBound)
    (h : ∀ (h' : Heap) (tk c : Nat), SetR w h' s.heap.objs.size (fun j => decide (j ∈ ns)) c → c ≤ ns.length → (∀ b o, s.heap.get? b = some o → h'.get? b = some o) → Q (.ref s.heap.objs.size) { s with heap := h', toks := tk }) :
    wpAny (model P w) A (call (.type "set") [.ref l]) Q E s := by
  have hisz : items.size = ns.length := by
    have q := IntsAre.length hit
    rw [Array.length_toList] at q
    exact q
  obtain ⟨c, tl, hmro⟩ := F.called_set.mro
  have hmade := F.called_set.made
  have hsub := F.called_set.sub
  refine wpAny_call (codeAny_of_tree ?_)
  show wpAny _ _ (callAny (.type "set") _) _ _ _
  refine wpAny_pure ⟨Code.quiet_builtin _ (by decide +kernel), codeAny_builtin F.entry_type_call ?_⟩
  rw [Around.under_plain (weight_type_call_type "set" [.ref l] []) rfl]
  have h1 := F.called_set.notType
  have h2 := F.called_set.canCreate
  have hct := F.typeCall_set_1 (.ref l)
  repeat (any_goals (first | assumption | wp_step))
  refine codeAny_mono (code_set_led1 (.ref l) (E := E) (Q₁ := fun obj s₁ => obj = .ref s.heap.objs.size ∧ s₁ = { s with heap := s.heap.push { cls := .type "set", dict := none, data := .set #[] 0 (.fresh 0 0 (!w.params.followText "set-order")) } }) ⟨rfl, rfl⟩) fun r s₁ hr => ?_
  cases r with
  | error e => exact hr
  | ok fl =>
    cases fl with
    | ret obj =>
      obtain ⟨rfl, rfl⟩ := hr
      have hS : (s.heap.push { cls := .type "set", dict := none, data := .set #[] 0 (.fresh 0 0 (!w.params.followText "set-order")) }).get? s.heap.objs.size = some { cls := .type "set", dict := none, data := .set #[] 0 (.fresh 0 0 (!w.params.followText "set-order")) } := Heap.get?_push_size _ rfl
      have hT : Shared.TypeIs { s with heap := s.heap.push { cls := .type "set", dict := none, data := .set #[] 0 (.fresh 0 0 (!w.params.followText "set-order")) } } (.ref s.heap.objs.size) "set" := ⟨_, hS, rfl⟩
      have hli := F.called_set.init.lookup
      have hbi := F.called_set.init.bind (.ref s.heap.objs.size)
      repeat (any_goals (first | assumption | wp_step))
      refine codeAny_mono (codeAny_call_builtin (R := wants (fun r s₂ => r = .none ∧ ∃ h' tk c, s₂ = { s with heap := h', toks := tk } ∧ SetR w h' s.heap.objs.size (fun j => decide (j ∈ ns)) c ∧ c ≤ ns.length ∧
          (∀ b o, s.heap.get? b = some o → h'.get? b = some o)) E) F.called_set.init.plain F.entry_set_init (check_set_init_1 hT ?_)) fun r₂ s₂ hr₂ => ?_
      · obtain ⟨ol, hol, hcl, nl, hdl⟩ := hl
        obtain ⟨ocls, odict, odata, oslots⟩ := ol
        simp only at hcl hdl
        subst hcl; subst hdl
        have hol' : (s.heap.push { cls := .type "set", dict := none, data := .set #[] 0 (.fresh 0 0 (!w.params.followText "set-order")) }).get? l = some { cls := .type "list", dict := odict, data := .seq items nl, slots := oslots } := Heap.get?_push_of_some _ hol
        have hsls := F.sub_list_set
        have hslf := F.sub_list_frozenset
        have hne : (Value.type "list" == Value.type "dict") = false := by decide
        have hl1 : (s.heap.push { cls := .type "set", dict := none, data := .set #[] 0 (.fresh 0 0 (!w.params.followText "set-order")) }).IsList l items := ⟨_, hol', rfl, nl, rfl⟩
        unfold Builtin.«set.__init__» noKeywords Builtin.Frozenset.updateFrom
        generalize hPI : pyIter = PI
        wp_walk
        subst hPI
        refine wpAny_pyIter_list hl1 ?_
        refine wpAny_bind (wpAny_runValue ?_)
        have hlS : l < s.heap.objs.size := Heap.lt_size hol
        have hh3 : A.in1.in1.in1.handled = none := by simp [hh]
        have hneI : l ≠ (s.heap.push { cls := .type "set", dict := none, data := .set #[] 0 (.fresh 0 0 (!w.params.followText "set-order")) }).objs.size := by
          rw [Heap.size_push]; exact Nat.ne_of_lt (Nat.lt_succ_of_lt hlS)
        have hSf : s.heap.objs.size ∉ [(s.heap.push { cls := .type "set", dict := none, data := .set #[] 0 (.fresh 0 0 (!w.params.followText "set-order")) }).objs.size, l] := by
          rw [Heap.size_push]; simp only [List.mem_cons, List.mem_singleton, List.not_mem_nil, or_false, not_or]
          exact ⟨Nat.ne_of_lt (Nat.lt_succ_self _), Nat.ne_of_gt hlS⟩
        have hval : ∀ (i : Nat) (v : Value), items[i]? = some v → ∃ k t, ns[i]? = some k ∧ v = .int k t := fun i v hv => by
          have hi : i < ns.length := by rw [← hisz]; exact (Array.getElem?_eq_some_iff.mp hv).1
          obtain ⟨t, e⟩ := PyProof.Rows.IntsAre.int_at hit i v (by rw [Array.getElem?_toList]; exact hv)
          refine ⟨ns[i], t, List.getElem?_eq_getElem hi, ?_⟩
          rw [e, List.getD_eq_getElem?_getD, List.getElem?_eq_getElem hi] <;> rfl
        refine set_update_ints ((Walks.list hh3 _ l hneI items).toS) s.heap.objs.size
          hSf ns hisz hb hval (items.size - 0) 0 _ (by omega) (Nat.zero_le _)
          ⟨⟨_, Heap.get?_push_size _ rfl, rfl, rfl⟩, (hl1.push _)⟩ ?hS0 ?hR
        case hS0 =>
          have hget : ((s.heap.push { cls := .type "set", dict := none, data := .set #[] 0 (.fresh 0 0 (!w.params.followText "set-order")) }).push { cls := .type "list_iterator", data := .fields #[.ref l, .int 0 0] }).get? s.heap.objs.size
              = some { cls := .type "set", dict := none, data := .set #[] 0 (.fresh 0 0 (!w.params.followText "set-order")) } := Heap.get?_push_of_some _ hS
          exact ⟨0, Nat.le_refl 0, setR_new_at hget⟩
        case hR =>
          intro s' c' hm hc' hS'
          obtain ⟨h', g2, d', tk', os'⟩ := s'
          have eg : g2 = s.gens := hm.gens
          have ed : d' = s.drawn := hm.drawn
          have eo : os' = s.os := hm.os
          subst eg; subst ed; subst eo
          show wpAny _ _ _ _ _ _
          refine wpAny_pure ?_
          show wpAny _ _ (ret Value.none) _ _ _
          rw [hisz] at hc'
          refine wpAny_pure ⟨rfl, h', tk', c', rfl, hS', hc', fun b o e => ?_⟩
          have hb0 : b < s.heap.objs.size := Heap.lt_size e
          have hb1 : b ≠ s.heap.objs.size := Nat.ne_of_lt hb0
          have hb2 : b ≠ (s.heap.push { cls := .type "set", dict := none, data := .set #[] 0 (.fresh 0 0 (!w.params.followText "set-order")) }).objs.size := by
            rw [Heap.size_push]; exact Nat.ne_of_lt (Nat.lt_succ_of_lt hb0)
          exact hm.heap b o (by simp only [List.mem_cons, List.mem_singleton, List.not_mem_nil, or_false, not_or]; exact ⟨hb1, hb2⟩) (Heap.get?_push_of_some _ (Heap.get?_push_of_some _ e))
      · cases r₂ with
        | error e => exact hr₂
        | ok f2 =>
          cases f2 with
          | ret v2 =>
            obtain ⟨rfl, h', tk, c', rfl, hS', hc', hk⟩ := hr₂
            repeat (any_goals (first | assumption | wp_step))
            exact h _ _ _ hS' hc' hk
          | next => exact hr₂.elim
          | brk => exact hr₂.elim
          | cont => exact hr₂.elim
    | next => exact hr.elim
    | brk => exact hr.elim
    | cont => exact hr.elim
end
/-! ### the expression -/
section
variable {X : Cx}
def tSortedSet (K : PySem.W.Frag) (ta : TE) : TE := fun σ H Q => ta σ H fun x H1 => ∃ (l : Addr) (ns : List Int), x = V.ref l ∧ SqL K H1 l (ns.map V.int) ∧ ns.length < 64 ∧ ∀ p, H1 p = none → Q (.ref p) (upd H1 p (.lst ((sortU ns).map V.int)))
theorem pe_sortedSet {a : Expr} {ta : TE} {p p2 q pos : Pos} (hm : X.mg "sorted" = none) (hm2 : X.mg "set" = none) (ha : PE X a ta) (hc : X.calm = true := by rfl) (hg : Gl X "sorted" := by rfl) (hg2 : Gl X "set" := by rfl)
    (na : starEach [a] X.env = (false, eval a X.env) :: starEach [] X.env := by rfl) : PE X (.Call (.Name "sorted" p) [.Call (.Name "set" p2) [a] [] q] [] pos) (tSortedSet X.K ta) := by
  refine ⟨fun pins s σ H Q I h => ?_⟩
  refine Call_ (ld_blt I hg hm bo_sorted ?_)
  refine PyProof.Rows.callWith_builtin1 (PyProof.Rows.args_cons ?_ rfl) rfl rfl
  refine Call_ (ld_blt I hg2 hm2 PyProof.Rows.boot_set ?_)
  refine PyProof.Rows.callWith_type1 (PyProof.Rows.args_cons (thn (ha.run pins s σ H _ I h) fun v s1 ⟨x, H1, I1, r1, q1⟩ => PyProof.Rows.args_nil ?_) na) na rfl
  obtain ⟨l, ns, rfl, hq, h64, q1⟩ := q1
  cases r1
  obtain ⟨its, r, pl, hz⟩ := I1.list hq
  refine call_set_lstI (ns := ns) (I1.ok.hd hc) pl.isList (by simpa using r.ints) (by unfold scanBound; omega) fun h' tk c hS hcl hk => ?_
  refine PyProof.Rows.args_nil ?_
  have I2 : Inv X pins σ H1 { s1 with heap := h', toks := tk } := I1.kept hk
  refine sorted_set hS (I1.ok.hd hc) (by omega) fun s' p out c' ns' k g o hp hg' hi hs hm' hl => ?_
  have hns : ns' = sortU ns := pw_ext hs pw_sortU fun j => by rw [hm' j, mem_sortU]; simp
  subst hns
  have hlen : ((sortU ns).map V.int).length ≤ sizeLine := by rw [List.length_map, hl, sizeLine_eq]; omega
  have hn : H1 p = none := I2.hok.fresh hp
  generalize hz2 : ({ s1 with heap := h', toks := tk } : Shared) = s2 at I2 k g o hp
  have J : Inv X pins σ (upd H1 p (.lst ((sortU ns).map V.int))) { s2 with heap := s'.heap, gens := s'.gens, drawn := s'.drawn, toks := s'.toks } :=
    I2.call (ch := []) (Un.laid k hp hn) (I2.hok.laid k hp ⟨hlen, out.toList, c', vals_of_ints hi, hg'⟩) (by rw [g]; exact I2.bare) (fun _ z => nomatch z)
  have e : s' = { s2 with heap := s'.heap, gens := s'.gens, drawn := s'.drawn, toks := s'.toks } := by
    cases s'
    cases s2
    cases o
    rfl
  rw [e]
  exact ⟨.ref p, _, J, rfl, q1 p hn⟩
end
theorem Rel.pinS {Ω : Type} [ObS Ω] {K : PySem.W.Frag} {W : Wd} {F : Fr} {env : Env Ω} {σ : L2.St} {H : Hp} {O : Ow} {Fp : Nat → List Addr} (r : Rel K W F env σ H O Fp) {i : Nat} {a : Addr} (h : W.pin i = some a) : W i = false ∧ σ[i]? = some (some (.ref a)) := by
  have q := r.pinned i a h
  exact ⟨q.1, by rw [r.fix i q.1]; exact q.2⟩
section
variable {Ω : Type} [ObS Ω] {K : PySem.W.Frag} {W : Wd} {wx : WX}
def oSortU (a : Env Ω → Res Ω D) (env : Env Ω) : Res Ω (SD Ω) := (a env).bind fun d e => match ints1 [d] with
  | some ns => if ns.length < 64 then .ok (.lst ((sortU ns).map PyData.int)) e else .bad
  | none => .bad
instance {ta : TE} {a : Env Ω → Res Ω D} [A : SatE K W wx ta a] : SatO K W wx (tSortedSet K ta) (oSortU a) := ⟨fun F env σ H O Fp Q rl h => by
  refine A.thn rl ((post_bind h).mono (Ex.refl _) fun d e1 h v1 H1 O1 Fp1 r1 x1 q1 => ?_)
  cases e : ints1 [d] with
  | none => rw [e] at h; exact h.elim
  | some ns =>
    rw [e] at h
    have h : OPost K W wx F σ H O Q (if ns.length < 64 then .ok (.lst ((sortU ns).map PyData.int)) e1 else .bad) := h
    by_cases hl : ns.length < 64
    · rw [if_pos hl] at h
      obtain ⟨p, hv, h1⟩ := ints1_ok (.cons q1 .nil) e
      injection hv with hv _
      subst hv
      refine ⟨p, ns, rfl, h1, hl, fun p' hn => ?_⟩
      exact newL r1 x1 (rp_ints _) h hn rfl
    · rw [if_neg hl] at h; exact h.elim⟩
instance {ta : TE} {a : Env Ω → Res Ω D} [A : SatE K W wx ta a] : SatE K W wx (tSortedSet K ta) (eFrz (oSortU a)) := sat_frz inferInstance
end
/-! ### a list of its own, lent for one expression -/
def tBor (i : Nat) (t : TE) : TE := t
section
variable {X : Cx} {e : Expr} {t : TE} {i : Nat}
theorem pe_bor (h : PE X e t) : PE X e (tBor i t) := h
end
section
variable {Ω : Type} [ObS Ω] {K : PySem.W.Frag} {W : Wd} {wx : WX}
def valS : Option (SD Ω) → Option (SD Ω)
  | some (.val d) => some (.val d)
  | _ => none
def eBor (i : Nat) (a : Env Ω → Res Ω D) (env : Env Ω) : Res Ω D := match slotL i env with
  | some l => (match a ((env.map valS).set i (some (.val (.list l)))) with
    | .ok d _ => if flatD d = true then .ok d env else .bad
    | _ => .bad)
  | none => .bad
theorem flat_rp {H H' : Hp} {v : V} {d : D} (h : Rp K H v d) (f : flatD d = true) : Rp K H' v d := by
  cases h with
  | non => exact .non
  | bl b => exact .bl b
  | int i => exact .int i
  | str x => exact .str x
  | _ => cases f
instance {i' i : Nat} [ix : Ix Ω i' i] {t : TE} {a : Env Ω → Res Ω D} [A : SatE K W wx t a] : SatE K W wx (tBor i' t) (eBor i a) := ⟨fun F env σ H O Fp Q r h => by
  unfold eBor at h
  cases el : slotL i env with
  | none => rw [el] at h; exact h.elim
  | some l =>
    rw [el] at h
    dsimp only at h
    obtain ⟨p, xs, he, hv, hF, hp, ha⟩ := ownL r el
    have hx : Ex (vw O H) (vw (subO O [p]) H) := vw_subO
    have hi : i < env.length := (List.getElem?_eq_some_iff.mp he).1
    have rel : Rel K W ⟨H, subO O [p], fun _ => [], σ⟩ ((env.map valS).set i (some (.val (.list l)))) σ H (subO O [p]) (fun _ => []) := {
      nms := ⟨fun j a _ h => (by cases h), r.nms.hw, fun o _ h => (by
          exfalso
          by_cases e : i = 0
          · subst e
            rw [List.getElem?_set_self (by rw [List.length_map]; exact hi)] at h
            cases h
          · rw [List.getElem?_set_ne e, List.getElem?_map] at h
            cases q : env[0]? with
            | none => rw [q] at h; cases h
            | some o =>
              rw [q] at h
              cases o with
              | none => cases h
              | some s => cases s <;> cases h), fun a n h => .inl h, r.low⟩
      len := by rw [List.length_set, List.length_map]; exact r.len
      slot := fun j sd hj => by
        by_cases e : i = j
        · subst e
          rw [List.getElem?_set_self (by rw [List.length_map]; exact hi)] at hj
          cases hj
          refine ⟨_, hv, rfl, .lst (.of ?_) (ha.mono hx)⟩
          exact vw_outV (subO_out (r.nms.un i p ix.le (by rw [hF]; exact List.mem_cons_self)) List.mem_cons_self) hp rfl
        · rw [List.getElem?_set_ne e, List.getElem?_map] at hj
          cases q : env[j]? with
          | none => rw [q] at hj; cases hj
          | some o =>
            rw [q] at hj
            cases o with
            | none => cases hj
            | some s =>
              cases s with
              | val d =>
                cases hj
                obtain ⟨v, h1, h2⟩ := r.slot j _ q
                exact ⟨v, h1, rfl, h2.2.mono hx⟩
              | _ => cases hj
      own := fun j a z => by cases z
      dis := fun j k a z => by cases z
      mine := fun j a z => by cases z
      sub := fun a z => z
      new := fun a z => .inl z
      all := fun a z => r.all a z.1
      keep := fun a o z _ => z
      fix := fun j z => rfl
      pinned := fun i a h => r.pinS h
      pin := fun j a z => by cases z
      base := fun a z => r.all a z.1
      pw := fun j z => rfl }
    refine A.go _ _ σ H (subO O [p]) _ Q rel ?_
    cases e : a ((env.map valS).set i (some (.val (.list l)))) with
    | ok d e2 =>
      rw [e] at h
      have h : EPost K W wx F σ H O Q (if flatD d = true then .ok d env else .bad) := h
      intro v H' O' Fp' r2 x2 q2
      by_cases f : flatD d = true
      · rw [if_pos f] at h
        have g : Ex H H' := fun a o z => r2.keep a o z (fun j w => by cases w)
        exact h v H' O Fp (r.grow g) (vw_ex g) (flat_rp q2 f)
      · rw [if_neg f] at h; exact h.elim
    | err c pp e2 => rw [e] at h; exact h.elim
    | bad => rw [e] at h; exact h.elim⟩
end
end Ve

set_option Elab.async false
set_option linter.all false
set_option maxRecDepth 100000
set_option maxHeartbeats 4000000
/-! Things that are told by names: lists, dicts, instances that several slots know. -/
namespace Ve
open PySem PySem.Spec PyProof.Rows L2 Evl Ny
inductive Cell where
  | lst (l : List D) | dct (es : List (D × D)) | obj (c : Str) (fs : List (Str × D)) | fdct (es : List (D × D))
/-- all named things, by their names -/
structure Hm where
  c : List Cell
def insFs (fs : List (Str × D)) (vs : List V) : List (Str × V) := (fs.map (·.1)).zip vs
def CellR (K : PySem.W.Frag) (Hv H : Hp) (F : List Addr) (a : Addr) : Cell → Prop
  | .lst l => ∃ xs, H a = some (.lst xs) ∧ RpAll K Hv xs l
  | .dct es => ∃ kvs, H a = some (.dK kvs) ∧ es.map (·.1) = kvs.map (fun q => kD q.1) ∧ RpAll K Hv (kvs.map (·.2)) (es.map (·.2))
  | .fdct es => ∃ o kvs, H a = some (.frz o (.dK kvs)) ∧ es.map (·.1) = kvs.map (fun q => kD q.1) ∧ RpAll K Hv (kvs.map (·.2)) (es.map (·.2))
  | .obj c fs => ∃ dx vs, H a = some (.ins (He.ga K c) dx (insFs fs vs)) ∧ H dx = some (.own a) ∧ dx ∈ F ∧ RpAll K Hv vs (fs.map (·.2))
theorem CellR.mono {K : PySem.W.Frag} {Hv Hv' H H' : Hp} {F F' : List Addr} {a : Addr} {c : Cell} (h : CellR K Hv H F a c) (e : Ex Hv Hv') (ha : a ∈ F) (hF : ∀ b ∈ F, b ∈ F') (k : ∀ b ∈ F, H' b = H b) : CellR K Hv' H' F' a c := by
  cases c with
  | lst l => obtain ⟨xs, h1, h2⟩ := h; exact ⟨xs, by rw [k a ha]; exact h1, h2.mono e⟩
  | dct es => obtain ⟨kvs, h1, h2, h3⟩ := h; exact ⟨kvs, by rw [k a ha]; exact h1, h2, h3.mono e⟩
  | fdct es => obtain ⟨o, kvs, h1, h2, h3⟩ := h; exact ⟨o, kvs, by rw [k a ha]; exact h1, h2, h3.mono e⟩
  | obj c fs => obtain ⟨dx, vs, h1, h2, h3, h4⟩ := h; exact ⟨dx, vs, by rw [k a ha]; exact h1, by rw [k dx h3]; exact h2, hF dx h3, h4.mono e⟩
structure HmR (K : PySem.W.Frag) (Hv H : Hp) (F : List Addr) (M : Hm) : Prop where
  at_ : ∀ n c, M.c[n]? = some c → ∃ a, Hv a = some (mkN n) ∧ a ∈ F ∧ CellR K Hv H F a c
  all : ∀ a ∈ F, H a ≠ none
instance : ObS Hm where
  off := 1
  one := Nat.le_refl 1
  sz := fun M => M.c.length
  rep := fun K Hv H F _ M => HmR K Hv H F M
  mono := fun h e k => ⟨fun n c q => by
    obtain ⟨a, h1, h2, h3⟩ := h.at_ n c q
    exact ⟨a, e _ _ h1, h2, h3.mono e h2 (fun _ z => z) k⟩, fun a ha => by rw [k a ha]; exact h.all a ha⟩
  there := fun h ha => h.all _ ha
instance {i : Nat} : Ix Hm i (i + 1) := ⟨rfl⟩
def hmOf (e : Env Hm) : Option Hm := match (e[(0 : Nat)]? : Option (Option (SD Hm))) with
  | some (some (SD.ob M)) => some M
  | _ => none
theorem hmOf_some {e : Env Hm} {M : Hm} (h : hmOf e = some M) : e[0]? = some (some (.ob M)) := by
  unfold hmOf at h
  split at h
  · rename_i q; cases h; exact q
  · cases h
theorem rp_refOf {K : PySem.W.Frag} {H : Hp} {v : V} {d : D} {n : Nat} (h : Rp K H v d) (e : refOf d = some n) : ∃ a, v = .ref a ∧ H a = some (mkN n) := by
  cases h with
  | ref h => rw [refOf_ref] at e; cases e; exact ⟨_, rfl, h⟩
  | dct _ k _ => rw [keys_no k] at e; cases e
  | _ => cases e
section
variable {K : PySem.W.Frag} {W : Wd} {wx : WX}
variable {F : Fr} {env : Env Hm} {σ : L2.St} {H H' : Hp} {O O' : Ow} {Fp : Nat → List Addr} {p : Addr}
/-- a named thing, in the heap -/
theorem cell_at (r : Rel K W F env σ H O Fp) {M : Hm} (hM : hmOf env = some M) {v : V} {d : D} {n : Nat} {c : Cell} (hv : Rp K (vw O H) v d) (hd : refOf d = some n) (hc : M.c[n]? = some c) :
    ∃ a, v = .ref a ∧ O.nm a = some n ∧ a ∈ Fp 0 ∧ CellR K (vw O H) H (Fp 0) a c := by
  obtain ⟨a, rfl, ha⟩ := rp_refOf hv hd
  obtain ⟨_, _, q⟩ := r.slot 0 _ (hmOf_some hM)
  have q : HmR K (vw O H) H (Fp 0) M := q
  obtain ⟨b, h1, h2, h3⟩ := q.at_ n c hc
  have e : a = b := O.inj a b n (vw_name ha) (vw_name h1)
  subst e
  exact ⟨a, rfl, vw_name ha, h2, h3⟩
/-- the named things are others now -/
theorem Rel.putH (r : Rel K W F env σ H O Fp) {M M' : Hm} {G : List Addr} (he : hmOf env = some M) (hn : ∀ a n, O.nm a = some n → O'.nm a = some n)
    (hn' : ∀ a n, O'.nm a = some n → O.nm a = some n ∨ (F.H0 a = none ∧ ∀ j, a ∉ Fp j)) (hO : ∀ a, O a → O' a) (hO' : ∀ a, O' a → O a ∨ H a = none)
    (hs : ∀ a ∈ Fp 0, a ∈ G) (hG : ∀ a ∈ G, a ∈ Fp 0 ∨ (O' a ∧ F.H0 a = none ∧ ∀ j, a ∉ Fp j)) (hk : ∀ a, a ∉ G → ∀ o, H a = some o → H' a = some o) (hk0 : ∀ a, F.H0 a ≠ none → a ∉ Fp 0 → ∀ o, H a = some o → H' a = some o)
    (ha : ∀ a, O' a → H' a ≠ none) (hl : ∀ a n, O'.nm a = some n → n < M'.c.length) (x : Ex (vw O H) (vw O' H')) (ho : HmR K (vw O' H') H' G M') :
    Rel K W F (env.set 0 (some (.ob M'))) σ H' O' (fset Fp 0 G) where
  nms := ⟨fun i a hi h => by
      have hi0 : i ≠ 0 := fun z => by subst z; exact absurd hi (by decide)
      rw [fset_ne hi0] at h
      cases q : O'.nm a with
      | none => rfl
      | some n =>
        rcases hn' a n q with z | z
        · rw [r.nms.un i a hi h] at z; cases z
        · exact absurd h (z.2 i), r.nms.hw, fun o _ h => (by
      have hl0 : 0 < env.length := (List.getElem?_eq_some_iff.mp (hmOf_some he)).1
      rw [List.getElem?_set_self hl0] at h
      cases h; exact hl), fun a n h => by
      rcases hn' a n h with z | z
      · exact r.nms.nn a n z
      · exact .inr ⟨z.1, by decide⟩, r.nms.dz⟩
  len := by rw [List.length_set]; exact r.len
  slot := fun j sd h => by
    have hl0 : 0 < env.length := (List.getElem?_eq_some_iff.mp (hmOf_some he)).1
    by_cases e : j = 0
    · subst e
      rw [List.getElem?_set_self hl0] at h
      cases h
      obtain ⟨v, h1, _⟩ := r.slot 0 _ (hmOf_some he)
      exact ⟨v, h1, by rw [fset_same]; exact ho⟩
    · rw [List.getElem?_set_ne (Ne.symm e)] at h
      obtain ⟨u, q1, q2⟩ := r.slot j sd h
      refine ⟨u, q1, ?_⟩
      rw [fset_ne e]
      refine q2.mono x fun a z => ?_
      have n : a ∉ G := fun y => by
        rcases hG a y with w | w
        · exact e (r.dis j 0 a z w)
        · exact w.2.2 j z
      cases w : H a with
      | none => exact absurd w (q2.there z)
      | some o => exact hk a n o w
  own := fun j a h => by
    by_cases e : j = 0
    · subst e; rw [fset_same] at h
      rcases hG a h with z | z
      · exact hO a (r.own 0 a z)
      · exact z.1
    · rw [fset_ne e] at h; exact hO a (r.own j a h)
  dis := fun j k a h1 h2 => by
    by_cases e : j = 0
    · subst e
      rw [fset_same] at h1
      by_cases e2 : k = 0
      · exact e2.symm
      · rw [fset_ne e2] at h2
        rcases hG a h1 with z | z
        · exact r.dis 0 k a z h2
        · exact absurd h2 (z.2.2 k)
    · rw [fset_ne e] at h1
      by_cases e2 : k = 0
      · subst e2
        rw [fset_same] at h2
        rcases hG a h2 with z | z
        · exact r.dis j 0 a h1 z
        · exact absurd h1 (z.2.2 j)
      · rw [fset_ne e2] at h2; exact r.dis j k a h1 h2
  mine := fun j a h => by
    by_cases e : j = 0
    · subst e; rw [fset_same] at h
      rcases hG a h with z | z
      · exact r.mine 0 a z
      · exact .inr z.2.1
    · rw [fset_ne e] at h; exact r.mine j a h
  sub := fun a h => hO a (r.sub a h)
  new := fun a h => (hO' a h).elim (r.new a) fun z => .inr (r.fresh z)
  all := ha
  keep := fun a o h q => by
    refine hk0 a (by rw [h]; intro z; cases z) (fun z => ?_) o (r.keep a o h q)
    rcases r.mine 0 a z with w | w
    · exact q 0 w
    · rw [w] at h; cases h
  fix := r.fix
  pinned := r.pinned
  pin := r.pin
  base := r.base
  pw := r.pw
/-! ### a new name -/
open Classical in
/-- one of the owned is named n -/
noncomputable def nmO (O : Ow) (p : Addr) (n : Nat) (h : ∀ a, O.nm a ≠ some n) (ho : O p) : Ow where
  own := O.own
  nm := fun a => if a = p then some n else O.nm a
  inj := fun a b m h1 h2 => by
    by_cases e1 : a = p
    · rw [if_pos e1] at h1; cases h1
      by_cases e2 : b = p
      · rw [e1, e2]
      · rw [if_neg e2] at h2; exact absurd h2 (h b)
    · rw [if_neg e1] at h1
      by_cases e2 : b = p
      · rw [if_pos e2] at h2; cases h2; exact absurd h1 (h a)
      · rw [if_neg e2] at h2; exact O.inj a b m h1 h2
  sub := fun a m h1 => by
    by_cases e1 : a = p
    · rw [e1]; exact ho
    · rw [if_neg e1] at h1; exact O.sub a m h1
theorem nmO_p {n : Nat} {h : ∀ a, O.nm a ≠ some n} {ho : O p} : (nmO O p n h ho).nm p = some n := by unfold nmO; dsimp only; rw [if_pos rfl]
theorem nmO_ne {n : Nat} {h : ∀ a, O.nm a ≠ some n} {ho : O p} {a : Addr} (e : a ≠ p) : (nmO O p n h ho).nm a = O.nm a := by unfold nmO; dsimp only; rw [if_neg e]
theorem nmO_ex {n : Nat} {h : ∀ a, O.nm a ≠ some n} {ho : O p} (hu : O.nm p = none) : Ex (vw O H) (vw (nmO O p n h ho) H) := fun a o e => by
  by_cases q : a = p
  · subst q; rw [vw_in ⟨ho, hu⟩] at e; cases e
  · rcases vw_cases (O := O) (a := a) with ⟨m, z, e1⟩ | ⟨z, e1⟩ | ⟨z, e1⟩
    · rw [e1] at e; rw [vw_nm ((nmO_ne q).trans z)]; exact e
    · rw [e1] at e; cases e
    · rw [e1] at e; rw [vw_out (O := nmO O p n h ho) z]; exact e
/-- an own thing of no slot is named -/
theorem Rel.nameG (r : Rel K W F env σ H O Fp) {M : Hm} (he : hmOf env = some M) {c : Cell} {G : List Addr} (hu : O.un p) (h0 : F.H0 p = none) (hp : ∀ j, p ∉ Fp j) (hGp : p ∈ G) (hG : ∀ a ∈ G, O a ∧ F.H0 a = none ∧ ∀ j, a ∉ Fp j)
    (hc : ∀ Hv, Ex (vw O H) Hv → CellR K Hv H G p c) : ∃ (h : ∀ a, O.nm a ≠ some (M.c.length)),
    Rel K W F (env.set 0 (some (.ob ⟨M.c ++ [c]⟩))) σ H (nmO O p (M.c.length) h hu.1) (fset Fp 0 (G ++ Fp 0)) ∧ Ex (vw O H) (vw (nmO O p (M.c.length) h hu.1) H) ∧ (vw (nmO O p (M.c.length) h hu.1) H) p = some (mkN (M.c.length)) := by
  have hlt := r.nms.lt M (by decide) (hmOf_some he)
  have h : ∀ a, O.nm a ≠ some (M.c.length) := fun a z => Nat.lt_irrefl _ (hlt a _ z)
  have x := nmO_ex (H := H) (h := h) (ho := hu.1) hu.2
  refine ⟨h, ?_, x, vw_nm nmO_p⟩
  obtain ⟨_, _, q⟩ := r.slot 0 _ (hmOf_some he)
  have q : HmR K (vw O H) H (Fp 0) M := q
  refine r.putH he (fun a n z => ?_) (fun a n z => ?_) (fun a z => z) (fun a z => .inl z) (fun a z => List.mem_append_right _ z) (fun a z => ?_) (fun a _ o z => z) (fun a _ _ o z => z) r.all (fun a n z => ?_) x ⟨fun n c' z => ?_, fun a z => ?_⟩
  · by_cases e : a = p
    · subst e; rw [hu.2] at z; cases z
    · rw [nmO_ne e]; exact z
  · by_cases e : a = p
    · subst e; exact .inr ⟨h0, hp⟩
    · rw [nmO_ne e] at z; exact .inl z
  · rcases List.mem_append.mp z with z | z
    · exact .inr (hG a z)
    · exact .inl z
  · show n < (M.c ++ [c]).length
    rw [List.length_append]
    by_cases e : a = p
    · subst e; rw [nmO_p] at z; cases z; simp
    · rw [nmO_ne e] at z; have := hlt a n z; have : n < M.c.length := this; omega
  · have z : (M.c ++ [c])[n]? = some c' := z
    by_cases hn : n < M.c.length
    · rw [List.getElem?_append_left hn] at z
      obtain ⟨a, h1, h2, h3⟩ := q.at_ n c' z
      exact ⟨a, x _ _ h1, List.mem_append_right _ h2, h3.mono x h2 (fun b y => List.mem_append_right _ y) fun _ _ => rfl⟩
    · have hn2 : n = M.c.length := by
        have := (List.getElem?_eq_some_iff.mp z).1
        rw [List.length_append] at this
        have : n < M.c.length + 1 := this
        omega
      subst hn2
      rw [List.getElem?_append_right (Nat.le_refl _), Nat.sub_self] at z
      cases z
      exact ⟨p, vw_nm nmO_p, List.mem_append_left _ hGp, (hc _ x).mono (Ex.refl _) hGp (fun b y => List.mem_append_left _ y) fun _ _ => rfl⟩
  · rcases List.mem_append.mp z with z | z
    · exact r.all a (hG a z).1
    · exact q.all a z
/-- a named list is another one now -/
theorem Rel.setC (r : Rel K W F env σ H O Fp) {M : Hm} (he : hmOf env = some M) {n : Nat} {c c' : Cell} {a : Addr} (hc : M.c[n]? = some c) (hnm : O.nm a = some n) (haF : a ∈ Fp 0) {o : HO}
    (hc' : ∀ Hv, Ex (vw O H) Hv → CellR K Hv (upd H a o) (Fp 0) a c') (hins : ∀ C dx fs, H a = some (.ins C dx fs) → ∃ fs', o = .ins C dx fs') (hown : ∀ b, H a ≠ some (.own b)) :
    Rel K W F (env.set 0 (some (.ob ⟨M.c.set n c'⟩))) σ (upd H a o) O (fset Fp 0 (Fp 0)) ∧ vw O (upd H a o) = vw O H := by
  have hO : O a := r.own 0 a haF
  have ev : vw O (upd H a o) = vw O H := vw_upd_own hO
  obtain ⟨_, _, q⟩ := r.slot 0 _ (hmOf_some he)
  have q : HmR K (vw O H) H (Fp 0) M := q
  have hlt := r.nms.lt M (by decide) (hmOf_some he)
  refine ⟨r.putH he (fun _ _ z => z) (fun _ _ z => .inl z) (fun _ z => z) (fun _ z => .inl z) (fun _ z => z) (fun _ z => .inl z) (fun b hb u z => ?_) (fun b _ hb u z => ?_) (fun b z => ?_) (fun b m z => ?_) (by rw [ev]; exact Ex.refl _) ⟨fun m d z => ?_, fun b z => ?_⟩, ev⟩
  · rw [upd_ne (fun e => hb (by rw [e]; exact haF))]; exact z
  · rw [upd_ne (fun e => hb (by rw [e]; exact haF))]; exact z
  · by_cases e : b = a
    · rw [e, upd_same]; intro w; cases w
    · rw [upd_ne e]; exact r.all b z
  · show m < (M.c.set n c').length
    rw [List.length_set]; exact hlt b m z
  · rw [ev]
    by_cases e : m = n
    · subst e
      rw [List.getElem?_set_self (List.getElem?_eq_some_iff.mp hc).1] at z
      cases z
      exact ⟨a, vw_nm hnm, haF, hc' _ (Ex.refl _)⟩
    · have z : (M.c.set n c')[m]? = some d := z
      rw [List.getElem?_set_ne (Ne.symm e)] at z
      obtain ⟨b, h1, h2, h3⟩ := q.at_ m d z
      have hba : b ≠ a := fun y => by
        subst y
        have := vw_name h1
        rw [hnm] at this; cases this; exact e rfl
      refine ⟨b, h1, h2, ?_⟩
      cases d with
      | lst l => obtain ⟨xs, g1, g2⟩ := h3; exact ⟨xs, by rw [upd_ne hba]; exact g1, g2⟩
      | dct es => obtain ⟨kvs, g1, g2⟩ := h3; exact ⟨kvs, by rw [upd_ne hba]; exact g1, g2⟩
      | fdct es => obtain ⟨o, kvs, g1, g2⟩ := h3; exact ⟨o, kvs, by rw [upd_ne hba]; exact g1, g2⟩
      | obj cc fs =>
        obtain ⟨dx, vs, g1, g2, g3, g4⟩ := h3
        refine ⟨dx, vs, by rw [upd_ne hba]; exact g1, ?_, g3, g4⟩
        rw [upd_ne (fun y => hown b (by rw [← y]; exact g2))]; exact g2
  · by_cases e : b = a
    · rw [e, upd_same]; intro w; cases w
    · rw [upd_ne e]; exact q.all b z
end
end Ve

set_option Elab.async false
set_option linter.all false
set_option maxRecDepth 100000
set_option maxHeartbeats 4000000
/-! Texts: methods, text * number; a written dict; list(range(..)). -/
namespace Ve
open PySem PySem.Spec PyProof.Rows L2 Evl Ny
/-! ### text * number -/
def repS (x : Str) (n : Nat) : Str := ⟨(List.replicate n x.cps).foldl (· ++ ·) #[]⟩
def rMulS : R2 := fun x y H Q => ∃ a n, x = .str a ∧ y = .int n ∧ 0 ≤ n ∧ n ≤ 100000 ∧ a.length ≤ 10 ∧ Q (.str (repS a n.toNat)) H
theorem repS_zero {a : Str} : repS a 0 = Str.empty := rfl
theorem repS_one {a : Str} : repS a 1 = a := by
  show (⟨#[] ++ a.cps⟩ : Str) = a
  rw [Array.empty_append]
theorem foldl_emp (n : Nat) : (List.replicate n (#[] : Array Nat)).foldl (· ++ ·) #[] = #[] := by
  induction n with
  | zero => rfl
  | succ n ih => rw [List.replicate_succ, List.foldl_cons]; exact ih
theorem size_rep1 (x : Array Nat) : ∀ (n : Nat) (b : Array Nat), ((List.replicate n x).foldl (· ++ ·) b).size = b.size + n * x.size
  | 0, b => by simp
  | n + 1, b => by rw [List.replicate_succ, List.foldl_cons, size_rep1 x n, Array.size_append, Nat.add_mul]; omega
theorem size_rep0 (x : Array Nat) (n : Nat) : ((List.replicate n x).foldl (· ++ ·) #[]).size = n * x.size := by rw [size_rep1]; simp
theorem repS_emp {a : Str} (n : Nat) (h : a.length = 0) : repS a n = a := by
  have e : a.cps = #[] := Array.eq_empty_of_size_eq_zero h
  unfold repS
  rw [e, foldl_emp]
  cases a; simp only at e; rw [e]
theorem op_mulS {X : Cx} : OpR X (binaryOp .Mult) rMulS := by
  intro pins s σ H x y v u Q I rx ry h
  obtain ⟨a, n, rfl, rfl, h0, h1, hl, q⟩ := h
  obtain ⟨t, rfl⟩ := rx
  obtain ⟨t', rfl⟩ := ry
  have hbig : a.length * n.toNat ≤ 1000000 := Nat.mul_le_mul hl (show n.toNat ≤ 100000 by omega)
  refine PySem.P.mul_str ?_ ?_ ?_ ?_
  · rw [decide_eq_false (by omega), decide_eq_false (by omega)]; rfl
  · intro hn _ hz
    have : (92233720368547 : Int) ≤ (2 ^ 63 - 1) / n := (Int.le_ediv_iff_mul_le (by omega)).mpr (Int.le_trans (Int.mul_le_mul_of_nonneg_left h1 (by decide)) (by decide))
    omega
  · intro _ _
    unfold Builtin.Str.tooLong
    refine decide_eq_false (Nat.not_lt.mpr (Nat.le_trans hbig (by decide)))
  · have q' : Q (.str (repS a n.toNat)) H := q
    by_cases hn : n < 1
    · rw [if_pos hn]
      have e : n.toNat = 0 := by omega
      rw [e, repS_zero] at q'
      exact ⟨by decide, ⟨.str _, H, I.tok _, ⟨_, rfl⟩, q'⟩⟩
    · rw [if_neg hn]
      by_cases hz : (n == 1 || a.length == 0) = true
      · rw [if_pos hz]
        have e : repS a n.toNat = a := by
          rcases Bool.or_eq_true_iff.mp hz with z | z
          · have : n = 1 := eq_of_beq z
            rw [this]; exact repS_one
          · exact repS_emp _ (eq_of_beq z)
        rw [e] at q'
        exact ⟨.str a, H, I, ⟨_, rfl⟩, q'⟩
      · rw [if_neg hz]
        refine ⟨?_, ⟨.str _, H, I.tok _, ⟨_, rfl⟩, q'⟩⟩
        have e : (repS a n.toNat).length = n.toNat * a.length := by
          show ((List.replicate n.toNat a.cps).foldl (· ++ ·) #[]).size = n.toNat * a.cps.size
          exact size_rep0 _ _
        show (repS a n.toNat).length ≤ _
        rw [e, Nat.mul_comm]; exact Nat.le_trans hbig (by decide)
def dMulS : D → D → Option D
  | .str a, .int n => if 0 ≤ n ∧ n ≤ 100000 ∧ a.length ≤ 10 then some (.str (repS a n.toNat)) else none
  | _, _ => none
section
variable {K : PySem.W.Frag}
instance : SatR2 K rMulS dMulS := ⟨fun O x y d e z H Q hO hx hy hf hq => by
  unfold dMulS at hf
  split at hf
  · split at hf
    · rename_i h
      cases hf; cases hx; cases hy
      exact ⟨_, _, rfl, rfl, h.1, h.2.1, h.2.2, hq _ H (Ex.refl _) (.str _)⟩
    · cases hf
  · cases hf⟩
end
/-! ### methods of texts -/
def rPart : V → List V → Hp → VK → Prop := fun x xs H Q => ∃ a b, x = .str a ∧ xs = [.str b] ∧ (b.length == 0) = false ∧ a.length ≤ sizeLine ∧
      ∀ p, H p = none → Q (.ref p) (upd H p (.tup [.str (Txt.partition a b).1, .str (Txt.partition a b).2.1, .str (Txt.partition a b).2.2]))
def rSplit : V → List V → Hp → VK → Prop := fun x xs H Q => ∃ a b, x = .str a ∧ xs = [.str b] ∧ (b.length == 0) = false ∧ a.length + 2 ≤ sizeLine ∧ rNewStrs (Txt.split a b) H Q
def rJoin (K : PySem.W.Frag) : V → List V → Hp → VK → Prop := fun x xs H Q => ∃ a p, ∃ ys : List Str, x = .str a ∧ xs = [.ref p] ∧ (SqL K H p (ys.map V.str) ∨ SqT K H p (ys.map V.str)) ∧
      (ys.map (·.length)).sum + ys.length * a.length ≤ 16777216 ∧ Q (.str (Txt.join a ys)) H
def rStripC : V → List V → Hp → VK → Prop := fun x xs H Q => ∃ a b, x = .str a ∧ xs = [.str b] ∧ a.length ≤ sizeLine ∧ Q (.str (Txt.stripChars a b)) H
def rStarts : V → List V → Hp → VK → Prop := fun x xs H Q => ∃ a b, x = .str a ∧ xs = [.str b] ∧ Q (.bl (Txt.startswith a b)) H
def rUpper : V → List V → Hp → VK → Prop := fun x xs H Q => ∃ a, x = .str a ∧ xs = [] ∧ a.length ≤ 5592405 ∧ Q (.str (Txt.upper a)) H
section
variable {X : Cx} {o e : Expr} {to te : TE} {apos pos : Pos}
theorem pv_part (ho : PE X o to) (he : PE X e te) (hs : starEach [e] X.env = [(false, eval e X.env)] := by rfl) (hbase : attributeBase o "partition" X.env (eval o X.env) = eval o X.env := by rfl) (hline : (apos.endLine == pos.line) = true := by rfl) :
    PE X (.Call (.Attribute o "partition" apos) [e] [] pos) (tM1 rPart to te) := pe_m1 F.slot_str_partition F.type_str_partition mt_partition ho he hs hbase hline
theorem pv_split (ho : PE X o to) (he : PE X e te) (hs : starEach [e] X.env = [(false, eval e X.env)] := by rfl) (hbase : attributeBase o "split" X.env (eval o X.env) = eval o X.env := by rfl) (hline : (apos.endLine == pos.line) = true := by rfl) :
    PE X (.Call (.Attribute o "split" apos) [e] [] pos) (tM1 rSplit to te) := pe_m1 F.slot_str_split F.type_str_split mt_split ho he hs hbase hline
theorem pv_join (ho : PE X o to) (he : PE X e te) (hs : starEach [e] X.env = [(false, eval e X.env)] := by rfl) (hbase : attributeBase o "join" X.env (eval o X.env) = eval o X.env := by rfl) (hline : (apos.endLine == pos.line) = true := by rfl) :
    PE X (.Call (.Attribute o "join" apos) [e] [] pos) (tM1 (rJoin X.K) to te) := pe_m1 F.slot_str_join F.type_str_join mt_join ho he hs hbase hline
theorem pv_joinK (K : PySem.W.Frag) (ho : PE X o to) (he : PE X e te) (hK : X.K = K := by rfl) (hs : starEach [e] X.env = [(false, eval e X.env)] := by rfl) (hbase : attributeBase o "join" X.env (eval o X.env) = eval o X.env := by rfl) (hline : (apos.endLine == pos.line) = true := by rfl) :
    PE X (.Call (.Attribute o "join" apos) [e] [] pos) (tM1 (rJoin K) to te) := by subst hK; exact pv_join ho he hs hbase hline
theorem pv_strip (ho : PE X o to) (he : PE X e te) (hs : starEach [e] X.env = [(false, eval e X.env)] := by rfl) (hbase : attributeBase o "strip" X.env (eval o X.env) = eval o X.env := by rfl) (hline : (apos.endLine == pos.line) = true := by rfl) :
    PE X (.Call (.Attribute o "strip" apos) [e] [] pos) (tM1 rStripC to te) := pe_m1 F.slot_str_strip F.type_str_strip mt_stripChars ho he hs hbase hline
theorem pv_starts (ho : PE X o to) (he : PE X e te) (hs : starEach [e] X.env = [(false, eval e X.env)] := by rfl) (hbase : attributeBase o "startswith" X.env (eval o X.env) = eval o X.env := by rfl) (hline : (apos.endLine == pos.line) = true := by rfl) :
    PE X (.Call (.Attribute o "startswith" apos) [e] [] pos) (tM1 rStarts to te) := pe_m1 F.slot_str_startswith F.type_str_startswith mt_startswith ho he hs hbase hline
theorem pv_upper (ho : PE X o to) (hbase : attributeBase o "upper" X.env (eval o X.env) = eval o X.env := by rfl) (hline : (apos.endLine == pos.line) = true := by rfl) :
    PE X (.Call (.Attribute o "upper" apos) [] [] pos) (tM0 rUpper to) := pe_m0 F.slot_str_upper F.type_str_upper mt_upper ho hbase hline
end
/-- a method by values -/
class SatRM (K : PySem.W.Frag) (r : V → List V → Hp → VK → Prop) (f : outParam (D → List D → Option D)) : Prop where
  go : ∀ (O : Ow) x xs d ds z H Q, (∀ a, O a → H a ≠ none) → Rp K (vw O H) x d → RpAll K (vw O H) xs ds → f d ds = some z → (∀ v H', Ex H H' → Rp K (vw O H') v z → Q v H') → r x xs H Q
def isStr : D → Bool
  | .str _ => true
  | _ => false
def eM0 {Ω : Type} (f : D → List D → Option D) (a : Env Ω → Res Ω D) (env : Env Ω) : Res Ω D := (a env).bind fun x e1 => if isStr x = true then (match f x [] with
  | some z => .ok z e1
  | none => .bad) else .bad
def eM1 {Ω : Type} (f : D → List D → Option D) (a b : Env Ω → Res Ω D) (env : Env Ω) : Res Ω D := (a env).bind fun x e1 => if isStr x = true then (b e1).bind (fun y e2 => match f x [y] with
  | some z => .ok z e2
  | none => .bad) else .bad
section
variable {Ω : Type} [ObS Ω] {K : PySem.W.Frag} {W : Wd} {wx : WX}
theorem isStr_of {H : Hp} {v : V} {d : D} (h : Rp K H v d) (e : isStr d = true) : ∃ a, v = .str a := by
  cases h <;> first | exact ⟨_, rfl⟩ | cases e
instance {r : V → List V → Hp → VK → Prop} {f : D → List D → Option D} {ta : TE} {a : Env Ω → Res Ω D} [S : SatRM K r f] [A : SatE K W wx ta a] : SatE K W wx (tM0 r ta) (eM0 f a) := ⟨fun F env σ H O Fp Q rl h => by
  refine A.thn rl ((post_bind h).mono (Ex.refl _) fun x e1 h v1 H1 O1 Fp1 r1 x1 q1 => ?_)
  by_cases hs : isStr x = true
  · rw [if_pos hs] at h
    have h2 := EPost.mono (O1 := O1) (H1 := H1) h x1
    obtain ⟨z, hz, hq⟩ := epost_opt (wx := wx) r1 h2
    exact ⟨isStr_of q1 hs, S.go O1 v1 [] x [] z H1 Q r1.all q1 .nil hz hq⟩
  · rw [if_neg hs] at h; exact h.elim⟩
instance {r : V → List V → Hp → VK → Prop} {f : D → List D → Option D} {ta tb : TE} {a b : Env Ω → Res Ω D} [S : SatRM K r f] [A : SatE K W wx ta a] [B : SatE K W wx tb b] : SatE K W wx (tM1 r ta tb) (eM1 f a b) := ⟨fun F env σ H O Fp Q rl h => by
  refine A.thn rl ((post_bind h).mono (Ex.refl _) fun x e1 h v1 H1 O1 Fp1 r1 x1 q1 => ?_)
  by_cases hs : isStr x = true
  · rw [if_pos hs] at h
    refine ⟨isStr_of q1 hs, ?_⟩
    refine B.thn r1 ((post_bind h).mono x1 fun y e2 h v2 H2 O2 Fp2 r2 x2 q2 => ?_)
    have h2 := EPost.mono (O1 := O2) (H1 := H2) h (x1.trans x2)
    obtain ⟨z, hz, hq⟩ := epost_opt (wx := wx) r2 h2
    exact S.go O2 v1 [v2] x [y] z H2 Q r2.all (q1.mono x2) (.cons q2 .nil) hz hq
  · rw [if_neg hs] at h; exact h.elim⟩
end
def strsOf : List D → Option (List Str)
  | [] => some []
  | .str x :: r => (strsOf r).map fun l => x :: l
  | _ :: _ => none
theorem strsOf_map : ∀ {ys : List Str}, strsOf (ys.map PyData.str) = some ys
  | [] => rfl
  | x :: ys => by
    show Option.map _ (strsOf (ys.map PyData.str)) = _
    rw [strsOf_map]; rfl
def dPart : D → List D → Option D
  | .str a, [.str b] => if (b.length == 0) = false ∧ a.length ≤ 1000000 then some (.tuple [.str (Txt.partition a b).1, .str (Txt.partition a b).2.1, .str (Txt.partition a b).2.2]) else none
  | _, _ => none
def dSplit : D → List D → Option D
  | .str a, [.str b] => if (b.length == 0) = false ∧ a.length ≤ 1000000 then some (.list ((Txt.split a b).map PyData.str)) else none
  | _, _ => none
def dJoinL (a : Str) (l : List D) : Option D := match strsOf l with
  | some ys => if (ys.map (·.length)).sum + ys.length * a.length ≤ 16777216 then some (.str (Txt.join a ys)) else none
  | none => none
def dJoin : D → List D → Option D
  | .str a, [.list l] => dJoinL a l
  | .str a, [.tuple l] => dJoinL a l
  | _, _ => none
def dStripC : D → List D → Option D
  | .str a, [.str b] => if a.length ≤ 1000000 then some (.str (Txt.stripChars a b)) else none
  | _, _ => none
def dStarts : D → List D → Option D
  | .str a, [.str b] => some (.bool (Txt.startswith a b))
  | _, _ => none
def dUpper : D → List D → Option D
  | .str a, [] => if a.length ≤ 1000000 then some (.str (Txt.upper a)) else none
  | _, _ => none
section
variable {K : PySem.W.Frag}
theorem rp_strs {H : Hp} : ∀ {ys : List Str}, RpAll K H (ys.map V.str) (ys.map PyData.str)
  | [] => .nil
  | x :: ys => .cons (.str x) rp_strs
theorem strs_rp {H : Hp} : ∀ {l : List D} {vs : List V} {ys : List Str}, RpAll K H vs l → strsOf l = some ys → vs = ys.map V.str
  | [], _, _, h, e => by cases h; cases e; rfl
  | d :: l, _, ys, h, e => by
    cases h with
    | cons h1 h2 =>
      cases d <;> first | cases e | skip
      rename_i x
      have e : Option.map (fun l => x :: l) (strsOf l) = some ys := e
      cases q : strsOf l with
      | none => rw [q] at e; cases e
      | some zs =>
        rw [q] at e; cases e
        rw [strs_rp h2 q, h1.str']; rfl
instance : SatRM K rPart dPart := ⟨fun O x xs d ds z H Q hO hx hxs hf hq => by
  unfold dPart at hf
  split at hf
  · split at hf
    · rename_i h
      cases hf; cases hx
      obtain ⟨v, rfl, q⟩ := rpAll1 hxs
      cases q
      refine ⟨_, _, rfl, rfl, h.1, Nat.le_trans h.2 (by decide), fun p hp => ?_⟩
      exact hq _ _ (Ex.new hp) (.tup (.of (vw_new (fun z => hO p z hp) hp)) (.cons (.str _) (.cons (.str _) (.cons (.str _) .nil))))
    · cases hf
  · cases hf⟩
instance : SatRM K rSplit dSplit := ⟨fun O x xs d ds z H Q hO hx hxs hf hq => by
  unfold dSplit at hf
  split at hf
  · split at hf
    · rename_i h
      cases hf; cases hx
      obtain ⟨v, rfl, q⟩ := rpAll1 hxs
      cases q
      refine ⟨_, _, rfl, rfl, h.1, Nat.le_trans (Nat.add_le_add_right h.2 2) (by decide), fun p hp => ?_⟩
      exact hq _ _ (Ex.new hp) (.lst (.of (vw_new (fun z => hO p z hp) hp)) rp_strs)
    · cases hf
  · cases hf⟩
instance : SatRM K (rJoin K) dJoin := ⟨fun O x xs d ds z H Q hO hx hxs hf hq => by
  unfold dJoin at hf
  split at hf
  · cases hx
    obtain ⟨v, rfl, q⟩ := rpAll1 hxs
    obtain ⟨a, us, rfl, h1, h2⟩ := q.lst'
    unfold dJoinL at hf
    split at hf
    · rename_i ys e
      split at hf
      · rename_i hl
        cases hf
        obtain rfl := strs_rp h2 e
        exact ⟨_, _, ys, rfl, rfl, .inl (vw_l h1), hl, hq _ H (Ex.refl _) (.str _)⟩
      · cases hf
    · cases hf
  · cases hx
    obtain ⟨v, rfl, q⟩ := rpAll1 hxs
    obtain ⟨a, us, rfl, h1, h2⟩ := q.tup'
    unfold dJoinL at hf
    split at hf
    · rename_i ys e
      split at hf
      · rename_i hl
        cases hf
        obtain rfl := strs_rp h2 e
        exact ⟨_, _, ys, rfl, rfl, .inr (vw_t h1), hl, hq _ H (Ex.refl _) (.str _)⟩
      · cases hf
    · cases hf
  · cases hf⟩
instance : SatRM K rStripC dStripC := ⟨fun O x xs d ds z H Q hO hx hxs hf hq => by
  unfold dStripC at hf
  split at hf
  · split at hf
    · rename_i h
      cases hf; cases hx
      obtain ⟨v, rfl, q⟩ := rpAll1 hxs
      cases q
      exact ⟨_, _, rfl, rfl, Nat.le_trans h (by decide), hq _ H (Ex.refl _) (.str _)⟩
    · cases hf
  · cases hf⟩
instance : SatRM K rStarts dStarts := ⟨fun O x xs d ds z H Q hO hx hxs hf hq => by
  unfold dStarts at hf
  split at hf
  · cases hf; cases hx
    obtain ⟨v, rfl, q⟩ := rpAll1 hxs
    cases q
    exact ⟨_, _, rfl, rfl, hq _ H (Ex.refl _) (.bl _)⟩
  · cases hf⟩
instance : SatRM K rUpper dUpper := ⟨fun O x xs d ds z H Q hO hx hxs hf hq => by
  unfold dUpper at hf
  split at hf
  · split at hf
    · rename_i h
      cases hf; cases hx
      obtain rfl := hxs.nil2
      exact ⟨_, rfl, rfl, Nat.le_trans h (by decide), hq _ H (Ex.refl _) (.str _)⟩
    · cases hf
  · cases hf⟩
end
/-! ### {k: v}, of a name and a written thing -/
section
variable {Ω : Type} [ObS Ω]
/-- a reading that changes nothing -/
class SatAt (K : PySem.W.Frag) (t : TE) (m : outParam (Env Ω → Option D)) : Prop where
  go : ∀ (W : Wd) (F : Fr) (env : Env Ω) (σ : L2.St) (H : Hp) (O : Ow) (Fp : Nat → List Addr) d, Rel K W F env σ H O Fp → m env = some d → ∃ v, Rp K (vw O H) v d ∧ ∀ H1 Q, Q v H1 → t (vis Ω σ) H1 Q
def adV (i : Nat) (env : Env Ω) : Option D := match env[i]? with
  | some (some (.val d)) => some d
  | _ => none
def adC (d : D) (env : Env Ω) : Option D := some d
variable {K : PySem.W.Frag} {W : Wd} {wx : WX}
instance {i j : Nat} [x : Ix Ω i j] : SatAt (Ω := Ω) K (tVar i) (adV j) := ⟨fun W F env σ H O Fp d r h => by
  unfold adV at h
  split at h
  · rename_i e
    cases h
    obtain ⟨v, hv, _, q⟩ := r.slot j _ e
    exact ⟨v, q, fun H1 Q hq => ⟨v, (vis_get x).trans hv, hq⟩⟩
  · cases h⟩
instance {i : Int} : SatAt (Ω := Ω) K (tC (.int i)) (adC (.int i)) := ⟨fun W F env σ H O Fp d r h => by cases h; exact ⟨_, .int i, fun H1 Q hq => hq⟩⟩
instance {x : Str} : SatAt (Ω := Ω) K (tC (.str x)) (adC (.str x)) := ⟨fun W F env σ H O Fp d r h => by cases h; exact ⟨_, .str x, fun H1 Q hq => hq⟩⟩
def oDisp1 (a b : Env Ω → Option D) (env : Env Ω) : Res Ω (SD Ω) := match a env, b env with
  | some k, some v => if (keyD k).isSome = true then .ok (.dct [(k, v)]) env else .bad
  | _, _ => .bad
instance {tk tv : TE} {a b : Env Ω → Option D} [A : SatAt K tk a] [B : SatAt K tv b] : SatO K W wx (tDisp [(tk, tv)]) (oDisp1 a b) := ⟨fun F env σ H O Fp Q rl h => by
  unfold oDisp1 at h
  split at h
  · rename_i k v ek ev
    split at h
    · rename_i hk
      obtain ⟨kk, hk⟩ := Option.isSome_iff_exists.mp hk
      obtain ⟨kv, k1, k2⟩ := A.go W F env σ H O Fp k rl ek
      obtain ⟨vv, v1, v2⟩ := B.go W F env σ H O Fp v rl ev
      intro p hp
      refine k2 _ _ (v2 _ _ ⟨upd_same, [(kk, vv)], ?_, (by simp : [(kk, vv)].length ≤ 15), ?_⟩)
      · rw [keyD_v hk k1]; rfl
      · have e : upd (upd H p (HO.dK [])) p (.dK (mergeK [] [(kk, vv)])) = upd H p (.dK [(kk, vv)]) := upd_upd
        rw [e]
        have hO := rl.notO hp
        refine h _ _ (addO O p) Fp [p] (rl.newO hp) (by rw [vw_add hO hp]; exact Ex.refl _) ⟨p, _, rfl, rfl, upd_same, by rw [keyD_some hk]; rfl, by rw [vw_add hO hp]; exact .cons v1 .nil⟩ fun a ha => ?_
        rw [List.mem_singleton.mp ha]
        exact ⟨addO_un hO, rl.fresh hp, fun j z => rl.all p (rl.own j p z) hp⟩
    · exact h.elim
  · exact h.elim⟩
instance {trs : List (TE × TE)} {o : Env Ω → Res Ω (SD Ω)} [A : SatO K W wx (tDisp trs) o] : SatE K W wx (tDisp trs) (eFrz o) := sat_frz inferInstance
/-! ### list(range(n)) -/
def oRg (a : Env Ω → Res Ω D) (env : Env Ω) : Res Ω (SD Ω) := (a env).bind fun d e => match d with
  | .int n => if 0 ≤ n ∧ n ≤ 1000000 then .ok (.lst ((List.range n.toNat).map fun (i : Nat) => PyData.int i)) e else .bad
  | _ => .bad
instance {ta : TE} {a : Env Ω → Res Ω D} [A : SatE K W wx ta a] : SatO K W wx (tLstRg (tRg1 ta)) (oRg a) := ⟨fun F env σ H O Fp Q rl h => by
  refine A.thn rl ((post_bind h).mono (Ex.refl _) fun d e1 h v1 H1 O1 Fp1 r1 x1 q1 => ?_)
  split at h
  · rename_i n
    split at h
    · rename_i hn
      cases q1
      refine ⟨n, rfl, RgOk.of_le (Int.le_refl _) (Int.le_trans hn.2 (by decide)) (by decide) hn.1, fun p hp => ?_⟩
      refine newL r1 x1 ?_ h hp rfl
      unfold rgV
      rw [Int.sub_zero]
      have : ∀ l : List Nat, RpAll K (vw O1 H1) (l.map fun (i : Nat) => V.int (0 + (i : Nat))) (l.map fun (i : Nat) => PyData.int i) := fun l => by
        induction l with
        | nil => exact .nil
        | cons i l ih =>
          refine .cons ?_ ih
          show Rp K _ (V.int (0 + (i : Int))) (.int (i : Int))
          rw [Int.zero_add]; exact .int _
      exact this _
    · exact h.elim
  · exact h.elim⟩
instance {ta : TE} {a : Env Ω → Res Ω D} [A : SatE K W wx ta a] : SatE K W wx (tLstRg (tRg1 ta)) (eFrz (oRg a)) := sat_frz inferInstance
end
end Ve

set_option Elab.async false
set_option linter.all false
set_option maxRecDepth 100000
set_option maxHeartbeats 4000000
/-! Heap mode: slot 0 is the named things; data mode within it; reading through names; named lists changed. -/
namespace Ve
open PySem PySem.Spec PyProof.Rows L2 Evl Ny
/-! ### data mode within heap mode -/
def dnS : SD Hm → Option (SD Empty)
  | .val d => some (.val d)
  | .lst l => some (.lst l)
  | .dct es => some (.dct es)
  | .ob _ => none
def upS : SD Empty → SD Hm
  | .val d => .val d
  | .lst l => .lst l
  | .dct es => .dct es
  | .ob o => o.elim
def dnE : Env Hm → Env Empty
  | [] => []
  | _ :: es => es.map fun x => x.bind dnS
def upE : Env Hm → Env Empty → Env Hm
  | [], _ => []
  | x :: _, e => x :: e.map fun x => x.map upS
def valO : Option (SD Empty) → Bool
  | some s => isVal s
  | none => true
def lowOk : List Bool → Env Empty → Bool
  | _, [] => true
  | [], x :: e => valO x && lowOk [] e
  | b :: l, x :: e => (!b || valO x) && lowOk l e
theorem lowOk_at : ∀ {l : List Bool} {e : Env Empty} {j : Nat} {sd : SD Empty}, lowOk l e = true → e[j]? = some (some sd) → isVal sd = true ∨ wOf l j = false
  | _, [], _, _, _, h => by simp at h
  | [], x :: e, 0, sd, h, q => by
    simp at q; subst q
    simp [lowOk, valO] at h; exact .inl h.1
  | [], x :: e, j + 1, sd, h, q => by
    simp [lowOk] at h
    have := lowOk_at (l := []) (j := j) h.2 (by simpa using q)
    simpa [wOf] using this
  | b :: l, x :: e, 0, sd, h, q => by
    simp at q; subst q
    simp [lowOk, valO] at h
    rcases h.1 with z | z
    · subst z; exact .inr rfl
    · exact .inl z
  | b :: l, x :: e, j + 1, sd, h, q => by
    simp [lowOk] at h
    have := lowOk_at (l := l) (j := j) h.2 (by simpa using q)
    simpa [wOf] using this
def lowRes {α β : Type} (f : α → β) (env : Env Hm) : Res Empty α → Res Hm β
  | .ok a e => .ok (f a) (upE env e)
  | .err c p e => .err c p (upE env e)
  | .bad => .bad
def lowM {α β : Type} (l : List Bool) (f : α → β) (a : Env Empty → Res Empty α) (env : Env Hm) : Res Hm β := if lowOk l (dnE env) = true then lowRes f env (a (dnE env)) else .bad
def eLow (l : List Bool) (a : Env Empty → Res Empty D) : Env Hm → Res Hm D := lowM l (fun x => x) a
def tLowM (l : List Bool) (a : Env Empty → Res Empty Bool) : Env Hm → Res Hm Bool := lowM l (fun x => x) a
def lLow (l : List Bool) (a : Env Empty → Res Empty (List D)) : Env Hm → Res Hm (List D) := lowM l (fun x => x) a
def oLow (l : List Bool) (a : Env Empty → Res Empty (SD Empty)) : Env Hm → Res Hm (SD Hm) := lowM l upS a
def upR : RV Empty → RV Hm
  | .val d => .val d
  | .own s => .own (upS s)
def upF (env : Env Hm) : Flow Empty → Flow Hm
  | .nx e => .nx (upE env e)
  | .bk e => .bk (upE env e)
  | .ct e => .ct (upE env e)
  | .rt r e => .rt (upR r) (upE env e)
  | .err c p e => .err c p (upE env e)
  | .bad => .bad
def bLow (l : List Bool) (m : Env Empty → Flow Empty) (env : Env Hm) : Flow Hm := if lowOk l (dnE env) = true then upF env (m (dnE env)) else .bad
section
variable {K : PySem.W.Frag} {W : Wd} {wx : WX}
variable {F : Fr} {env : Env Hm} {σ : L2.St} {H H' : Hp} {O O' : Ow} {Fp : Nat → List Addr} {l : List Bool} {p : Addr}
theorem hm_cons (r : Rel K W F env σ H O Fp) : ∃ x es ys, env = x :: es ∧ σ = some .non :: ys := by
  have h := r.low 0 (by decide)
  cases σ with
  | nil => cases h
  | cons y ys =>
    rw [List.getElem?_cons_zero] at h; cases h
    cases env with
    | nil => exact absurd r.len (by simp)
    | cons x es => exact ⟨x, es, ys, rfl, rfl⟩
open Classical in
noncomputable def fpL (l : List Bool) (Fp : Nat → List Addr) : Nat → List Addr := fun j => if wOf l j = false then Fp (j + 1) else []
theorem fpL_in {j : Nat} {a : Addr} (h : a ∈ fpL l Fp j) : wOf l j = false ∧ a ∈ Fp (j + 1) := by
  unfold fpL at h
  split at h
  · rename_i q; exact ⟨q, h⟩
  · cases h
def fpU (G : List Addr) (FE : Nat → List Addr) : Nat → List Addr
  | 0 => G
  | j + 1 => FE j
noncomputable abbrev frL (l : List Bool) (H : Hp) (O : Ow) (Fp : Nat → List Addr) (σ : L2.St) : Fr := ⟨H, O, fpL l Fp, σ⟩
theorem low_in {x : Option (SD Hm)} {es : Env Hm} {y : Option V} {ys : L2.St} (r : Rel (Ω := Hm) K W F (x :: es) (y :: ys) H O Fp) (hk : lowOk l (dnE (x :: es)) = true) : Rel (Ω := Empty) K (wOf l) (frL l H O Fp ys) (dnE (x :: es)) ys H O (fpL l Fp) where
  nms := ⟨fun j a _ h => r.nms.un (j + 1) a (Nat.succ_le_succ (Nat.zero_le _)) (fpL_in h).2, fun i h => (Nat.not_lt_zero _ h).elim, fun o => o.elim, fun a n h => .inl h, fun i h => (Nat.not_lt_zero _ h).elim⟩
  len := by
    have := r.len
    simp only [List.length_cons] at this
    show ys.length = (es.map _).length
    rw [List.length_map]; omega
  slot := fun j sd h => by
    have h' : (es[j]?).map (fun x => x.bind dnS) = some (some sd) := by rw [← List.getElem?_map]; exact h
    cases e : es[j]? with
    | none => rw [e] at h'; cases h'
    | some o =>
      rw [e] at h'
      cases o with
      | none => cases h'
      | some s =>
        have h' : dnS s = some sd := by injection h'
        obtain ⟨v, h1, h2⟩ := r.slot (j + 1) s e
        refine ⟨v, h1, ?_⟩
        have hl := lowOk_at hk h
        cases s with
        | val d =>
          cases h'
          refine ⟨?_, h2.2⟩
          unfold fpL
          split
          · exact h2.1
          · rfl
        | ob o => cases h'
        | lst l' =>
          cases h'
          rcases hl with z | z
          · cases z
          · unfold fpL; rw [if_pos z]; exact h2
        | dct l' =>
          cases h'
          rcases hl with z | z
          · cases z
          · unfold fpL; rw [if_pos z]; exact h2
  own := fun j a h => r.own (j + 1) a (fpL_in h).2
  dis := fun i j a h1 h2 => by
    have := r.dis (i + 1) (j + 1) a (fpL_in h1).2 (fpL_in h2).2
    omega
  mine := fun i a h => .inl h
  sub := fun a h => h
  new := fun a h => .inl h
  all := r.all
  keep := fun a o h _ => h
  fix := fun i h => rfl
  pinned := fun i a h => by cases h
  pin := fun j a h => r.own (j + 1) a (fpL_in h).2
  base := r.all
  pw := fun j h => by
    show fpL l Fp j = []
    unfold fpL; rw [if_neg (by rw [h]; decide)]
theorem low_out {x : Option (SD Hm)} {es : Env Hm} {y : Option V} {ys : L2.St} (r : Rel (Ω := Hm) K W F (x :: es) (y :: ys) H O Fp) {e' : Env Empty} {σE : L2.St} {FE : Nat → List Addr} (hf : ∀ j, W (j + 1) = false → σE[j]? = ys[j]?)
    (c : Rel (Ω := Empty) K (wOf l) (frL l H O Fp ys) e' σE H' O' FE) (ex : Ex (vw O H) (vw O' H')) : Rel (Ω := Hm) K W F (upE (x :: es) e') (y :: σE) H' O' (fpU (Fp 0) FE) := by
  have kp : ∀ a ∈ Fp 0, H' a = H a := fun a ha => by
    cases w : H a with
    | none => exact absurd w (r.all a (r.own 0 a ha))
    | some o => exact c.keep a o w fun j z => by have := r.dis 0 (j + 1) a ha (fpL_in z).2; omega
  have mn : ∀ j a, a ∈ FE j → a ∈ Fp (j + 1) ∨ H a = none := fun j a h => (c.mine j a h).imp (fun z => (fpL_in z).2) id
  refine ⟨⟨fun i a hi h => ?_, r.nms.hw, fun o ho h a n q => ?_, fun a n q => ?_, r.nms.dz⟩, ?_, fun i sd h => ?_, fun i a h => ?_, fun i j a h1 h2 => ?_, fun i a h => ?_, fun a h => c.sub a (r.sub a h), fun a h => ?_, c.all, fun a o h q => ?_, fun i h => ?_, r.pinned, r.pin, r.base, r.pw⟩
  · cases i with
    | zero => exact absurd hi (by decide)
    | succ j => exact c.nms.un j a (Nat.zero_le _) h
  · rcases c.nms.nn a n q with z | z
    · exact r.nms.lt o ho h a n z
    · exact absurd z.2 (by decide)
  · rcases c.nms.nn a n q with z | z
    · exact r.nms.nn a n z
    · exact absurd z.2 (by decide)
  · show (y :: σE).length = (x :: e'.map _).length
    rw [List.length_cons, List.length_cons, List.length_map, c.len]
  · cases i with
    | zero =>
      have h : x = some sd := by
        have : (x :: e'.map fun x => x.map upS)[0]? = some (some sd) := h
        rw [List.getElem?_cons_zero] at this; exact Option.some.inj this
      obtain ⟨v, h1, h2⟩ := r.slot 0 sd (by rw [h]; rfl)
      exact ⟨v, h1, h2.mono ex kp⟩
    | succ j =>
      have h : (e'[j]?).map (fun x => x.map upS) = some (some sd) := by
        have : (x :: e'.map fun x => x.map upS)[j + 1]? = some (some sd) := h
        rw [List.getElem?_cons_succ, List.getElem?_map] at this; exact this
      cases e : e'[j]? with
      | none => rw [e] at h; cases h
      | some o =>
        rw [e] at h
        cases o with
        | none => cases h
        | some s =>
          have h : upS s = sd := by injection h with h; injection h
          obtain ⟨v, h1, h2⟩ := c.slot j s e
          refine ⟨v, h1, ?_⟩
          subst h
          cases s with
          | val d => exact h2
          | lst d => exact h2
          | dct d => exact h2
          | ob o => exact o.elim
  · cases i with
    | zero => exact c.sub a (r.own 0 a h)
    | succ j => exact c.own j a h
  · cases i with
    | zero =>
      cases j with
      | zero => rfl
      | succ j =>
        rcases mn j a h2 with z | z
        · exact absurd (r.dis 0 (j + 1) a h1 z) (by omega)
        · exact absurd z (r.all a (r.own 0 a h1))
    | succ i =>
      cases j with
      | zero =>
        rcases mn i a h1 with z | z
        · exact absurd (r.dis 0 (i + 1) a h2 z) (by omega)
        · exact absurd z (r.all a (r.own 0 a h2))
      | succ j => exact congrArg (· + 1) (c.dis i j a h1 h2)
  · cases i with
    | zero => exact r.mine 0 a h
    | succ j =>
      rcases mn j a h with z | z
      · exact r.mine (j + 1) a z
      · exact .inr (r.fresh z)
  · exact (c.new a h).elim (r.new a) fun z => .inr (r.fresh z)
  · refine c.keep a o (r.keep a o h q) fun j z => ?_
    rcases r.mine (j + 1) a (fpL_in z).2 with w | w
    · exact q _ w
    · rw [w] at h; cases h
  · cases i with
    | zero => exact r.fix 0 h
    | succ j =>
      have h1 := r.fix (j + 1) h
      rw [List.getElem?_cons_succ] at h1 ⊢
      rw [hf j h]; exact h1
/-- what an expression of data mode ends with -/
theorem low_post {α β γ : Type} {f : α → β} {x : Option (SD Hm)} {es : Env Hm} {y : Option V} {ys : L2.St} {a : Env Empty → Res Empty α} (r : Rel (Ω := Hm) K W F (x :: es) (y :: ys) H O Fp) {PE : α → Env Empty → Prop} {PH : β → Env Hm → Prop}
    (h : Post PH (Raised K W wx F (y :: ys) H O) (lowM l f a (x :: es))) (hp : ∀ x' e, PH (f x') (upE (x :: es) e) → PE x' e) :
    lowOk l (dnE (x :: es)) = true ∧ Post PE (Raised K (wOf l) wx (frL l H O Fp ys) ys H O) (a (dnE (x :: es))) := by
  unfold lowM at h
  split at h
  · rename_i hk
    refine ⟨hk, ?_⟩
    cases q : a (dnE (x :: es)) with
    | ok x' e => rw [q] at h; exact hp x' e h
    | err c p e =>
      rw [q] at h
      exact fun cls dx H' O' FE c ex k => h cls dx H' O' _ (low_out r (fun _ _ => rfl) c ex) ex k
    | bad => rw [q] at h; exact h.elim
  · exact h.elim
def tLow (l : List Bool) (t : TE) : TE := t
def tLowT (l : List Bool) (t : TT) : TT := t
def tLowA (l : List Bool) (t : TA) : TA := t
def tLowS (l : List Bool) (t : TS) : TS := t
instance {t : TE} {a : Env Empty → Res Empty D} [A : SatE K (wOf l) wx t a] : SatE K W wx (tLow l t) (eLow l a) := ⟨fun F env σ H O Fp Q r h => by
  obtain ⟨x, es, ys, rfl, rfl⟩ := hm_cons r
  obtain ⟨hk, h⟩ := low_post (γ := Unit) (PE := fun d env' => ∀ v H' O' Fp', Rel (Ω := Empty) K (wOf l) (frL l H O Fp ys) env' ys H' O' Fp' → Ex (vw O H) (vw O' H') → Rp K (vw O' H') v d → Q v H') r h
    (fun d e k v H' O' FE c ex q => k v H' O' _ (low_out r (fun _ _ => rfl) c ex) ex q)
  exact A.go _ _ ys H O _ Q (low_in r hk) h⟩
instance {t : TT} {a : Env Empty → Res Empty Bool} [A : SatT K (wOf l) wx t a] : SatT K W wx (tLowT l t) (tLowM l a) := ⟨fun F env σ H O Fp Q r h => by
  obtain ⟨x, es, ys, rfl, rfl⟩ := hm_cons r
  obtain ⟨hk, h⟩ := low_post (γ := Unit) (PE := fun b env' => ∀ H' O' Fp', Rel (Ω := Empty) K (wOf l) (frL l H O Fp ys) env' ys H' O' Fp' → Ex (vw O H) (vw O' H') → Q b H') r h
    (fun d e k H' O' FE c ex => k H' O' _ (low_out r (fun _ _ => rfl) c ex) ex)
  exact A.go _ _ ys H O _ Q (low_in r hk) h⟩
instance {t : TA} {a : Env Empty → Res Empty (List D)} [A : SatL K (wOf l) wx t a] : SatL K W wx (tLowA l t) (lLow l a) := ⟨fun F env σ H O Fp Q r h => by
  obtain ⟨x, es, ys, rfl, rfl⟩ := hm_cons r
  obtain ⟨hk, h⟩ := low_post (γ := Unit) (PE := fun ds env' => ∀ vs H' O' Fp', Rel (Ω := Empty) K (wOf l) (frL l H O Fp ys) env' ys H' O' Fp' → Ex (vw O H) (vw O' H') → RpAll K (vw O' H') vs ds → Q vs H') r h
    (fun d e k v H' O' FE c ex q => k v H' O' _ (low_out r (fun _ _ => rfl) c ex) ex q)
  exact A.go _ _ ys H O _ Q (low_in r hk) h⟩
theorem upS_own {Hv H : Hp} {G : List Addr} {v : V} {s : SD Empty} (h : OwnR K Hv H G v s) : OwnR K Hv H G v (upS s) := by
  cases s with
  | val d => exact h
  | lst d => exact h
  | dct d => exact h
  | ob o => exact o.elim
theorem fresh_up {x : Option (SD Hm)} {es : Env Hm} {y : Option V} {ys : L2.St} (r : Rel (Ω := Hm) K W F (x :: es) (y :: ys) H O Fp) {FE : Nat → List Addr} {a : Addr} (h : O'.un a ∧ H a = none ∧ ∀ j, a ∉ FE j) : O'.un a ∧ F.H0 a = none ∧ ∀ j, a ∉ fpU (Fp 0) FE j :=
  ⟨h.1, r.fresh h.2.1, fun j z => by
    cases j with
    | zero => exact r.all a (r.own 0 a z) h.2.1
    | succ j => exact h.2.2 j z⟩
instance {t : TE} {a : Env Empty → Res Empty (SD Empty)} [A : SatO K (wOf l) wx t a] : SatO K W wx (tLow l t) (oLow l a) := ⟨fun F env σ H O Fp Q r h => by
  obtain ⟨x, es, ys, rfl, rfl⟩ := hm_cons r
  obtain ⟨hk, h⟩ := low_post (γ := Unit) (PE := fun sd env' => ∀ v H' O' Fp' G, Rel (Ω := Empty) K (wOf l) (frL l H O Fp ys) env' ys H' O' Fp' → Ex (vw O H) (vw O' H') → OwnR K (vw O' H') H' G v sd → (∀ a ∈ G, O'.un a ∧ H a = none ∧ ∀ j, a ∉ Fp' j) → Q v H') r h
    (fun d e k v H' O' FE G c ex q hG => k v H' O' _ G (low_out r (fun _ _ => rfl) c ex) ex (upS_own q) (fun b hb => fresh_up r (hG b hb)))
  exact A.go _ _ ys H O _ Q (low_in r hk) h⟩
/-- a body of data mode stores only into what the def may store into -/
class LowW (l l0 : List Bool) : Prop where
  eq : ∀ j, wOf l j = true → wOf l0 j = true
instance {l : List Bool} : LowW l [] := ⟨fun j _ => by simp [wOf]⟩
instance {l l0 : List Bool} {b : Bool} [h : LowW l l0] : LowW (false :: l) (b :: l0) := ⟨fun j q => by
  cases j with
  | zero => cases q
  | succ j => exact h.eq j (by simpa [wOf] using q)⟩
instance {l l0 : List Bool} [h : LowW l l0] : LowW (true :: l) (true :: l0) := ⟨fun j q => by
  cases j with
  | zero => rfl
  | succ j => exact h.eq j (by simpa [wOf] using q)⟩
instance {t : TS} {m : Env Empty → Flow Empty} {l0 : List Bool} {b : Bool} [LW : LowW l l0] [A : SatS K (wOf l) wx t m] : SatS K (wOf (b :: l0)) wx (tLowS l t) (bLow l m) := ⟨fun F env σ H O Fp D0 r h => by
  obtain ⟨x, es, ys, rfl, rfl⟩ := hm_cons r
  unfold bLow at h
  split at h
  · rename_i hk
    have fx : ∀ {e' : Env Empty} {σE : L2.St} {H' : Hp} {O' : Ow} {FE : Nat → List Addr}, Rel (Ω := Empty) K (wOf l) (frL l H O Fp ys) e' σE H' O' FE → ∀ j, wOf (b :: l0) (j + 1) = false → σE[j]? = ys[j]? := fun c j hj => by
      refine c.fix j ?_
      cases q : wOf l j with
      | false => rfl
      | true =>
        have := LW.eq j q
        have hj : wOf l0 j = false := by simpa [wOf] using hj
        rw [this] at hj; cases hj
    refine A.go _ _ ys H O _ D0 (low_in r hk) ?_
    cases q : m (dnE (x :: es)) with
    | nx e => rw [q] at h; exact fun σE H' O' FE c ex => h (some .non :: σE) H' O' _ (low_out r (fx c) c ex) ex
    | bk e => rw [q] at h; exact fun σE H' O' FE c ex => h (some .non :: σE) H' O' _ (low_out r (fx c) c ex) ex
    | ct e => rw [q] at h; exact fun σE H' O' FE c ex => h (some .non :: σE) H' O' _ (low_out r (fx c) c ex) ex
    | rt rv e =>
      rw [q] at h
      intro v σE H' O' FE c ex k
      refine h v (some .non :: σE) H' O' _ (low_out r (fx c) c ex) ex ?_
      cases rv with
      | val d => exact k
      | own s =>
        obtain ⟨G, k1, k2⟩ := k
        exact ⟨G, upS_own k1, fun b hb => fresh_up r (k2 b hb)⟩
    | err cc p e => rw [q] at h; exact fun cls dx σE H' O' FE c ex k => h cls dx (some .non :: σE) H' O' _ (low_out r (fx c) c ex) ex k
    | bad => rw [q] at h; exact h.elim
  · exact h.elim⟩
end
end Ve

set_option Elab.async false
set_option linter.all false
set_option maxRecDepth 100000
set_option maxHeartbeats 4000000
/-! Heap mode: reading through names, naming, named lists changed, loops over them, a heap of a def's own. -/
namespace Ve
open PySem PySem.Spec PyProof.Rows L2 Evl Ny
/-! ### nothing named in it -/
mutual
def pureD : D → Bool
  | .list ds => pureDs ds
  | .tuple ds => pureDs ds
  | .dict es => (refOf (.dict es)).isNone && pureEs es
  | _ => true
def pureDs : List D → Bool
  | [] => true
  | d :: ds => pureD d && pureDs ds
def pureEs : List (D × D) → Bool
  | [] => true
  | p :: es => pureP p && pureEs es
def pureP : D × D → Bool
  | (_, d) => pureD d
end
theorem pureEs_map : ∀ {es : List (D × D)}, pureEs es = true → pureDs (es.map (·.2)) = true
  | [], _ => rfl
  | (k, d) :: es, h => by
    simp [pureEs, pureP] at h
    simp [pureDs, h.1, pureEs_map h.2]
theorem pureDs_all : ∀ {ds : List D}, pureDs ds = ds.all pureD
  | [] => rfl
  | d :: ds => by simp [pureDs, pureDs_all (ds := ds)]
section
variable {K : PySem.W.Frag} {Hv Hv' : Hp}
theorem sql_seen (hx : ∀ a o, seenO o = true → Hv a = some o → Hv' a = some o) {a : Addr} {xs : List V} (h : SqL K Hv a xs) : SqL K Hv' a xs := by
  rcases h with (h | ⟨o, h⟩) | h
  · exact .inl (.inl (hx _ _ rfl h))
  · exact .inl (.inr ⟨o, hx _ _ rfl h⟩)
  · exact .inr h
theorem sqt_seen (hx : ∀ a o, seenO o = true → Hv a = some o → Hv' a = some o) {a : Addr} {xs : List V} (h : SqT K Hv a xs) : SqT K Hv' a xs := by
  rcases h with (h | ⟨o, h⟩) | h
  · exact .inl (.inl (hx _ _ rfl h))
  · exact .inl (.inr ⟨o, hx _ _ rfl h⟩)
  · exact .inr h
mutual
theorem Rp.seen (hx : ∀ a o, seenO o = true → Hv a = some o → Hv' a = some o) : ∀ {v : V} {d : D}, Rp K Hv v d → pureD d = true → Rp K Hv' v d
  | _, _, .non, _ => .non
  | _, _, .bl b, _ => .bl b
  | _, _, .int i, _ => .int i
  | _, _, .str x, _ => .str x
  | _, _, .lst h a, n => .lst (sql_seen hx h) (RpAll.seen hx a (by simpa [pureD] using n))
  | _, _, .tup h a, n => .tup (sqt_seen hx h) (RpAll.seen hx a (by simpa [pureD] using n))
  | _, _, .dct h k a, n => .dct (hx _ _ rfl h) k (RpAll.seen hx a (pureEs_map (by simp [pureD] at n; exact n.2)))
  | _, _, .ref h, n => by simp [refD, pureD, refOf] at n
theorem RpAll.seen (hx : ∀ a o, seenO o = true → Hv a = some o → Hv' a = some o) : ∀ {vs : List V} {ds : List D}, RpAll K Hv vs ds → pureDs ds = true → RpAll K Hv' vs ds
  | _, _, .nil, _ => .nil
  | _, _, .cons h t, n => by
    simp [pureDs] at n
    exact .cons (Rp.seen hx h n.1) (RpAll.seen hx t n.2)
end
end
theorem seen_sub {O O' : Ow} {H : Hp} (h : ∀ a, O' a → O a) : ∀ a o, seenO o = true → vw O H a = some o → vw O' H a = some o := fun a o hv e => by
  obtain ⟨h1, h2⟩ := vw_someF e hv
  exact vw_outF (fun z => h1 (h a z)) h2
/-! ### reading through names -/
def mapO (f : D → Option D) : List D → Option (List D)
  | [] => some []
  | d :: ds => match f d, mapO f ds with
    | some x, some xs => some (x :: xs)
    | _, _ => none
def zipE (es : List (D × D)) (vs : List D) : List (D × D) := (es.map (·.1)).zip vs
def deepD (M : Hm) : Nat → D → Option D
  | 0, d => if pureD d = true then some d else none
  | k + 1, d => if pureD d = true then some d else match refOf d with
    | some n => (match M.c[n]? with
      | some (.lst l) => (mapO (deepD M k) l).map .list
      | _ => none)
    | none => (match d with
      | .list ds => (mapO (deepD M k) ds).map .list
      | .tuple ds => (mapO (deepD M k) ds).map .tuple
      | .dict es => (mapO (deepD M k) (es.map (·.2))).map fun vs => .dict (zipE es vs)
      | _ => none)
def lendS (M : Hm) : SD Hm → Option (SD Empty)
  | .val d => (deepD M 9 d).map .val
  | .lst l => (mapO (deepD M 9) l).map fun l => .val (.list l)
  | .dct _ => none
  | .ob _ => none
def lendE (M : Hm) : Env Hm → Env Empty
  | [] => []
  | _ :: es => es.map fun x => x.bind (lendS M)
def lendM {α β : Type} (f : α → Option β) (a : Env Empty → Res Empty α) (env : Env Hm) : Res Hm β := match hmOf env with
  | none => .bad
  | some M => match a (lendE M env) with
    | .ok x _ => (match f x with
      | some y => .ok y env
      | none => .bad)
    | .err c none _ => .err c none env
    | _ => .bad
def flatO (d : D) : Option D := if flatD d = true then some d else none
def flatL : SD Empty → Option (SD Hm)
  | .lst l => if l.all flatD = true then some (.lst l) else none
  | _ => none
def eLend (a : Env Empty → Res Empty D) : Env Hm → Res Hm D := lendM flatO a
def tLendM (a : Env Empty → Res Empty Bool) : Env Hm → Res Hm Bool := lendM some a
def oLend (a : Env Empty → Res Empty (SD Empty)) : Env Hm → Res Hm (SD Hm) := lendM flatL a
def bLendD (a : Env Empty → Res Empty D) (env : Env Hm) : Flow Hm := (lendM (fun _ => some ()) a env).fl fun _ e => .nx e
def tLend (t : TE) : TE := t
def tLendT (t : TT) : TT := t
/-! ### naming -/
def eNm (j : Nat) (env : Env Hm) : Res Hm D := match hmOf env, slotL j env with
  | some M, some l => .ok (refD M.c.length) ((env.set j none).set 0 (some (.ob ⟨M.c ++ [.lst l]⟩)))
  | _, _ => .bad
def cellS : SD Hm → Option Cell
  | .lst l => some (.lst l)
  | .dct es => some (.dct es)
  | _ => none
def eNmO (o : Env Hm → Res Hm (SD Hm)) (env : Env Hm) : Res Hm D := (o env).bind fun sd e => match cellS sd, hmOf e with
  | some c, some M => .ok (refD M.c.length) (e.set 0 (some (.ob ⟨M.c ++ [c]⟩)))
  | _, _ => .bad
def tNm (i : Nat) : TE := tVar i
def tNmO (t : TE) : TE := t
/-! ### named lists -/
def cellL (n : Nat) (env : Env Hm) : Option (List D) := match hmOf env with
  | some M => (match M.c[n]? with
    | some (.lst l) => some l
    | _ => none)
  | none => none
def putC (n : Nat) (c : Cell) (env : Env Hm) : Env Hm := match hmOf env with
  | some M => env.set 0 (some (.ob ⟨M.c.set n c⟩))
  | none => env
def eMtR (f : List D → List D → Option (D × List D)) (a : Env Hm → Res Hm D) (m : Env Hm → Res Hm (List D)) (env : Env Hm) : Res Hm D := (a env).bind fun d e1 => match refOf d with
  | none => .bad
  | some n => if (cellL n e1).isSome = true then (m e1).bind fun ds e2 => match (cellL n e2).bind fun l => f l ds with
    | some (z, l') => .ok z (putC n (.lst l') e2)
    | none => .bad else .bad
def tRefM (t : TE) : TE := t
def loopR (g : D → Env Hm → Res Hm Unit) (body : Env Hm → Flow Hm) (n : Nat) : Nat → Nat → Env Hm → Flow Hm
  | 0, _, _ => .bad
  | k + 1, i, env => match cellL n env with
    | none => .bad
    | some l => match l[i]? with
      | none => .nx env
      | some d => (g d env).fl fun _ e => match body e with
        | .nx e2 => loopR g body n k (i + 1) e2
        | .ct e2 => loopR g body n k (i + 1) e2
        | .bk e2 => .nx e2
        | f => f
def bForR (a : Env Hm → Res Hm D) (g : D → Env Hm → Res Hm Unit) (body : Env Hm → Flow Hm) (env : Env Hm) : Flow Hm := (a env).fl fun d e => match refOf d with
  | some n => loopR g body n 2000 0 e
  | none => .bad
def tForR (t : TS) : TS := t
/-! ### a heap of a def's own -/
def pureS : SD Empty → Option (SD Hm)
  | .val d => if pureD d = true then some (.val d) else none
  | .lst l => if pureDs l = true then some (.lst l) else none
  | .dct es => if pureDs (es.map (·.2)) = true then some (.dct es) else none
  | .ob o => o.elim
def pureT : SD Hm → Option (SD Empty)
  | .val d => if pureD d = true then some (.val d) else none
  | .lst l => if pureDs l = true then some (.lst l) else none
  | .dct es => if pureDs (es.map (·.2)) = true then some (.dct es) else none
  | .ob _ => none
def pureAs : List (SD Empty) → Option (List (SD Hm))
  | [] => some []
  | a :: as => match pureS a, pureAs as with
    | some x, some xs => some (x :: xs)
    | _, _ => none
def pureR : RV Hm → Option (RV Empty)
  | .val d => if pureD d = true then some (.val d) else none
  | .own s => (pureT s).map .own
def pureO : Env Hm → Env Empty
  | [] => []
  | _ :: es => es.map fun x => x.bind pureT
def hmM (m : List (SD Hm) → RetM Hm) (args : List (SD Empty)) : RetM Empty := match pureAs args with
  | none => .bad
  | some as => match m (.ob ⟨[]⟩ :: as) with
    | .ok r outs => (match pureR r with
      | some r => .ok r (pureO outs)
      | none => .bad)
    | .err c none outs => .err c none (pureO outs)
    | _ => .bad
section
variable {K : PySem.W.Frag} {W : Wd} {wx : WX}
variable {F : Fr} {env : Env Hm} {σ : L2.St} {H H' : Hp} {O O' : Ow} {Fp : Nat → List Addr} {l : List Bool} {p : Addr} {M : Hm}
theorem mapO_ok {Hv Hv' : Hp} {f : D → Option D} (hf : ∀ v d d', Rp K Hv v d → f d = some d' → Rp K Hv' v d') : ∀ {vs : List V} {ds ds' : List D}, RpAll K Hv vs ds → mapO f ds = some ds' → RpAll K Hv' vs ds'
  | _, _, _, .nil, h => by cases h; exact .nil
  | _, _, _, .cons (d := d) (ds := ds) h t, q => by
    unfold mapO at q
    split at q
    · rename_i x xs h1 h2
      cases q
      exact .cons (hf _ _ _ h h1) (mapO_ok hf t h2)
    · cases q
theorem mapO_len {f : D → Option D} : ∀ {ds ds' : List D}, mapO f ds = some ds' → ds'.length = ds.length
  | [], _, h => by cases h; rfl
  | d :: ds, _, q => by
    unfold mapO at q
    split at q
    · rename_i x xs h1 h2
      cases q
      rw [List.length_cons, List.length_cons, mapO_len h2]
    · cases q
theorem zipE1 {es : List (D × D)} {vs : List D} (h : vs.length = es.length) : (zipE es vs).map (·.1) = es.map (·.1) := by
  unfold zipE
  rw [show (fun p : D × D => p.1) = Prod.fst from rfl, List.map_fst_zip (by rw [List.length_map, h]; exact Nat.le_refl _)]
theorem zipE2 {es : List (D × D)} {vs : List D} (h : vs.length = es.length) : (zipE es vs).map (·.2) = vs := by
  unfold zipE
  rw [show (fun p : D × D => p.2) = Prod.snd from rfl, List.map_snd_zip (by rw [List.length_map, h]; exact Nat.le_refl _)]
theorem deep_ok (r : Rel K W F env σ H O Fp) (hM : hmOf env = some M) : ∀ (k : Nat) (v : V) (d d' : D), Rp K (vw O H) v d → deepD M k d = some d' → Rp K (vw noO H) v d' := by
  have sn := seen_sub (O := O) (O' := noO) (H := H) (fun a z => z.elim)
  intro k
  induction k with
  | zero =>
    intro v d d' h q
    unfold deepD at q
    split at q
    · rename_i hp; cases q; exact h.seen sn hp
    · cases q
  | succ k ih =>
    intro v d d' h q
    unfold deepD at q
    split at q
    · rename_i hp; cases q; exact h.seen sn hp
    · split at q
      · rename_i n hn
        split at q
        · rename_i l hl
          obtain ⟨a, rfl, _, _, c⟩ := cell_at r hM h hn hl
          obtain ⟨xs, c1, c2⟩ := c
          cases e : mapO (deepD M k) l with
          | none => rw [e] at q; cases q
          | some l' =>
            rw [e] at q; cases q
            exact .lst (.of (vw_outV (fun z => z) c1 rfl)) (mapO_ok ih c2 e)
        · cases q
      · rename_i hn
        split at q
        · rename_i ds _
          obtain ⟨a, xs, rfl, h1, h2⟩ := h.lst'
          cases e : mapO (deepD M k) ds with
          | none => rw [e] at q; cases q
          | some l' => rw [e] at q; cases q; exact .lst (sql_seen sn h1) (mapO_ok ih h2 e)
        · rename_i ds _
          obtain ⟨a, xs, rfl, h1, h2⟩ := h.tup'
          cases e : mapO (deepD M k) ds with
          | none => rw [e] at q; cases q
          | some l' => rw [e] at q; cases q; exact .tup (sqt_seen sn h1) (mapO_ok ih h2 e)
        · rename_i es _
          obtain ⟨a, o, kvs, rfl, c1, c2, c3⟩ := h.dct' hn
          cases e : mapO (deepD M k) (es.map (·.2)) with
          | none => rw [e] at q; cases q
          | some l' =>
            rw [e] at q; cases q
            have hz : l'.length = es.length := by rw [mapO_len e, List.length_map]
            exact .dct (sn _ _ rfl c1) (by rw [zipE1 hz]; exact c2) (by rw [zipE2 hz]; exact mapO_ok ih c3 e)
        · cases q
theorem lend_in {x : Option (SD Hm)} {es : Env Hm} {y : Option V} {ys : L2.St} (r : Rel (Ω := Hm) K W F (x :: es) (y :: ys) H O Fp) (hM : hmOf (x :: es) = some M) : Rel (Ω := Empty) K (wOf []) ⟨H, noO, fun _ => [], ys⟩ (lendE M (x :: es)) ys H noO (fun _ => []) where
  nms := ⟨fun j a _ h => (by cases h), fun i h => (Nat.not_lt_zero _ h).elim, fun o => o.elim, fun a n h => .inl h, fun i h => (Nat.not_lt_zero _ h).elim⟩
  len := by
    have := r.len
    simp only [List.length_cons] at this
    show ys.length = (es.map _).length
    rw [List.length_map]; omega
  slot := fun j sd h => by
    have h' : (es[j]?).map (fun x => x.bind (lendS M)) = some (some sd) := by rw [← List.getElem?_map]; exact h
    cases e : es[j]? with
    | none => rw [e] at h'; cases h'
    | some o =>
      rw [e] at h'
      cases o with
      | none => cases h'
      | some s =>
        have h' : lendS M s = some sd := by injection h'
        obtain ⟨v, h1, h2⟩ := r.slot (j + 1) s e
        refine ⟨v, h1, ?_⟩
        cases s with
        | val d =>
          cases q : deepD M 9 d with
          | none => simp only [lendS, q] at h'; cases h'
          | some d' => simp only [lendS, q] at h'; cases h'; exact ⟨rfl, deep_ok r hM 9 _ _ _ h2.2 q⟩
        | ob o => cases h'
        | lst l' =>
          obtain ⟨p, xs, rfl, _, g1, g2⟩ := h2
          cases q : mapO (deepD M 9) l' with
          | none => simp only [lendS, q] at h'; cases h'
          | some d' => simp only [lendS, q] at h'; cases h'; exact ⟨rfl, .lst (.of (vw_outV (fun z => z) g1 rfl)) (mapO_ok (deep_ok r hM 9) g2 q)⟩
        | dct es' => cases h'
  own := fun j a z => by cases z
  dis := fun j k a z => by cases z
  mine := fun j a z => by cases z
  sub := fun a z => z
  new := fun a z => .inl z
  all := fun a z => z.elim
  keep := fun a o z _ => z
  fix := fun j z => rfl
  pinned := fun i a h => by cases h
  pin := fun j a z => by cases z
  base := fun a z => z.elim
  pw := fun j z => rfl
theorem lend_post {α β : Type} {f : α → Option β} {x : Option (SD Hm)} {es : Env Hm} {y : Option V} {ys : L2.St} {a : Env Empty → Res Empty α} (r : Rel (Ω := Hm) K W F (x :: es) (y :: ys) H O Fp) {PE : α → Env Empty → Prop} {PH : β → Env Hm → Prop}
    (h : Post PH (Raised K W wx F (y :: ys) H O) (lendM f a (x :: es))) (hp : ∀ x' y' e, f x' = some y' → PH y' (x :: es) → PE x' e) :
    ∃ M, hmOf (x :: es) = some M ∧ Post PE (Raised K (wOf []) wx ⟨H, noO, fun _ => [], ys⟩ ys H noO) (a (lendE M (x :: es))) := by
  unfold lendM at h
  split at h
  · exact h.elim
  · rename_i M hM
    refine ⟨M, hM, ?_⟩
    cases q : a (lendE M (x :: es)) with
    | ok x' e =>
      rw [q] at h
      dsimp only at h
      split at h
      · rename_i y' e'; exact hp x' y' e e' h
      · exact h.elim
    | err c p e =>
      rw [q] at h
      cases p with
      | some p => exact h.elim
      | none =>
        intro cls dx H' O' FE c' ex k
        have g : Ex H H' := fun a o z => c'.keep a o z (fun j w => by cases w)
        exact h cls dx H' O Fp (r.grow g) (vw_ex g) k
    | bad => rw [q] at h; exact h.elim
instance {t : TE} {a : Env Empty → Res Empty D} [A : SatE K (wOf []) wx t a] : SatE K W wx (tLend t) (eLend a) := ⟨fun F env σ H O Fp Q r h => by
  obtain ⟨x, es, ys, rfl, rfl⟩ := hm_cons r
  obtain ⟨M, hM, h⟩ := lend_post (PE := fun d env' => ∀ v H' O' Fp', Rel (Ω := Empty) K (wOf []) ⟨H, noO, fun _ => [], ys⟩ env' ys H' O' Fp' → Ex (vw noO H) (vw O' H') → Rp K (vw O' H') v d → Q v H') r h
    (fun d d' e hf k v H' O' FE c ex q => by
      unfold flatO at hf
      split at hf
      · rename_i hd
        cases hf
        have g : Ex H H' := fun a o z => c.keep a o z (fun j w => by cases w)
        exact k v H' O Fp (r.grow g) (vw_ex g) (flat_rp q hd)
      · cases hf)
  exact A.go _ _ ys H noO _ Q (lend_in r hM) h⟩
instance {t : TT} {a : Env Empty → Res Empty Bool} [A : SatT K (wOf []) wx t a] : SatT K W wx (tLendT t) (tLendM a) := ⟨fun F env σ H O Fp Q r h => by
  obtain ⟨x, es, ys, rfl, rfl⟩ := hm_cons r
  obtain ⟨M, hM, h⟩ := lend_post (PE := fun b env' => ∀ H' O' Fp', Rel (Ω := Empty) K (wOf []) ⟨H, noO, fun _ => [], ys⟩ env' ys H' O' Fp' → Ex (vw noO H) (vw O' H') → Q b H') r h
    (fun d d' e hf k H' O' FE c ex => by
      cases hf
      have g : Ex H H' := fun a o z => c.keep a o z (fun j w => by cases w)
      exact k H' O Fp (r.grow g) (vw_ex g))
  exact A.go _ _ ys H noO _ Q (lend_in r hM) h⟩
instance (priority := high) {t : TE} {a : Env Empty → Res Empty D} [A : SatE K (wOf []) wx t a] : SatS K W wx (tDrop (tLend t)) (bLendD a) := ⟨fun F env σ H O Fp D0 r h => by
  obtain ⟨x, es, ys, rfl, rfl⟩ := hm_cons r
  obtain ⟨M, hM, h⟩ := lend_post (PE := fun d env' => ∀ v H' O' Fp', Rel (Ω := Empty) K (wOf []) ⟨H, noO, fun _ => [], ys⟩ env' ys H' O' Fp' → Ex (vw noO H) (vw O' H') → Rp K (vw O' H') v d → D0.nx ys H') r (fl_post (some .non :: ys) h)
    (fun d d' e hf k v H' O' FE c ex q => by
      have g : Ex H H' := fun a o z => c.keep a o z (fun j w => by cases w)
      exact k (some .non :: ys) H' O Fp (r.grow g) (vw_ex g))
  exact A.go _ _ ys H noO _ _ (lend_in r hM) h⟩
/-- the heap grows by a thing of one's own -/
theorem Rel.growO (r : Rel K W F env σ H O Fp) (g : Ex H H') (hp : H p = none) (hp' : H' p ≠ none) : Rel K W F env σ H' (addO O p) Fp ∧ Ex (vw O H) (vw (addO O p) H') := by
  have x : Ex (vw O H) (vw (addO O p) H') := vw_step (fun _ => rfl) fun a o h1 h2 => ⟨fun z => z.elim h1 (fun e => by rw [e, hp] at h2; cases h2), g a o h2⟩
  have st : ∀ a, O a → H' a = H a := fun a z => by
    cases w : H a with
    | none => exact absurd w (r.all a z)
    | some o => exact g a o w
  refine ⟨⟨⟨r.nms.un, r.nms.hw, r.nms.lt, r.nms.nn, r.nms.dz⟩, r.len, fun i sd h => ?_, fun i a h => .inl (r.own i a h), r.dis, r.mine, fun a h => .inl (r.sub a h), fun a h => ?_, fun a h => ?_, fun a o h q => g a o (r.keep a o h q), r.fix, r.pinned, r.pin, r.base, r.pw⟩, x⟩
  · obtain ⟨v, h1, h2⟩ := r.slot i sd h
    exact ⟨v, h1, h2.mono x fun a z => st a (r.own i a z)⟩
  · exact h.elim (r.new a) fun z => .inr (by rw [z]; exact r.fresh hp)
  · rcases h with h | h
    · rw [st a h]; exact r.all a h
    · rw [h]; exact hp'
theorem flat_rpAll {Hv Hv' : Hp} : ∀ {vs : List V} {ds : List D}, RpAll K Hv vs ds → ds.all flatD = true → RpAll K Hv' vs ds
  | _, _, .nil, _ => .nil
  | _, _, .cons h t, q => by
    simp at q
    exact .cons (flat_rp h q.1) (flat_rpAll t (by simpa using q.2))
instance {t : TE} {a : Env Empty → Res Empty (SD Empty)} [A : SatO K (wOf []) wx t a] : SatO K W wx (tLend t) (oLend a) := ⟨fun F env σ H O Fp Q r h => by
  obtain ⟨x, es, ys, rfl, rfl⟩ := hm_cons r
  obtain ⟨M, hM, h⟩ := lend_post (PE := fun sd env' => ∀ v H' O' Fp' G, Rel (Ω := Empty) K (wOf []) ⟨H, noO, fun _ => [], ys⟩ env' ys H' O' Fp' → Ex (vw noO H) (vw O' H') → OwnR K (vw O' H') H' G v sd → (∀ a ∈ G, O'.un a ∧ H a = none ∧ ∀ j, a ∉ Fp' j) → Q v H') r h
    (fun d d' e hf k v H' O' FE G c ex q hG => by
      unfold flatL at hf
      split at hf
      · split at hf
        · rename_i hd
          cases hf
          have g : Ex H H' := fun a o z => c.keep a o z (fun j w => by cases w)
          obtain ⟨p, xs, rfl, rfl, q1, q2⟩ := q
          have hp := (hG p List.mem_cons_self).2.1
          obtain ⟨r', x'⟩ := r.growO g hp (by rw [q1]; intro z; cases z)
          refine k (.ref p) H' (addO O p) Fp [p] r' x' ⟨p, xs, rfl, rfl, q1, flat_rpAll q2 hd⟩ fun b hb => ?_
          rw [List.mem_singleton.mp hb]
          exact ⟨addO_un (r.notO hp), r.fresh hp, fun j z => r.all p (r.own j p z) hp⟩
        · cases hf
      · cases hf)
  exact A.go _ _ ys H noO _ Q (lend_in r hM) h⟩
/-! ### naming -/
theorem hm_set {j : Nat} {x : Option (SD Hm)} (h : hmOf env = some M) (hj : j ≠ 0) : hmOf (env.set j x) = some M := by
  unfold hmOf
  rw [List.getElem?_set_ne hj, hmOf_some h]
instance {i' i : Nat} [x : Ix Hm i' i] [w : Wr W i] : SatE (Ω := Hm) K W wx (tNm i') (eNm i) := ⟨fun F env σ H O Fp Q r h => by
  have hi : i ≠ 0 := by have := x.le; have h1 : 1 ≤ i := this; omega
  unfold eNm at h
  split at h
  · rename_i M l hM hl
    obtain ⟨p, xs, h1, h2, h3, h4, h5⟩ := ownL r hl
    have hp : p ∈ Fp i := by rw [h3]; exact List.mem_cons_self
    have r1 := r.move (i := i) x.le
    have hn : ∀ j, p ∉ fset Fp i [] j := fun j z => by
      by_cases e : j = i
      · subst e; rw [fset_same] at z; cases z
      · rw [fset_ne e] at z; exact e (r.dis j i p z hp)
    have h0 := r.loc w.eq p hp
    obtain ⟨hh, r2, x2, nm⟩ := r1.nameG (hm_set hM hi) (c := .lst l) (G := [p]) ⟨r.own i p hp, r.nms.un i p x.le hp⟩ h0 hn List.mem_cons_self (fun b hb => by rw [List.mem_singleton.mp hb]; exact ⟨r.own i p hp, h0, hn⟩) (fun Hv e => ⟨xs, h4, h5.mono e⟩)
    exact ⟨_, (vis_get x).trans h2, h _ H _ _ r2 x2 (.ref nm)⟩
  · exact h.elim⟩
instance {t : TE} {o : Env Hm → Res Hm (SD Hm)} [A : SatO K W wx t o] : SatE K W wx (tNmO t) (eNmO o) := ⟨fun F env σ H O Fp Q r h => by
  refine A.go F env σ H O Fp Q r ((post_bind h).mono (Ex.refl _) fun sd e1 h v1 H1 O1 Fp1 G r1 x1 q1 hG => ?_)
  split at h
  · rename_i c M hc hM
    cases sd with
    | val d => cases hc
    | ob o => cases hc
    | lst l =>
      cases hc
      obtain ⟨p, xs, rfl, rfl, q1, q2⟩ := q1
      obtain ⟨g1, g2, g3⟩ := hG p List.mem_cons_self
      obtain ⟨hh, r2, x2, nm⟩ := r1.nameG hM (c := .lst l) (G := [p]) g1 g2 g3 List.mem_cons_self (fun b hb => by rw [List.mem_singleton.mp hb]; exact ⟨g1.1, g2, g3⟩) (fun Hv e => ⟨xs, q1, q2.mono e⟩)
      exact h _ H1 _ _ r2 (x1.trans x2) (.ref nm)
    | dct l =>
      cases hc
      obtain ⟨p, kvs, rfl, rfl, q1, q2, q3⟩ := q1
      obtain ⟨g1, g2, g3⟩ := hG p List.mem_cons_self
      obtain ⟨hh, r2, x2, nm⟩ := r1.nameG hM (c := .dct l) (G := [p]) g1 g2 g3 List.mem_cons_self (fun b hb => by rw [List.mem_singleton.mp hb]; exact ⟨g1.1, g2, g3⟩) (fun Hv e => ⟨kvs, q1, q2, q3.mono e⟩)
      exact h _ H1 _ _ r2 (x1.trans x2) (.ref nm)
  · exact h.elim⟩
/-! ### named lists -/
theorem cellL_some {n : Nat} {l : List D} (h : cellL n env = some l) : ∃ M, hmOf env = some M ∧ M.c[n]? = some (.lst l) := by
  unfold cellL at h
  split at h
  · rename_i M hM
    split at h
    · rename_i l' hl; cases h; exact ⟨M, hM, hl⟩
    · cases h
  · cases h
/-- a named list, in the heap -/
theorem cellL_at (r : Rel K W F env σ H O Fp) {v : V} {d : D} {n : Nat} {l : List D} (hv : Rp K (vw O H) v d) (hd : refOf d = some n) (h : cellL n env = some l) :
    ∃ M a xs, hmOf env = some M ∧ M.c[n]? = some (.lst l) ∧ v = .ref a ∧ O.nm a = some n ∧ a ∈ Fp 0 ∧ H a = some (.lst xs) ∧ RpAll K (vw O H) xs l := by
  obtain ⟨M, hM, hl⟩ := cellL_some h
  obtain ⟨a, h1, h2, h3, xs, h4, h5⟩ := cell_at r hM hv hd hl
  exact ⟨M, a, xs, hM, hl, h1, h2, h3, h4, h5⟩
theorem mtR_go {rm : V → List V → Hp → VK → Prop} {f : List D → List D → Option (D × List D)} (S : SatMt K rm f) {H0 : Hp} {O0 : Ow} {vs : List V} {ds : List D} {Q : VK} {d : D} {n : Nat} {v : V} (r : Rel K W F env σ H O Fp) (x : Ex (vw O0 H0) (vw O H)) (ha : RpAll K (vw O H) vs ds) (hv : Rp K (vw O H) v d) (hd : refOf d = some n)
    (h : EPost K W wx F σ H0 O0 Q (match (cellL n env).bind fun l => f l ds with | some (z, l') => Res.ok z (putC n (.lst l') env) | none => .bad)) : rm v vs H Q := by
  cases el : cellL n env with
  | none => rw [el] at h; exact h.elim
  | some l =>
    rw [el] at h
    cases ef : f l ds with
    | none => simp only [Option.bind_some, ef] at h; exact h.elim
    | some zl =>
      obtain ⟨z, l'⟩ := zl
      simp only [Option.bind_some, ef] at h
      obtain ⟨M, a, xs, hM, hl, rfl, hn, haF, h4, h5⟩ := cellL_at r hv hd el
      refine S.go (vw O H) a xs l vs ds z l' H Q h4 h5 ha ef fun w xs' h6 h7 => ?_
      obtain ⟨r', ev⟩ := r.setC hM hl hn haF (c' := .lst l') (o := .lst xs') (fun Hv e => ⟨xs', upd_same, h6.mono e⟩) (fun C dx fs e => by rw [h4] at e; cases e) (fun b e => by rw [h4] at e; cases e)
      unfold putC at h
      rw [hM] at h
      exact h w _ O _ r' (by rw [ev]; exact x) (by rw [ev]; exact h7)
instance {te : TE} {ta : TA} {rm : V → List V → Hp → VK → Prop} {f : List D → List D → Option (D × List D)} {a : Env Hm → Res Hm D} {m : Env Hm → Res Hm (List D)} [S : SatMt K rm f] [A : SatE K W wx te a] [B : SatL K W wx ta m] : SatE K W wx (tRefM (tBM K "list" rm te ta)) (eMtR f a m) := ⟨fun F env σ H O Fp Q r h => by
  refine A.thn r ((post_bind h).mono (Ex.refl _) fun d e1 h v1 H1 O1 Fp1 r1 x1 q1 => ?_)
  split at h
  · exact h.elim
  · rename_i n hn
    split at h
    · rename_i hs
      obtain ⟨l, hl⟩ := Option.isSome_iff_exists.mp hs
      obtain ⟨M, a, xs, _, _, rfl, _, _, h4, _⟩ := cellL_at r1 q1 hn hl
      refine ⟨ty_lst h4, B.go F e1 σ H1 O1 Fp1 _ r1 ((post_bind h).mono x1 fun ds e h vs H2 O2 Fp2 r2 x2 q2 => ?_)⟩
      exact mtR_go S r2 (x1.trans x2) q2 (q1.mono x2) hn h
    · exact h.elim⟩
instance {te : TE} {rm : V → List V → Hp → VK → Prop} {f : List D → List D → Option (D × List D)} {a : Env Hm → Res Hm D} [S : SatMt K rm f] [A : SatE K W wx te a] : SatE K W wx (tRefM (tBM0 K "list" rm te)) (eMtR f a lNil) := ⟨fun F env σ H O Fp Q r h => by
  refine A.thn r ((post_bind h).mono (Ex.refl _) fun d e1 h v1 H1 O1 Fp1 r1 x1 q1 => ?_)
  split at h
  · exact h.elim
  · rename_i n hn
    split at h
    · rename_i hs
      obtain ⟨l, hl⟩ := Option.isSome_iff_exists.mp hs
      obtain ⟨M, a, xs, _, _, rfl, _, _, h4, _⟩ := cellL_at r1 q1 hn hl
      exact ⟨ty_lst h4, mtR_go S r1 x1 .nil q1 hn h⟩
    · exact h.elim⟩
instance {te : TE} {g : TG} {tb : TS} {a : Env Hm → Res Hm D} {m : D → Env Hm → Res Hm Unit} {body : Env Hm → Flow Hm} [A : SatE K W wx te a] [G : SatG K W g m] [N : NoErr m] [B : SatS K W wx tb body] : SatS K W wx (tForR (tFor (iList K te) g tb)) (bForR a m body) := ⟨fun F env σ H O Fp D0 r h => by
  refine A.thn r (post_imp (fl_post σ h) fun d e1 h v1 H1 O1 Fp1 r1 x1 q1 => ?_)
  have h := FPost.mono h x1
  split at h
  · rename_i n hn
    obtain ⟨p, rfl, hp⟩ := rp_refOf q1 hn
    have hp1 : O1.nm p = some n := vw_name hp
    have there : ∃ l, cellL n e1 = some l := by
      cases e : cellL n e1 with
      | none => unfold loopR at h; rw [e] at h; exact h.elim
      | some l => exact ⟨l, rfl⟩
    obtain ⟨l, hl⟩ := there
    obtain ⟨_, _, xs, _, _, e', _, _, h4, _⟩ := cellL_at r1 q1 hn hl
    cases e'
    refine ⟨p, rfl, ⟨xs, .of h4⟩, ?_⟩
    let Pv : Nat → Nat → L2.St → Hp → Prop := fun k i σ H => ∃ (e : Env Hm) (O : Ow) (Fp : Nat → List Addr), Rel K W F e (ups Hm σ) H O Fp ∧ Ex (vw O1 H1) (vw O H) ∧ FPost K W wx F H1 O1 D0 (loopR m body n k i e)
    refine ⟨fun i k σ H => Pv k i σ H, ⟨2000, e1, O1, Fp1, by rw [r1.up]; exact r1, Ex.refl _, h⟩, ?_⟩
    rintro i k σ2 H2 ⟨e2, O2, Fp2, r2, x2, h2⟩
    cases k with
    | zero => exact h2.elim
    | succ k =>
      have qn : Rp K (vw O2 H2) (.ref p) d := q1.mono x2
      unfold loopR at h2
      cases e : cellL n e2 with
      | none => rw [e] at h2; exact h2.elim
      | some l2 =>
        rw [e] at h2
        dsimp only at h2
        obtain ⟨_, _, ys, _, _, e', _, _, g4, g5⟩ := cellL_at r2 qn hn e
        cases e'
        cases ei : l2[i]? with
        | none =>
          rw [ei] at h2
          have hge : l2.length ≤ i := List.getElem?_eq_none_iff.mp ei
          refine .inl ⟨⟨ys, .of g4, by rw [g5.length]; exact hge⟩, ?_⟩
          have h3 := h2 (ups Hm σ2) H2 O2 Fp2 r2 x2
          rwa [vis_ups] at h3
        | some dd =>
          rw [ei] at h2
          dsimp only at h2
          obtain ⟨vv, hvv, hvd⟩ := g5.get' ei
          refine .inr ⟨⟨ys, vv, .of g4, hvv⟩, Pv k (i + 1), fun σ' H' p => ⟨k, Nat.lt_succ_self _, p⟩, fun v H' y => ?_⟩
          obtain ⟨rfl, y⟩ := y
          have hve := y ys (.of g4)
          rw [hvv] at hve; cases hve
          rw [← vis_ups (Ω := Hm) (σ := σ2)]
          refine G.go F e2 (ups Hm σ2) H' O2 Fp2 vv _ _ r2 hvd ?_
          have h4 := fl_post0 h2 fun c p e => N.go _ e2 c p e
          cases q : m dd e2 with
          | err c p e => rw [q] at h4; exact h4.elim
          | bad => rw [q] at h4; exact h4.elim
          | ok u e3 =>
            rw [q] at h4
            have h4 : FPost K W wx F H1 O1 D0 (match body e3 with | .nx e2 => loopR m body n k (i + 1) e2 | .ct e2 => loopR m body n k (i + 1) e2 | .bk e2 => .nx e2 | f => f) := h4
            intro σ4 H4 O4 Fp4 r4 x4
            have x14 := x2.trans x4
            refine B.go F e3 σ4 H4 O4 Fp4 _ r4 ?_
            cases qb : body e3 with
            | nx e5 => rw [qb] at h4; exact fun σ' H' O' Fp' r' x' => ⟨e5, O', Fp', by rw [r'.up]; exact r', x14.trans x', h4⟩
            | ct e5 => rw [qb] at h4; exact fun σ' H' O' Fp' r' x' => ⟨e5, O', Fp', by rw [r'.up]; exact r', x14.trans x', h4⟩
            | bk e5 => rw [qb] at h4; exact Nexts.mono h4 x14
            | rt rv e5 => rw [qb] at h4; exact FPost.mono (f := .rt rv e5) h4 x14
            | err c p e5 => rw [qb] at h4; exact FPost.mono (D0 := D0) (f := .err c p e5) h4 x14
            | bad => rw [qb] at h4; exact h4.elim
  · exact h.elim⟩
/-! ### a heap of a def's own -/
theorem ite_some {α : Type} {c : Prop} [Decidable c] {a b : α} (h : (if c then some a else none) = some b) : c ∧ a = b := by
  split at h
  · rename_i q; exact ⟨q, Option.some.inj h⟩
  · cases h
theorem pureS_own {Hv Hv' H : Hp} (hx : ∀ a o, seenO o = true → Hv a = some o → Hv' a = some o) {G : List Addr} {v : V} {s : SD Empty} {s' : SD Hm} (h : OwnR K Hv H G v s) (e : pureS s = some s') : OwnR K Hv' H G v s' := by
  cases s with
  | ob o => exact o.elim
  | val d =>
    obtain ⟨hp, rfl⟩ := ite_some (show (if pureD d = true then some (SD.val d) else none) = some s' from e)
    exact ⟨h.1, h.2.seen hx hp⟩
  | lst d =>
    obtain ⟨hp, rfl⟩ := ite_some (show (if pureDs d = true then some (SD.lst d) else none) = some s' from e)
    obtain ⟨p, xs, h1, h2, h3, h4⟩ := h
    exact ⟨p, xs, h1, h2, h3, h4.seen hx hp⟩
  | dct d =>
    obtain ⟨hp, rfl⟩ := ite_some (show (if pureDs (d.map (·.2)) = true then some (SD.dct d) else none) = some s' from e)
    obtain ⟨p, xs, h1, h2, h3, h4, h5⟩ := h
    exact ⟨p, xs, h1, h2, h3, h4, h5.seen hx hp⟩
theorem pureT_own {Hv Hv' H : Hp} (hx : ∀ a o, seenO o = true → Hv a = some o → Hv' a = some o) {G : List Addr} {v : V} {s : SD Hm} {s' : SD Empty} (h : OwnR K Hv H G v s) (e : pureT s = some s') : OwnR K Hv' H G v s' := by
  cases s with
  | ob o => cases e
  | val d =>
    obtain ⟨hp, rfl⟩ := ite_some (show (if pureD d = true then some (SD.val d) else none) = some s' from e)
    exact ⟨h.1, h.2.seen hx hp⟩
  | lst d =>
    obtain ⟨hp, rfl⟩ := ite_some (show (if pureDs d = true then some (SD.lst d) else none) = some s' from e)
    obtain ⟨p, xs, h1, h2, h3, h4⟩ := h
    exact ⟨p, xs, h1, h2, h3, h4.seen hx hp⟩
  | dct d =>
    obtain ⟨hp, rfl⟩ := ite_some (show (if pureDs (d.map (·.2)) = true then some (SD.dct d) else none) = some s' from e)
    obtain ⟨p, xs, h1, h2, h3, h4, h5⟩ := h
    exact ⟨p, xs, h1, h2, h3, h4, h5.seen hx hp⟩
theorem pureAs_len : ∀ {as : List (SD Empty)} {bs : List (SD Hm)}, pureAs as = some bs → bs.length = as.length
  | [], _, h => by cases h; rfl
  | a :: as, _, q => by
    unfold pureAs at q
    split at q
    · rename_i x xs h1 h2
      cases q
      rw [List.length_cons, List.length_cons, pureAs_len h2]
    · cases q
theorem pureAs_at : ∀ {as : List (SD Empty)} {bs : List (SD Hm)} {j : Nat} {s : SD Hm}, pureAs as = some bs → bs[j]? = some s → ∃ a, as[j]? = some a ∧ pureS a = some s
  | [], _, _, _, h, q => by cases h; simp at q
  | a :: as, _, j, s, h, q => by
    unfold pureAs at h
    split at h
    · rename_i x xs h1 h2
      cases h
      cases j with
      | zero => simp at q; subst q; exact ⟨a, rfl, h1⟩
      | succ j => exact pureAs_at (as := as) (j := j) h2 (by simpa using q)
    · cases h
def noNm (O : Ow) : Ow := ⟨O.own, fun _ => none, fun _ _ _ h => (by cases h), fun _ _ h => (by cases h)⟩
def reNm (O O' : Ow) (h : ∀ a, O a → O' a) : Ow := ⟨O'.own, O.nm, O.inj, fun a n q => h a (O.sub a n q)⟩
theorem pureO_at {outs : Env Hm} {j : Nat} {s : SD Empty} (h : (pureO outs)[j]? = some (some s)) : ∃ s', outs[j + 1]? = some (some s') ∧ pureT s' = some s := by
  cases outs with
  | nil => simp [pureO] at h
  | cons x es =>
    have h : (es[j]?).map (fun x => x.bind pureT) = some (some s) := by rw [← List.getElem?_map]; exact h
    cases e : es[j]? with
    | none => rw [e] at h; cases h
    | some o =>
      rw [e] at h
      cases o with
      | none => cases h
      | some s' => exact ⟨s', by rw [List.getElem?_cons_succ]; exact e, by injection h⟩
theorem pureO_len {outs : Env Hm} : (pureO outs).length = outs.length - 1 := by
  cases outs with
  | nil => rfl
  | cons x es => show (es.map _).length = _; rw [List.length_map]; rfl
theorem hm_in {n : Nat} {vs : List V} {args : List (SD Empty)} {as : List (SD Hm)} (r : Rel (Ω := Empty) K (wOf l) (frOf H O Fp vs) (args.map some) (vs.map some) H O Fp) (ha : pureAs args = some as) :
    Rel (Ω := Hm) K (wOf (false :: l)) (frOf H (noNm O) (fpU [] Fp) (.non :: vs)) ((SD.ob (Hm.mk []) :: as).map some) ((V.non :: vs).map some) H (noNm O) (fpU [] Fp) where
  nms := ⟨fun _ _ _ _ => rfl, fun i hi => by
      have hi : i < 1 := hi
      rw [show i = 0 by omega]; rfl, fun o _ _ a n h => (by cases h), fun a n h => (by cases h), fun i hi => by
      have hi : i < 1 := hi
      rw [show i = 0 by omega]; rfl⟩
  len := by
    have := r.len
    simp only [List.length_map] at this
    simp only [List.map_cons, List.length_cons, List.length_map, pureAs_len ha, this]
  slot := fun i sd h => by
    cases i with
    | zero =>
      simp at h; subst h
      exact ⟨.non, rfl, ⟨fun n c q => by simp at q, fun a z => by cases z⟩⟩
    | succ j =>
      have h1 : as[j]? = some sd := by
        simp only [List.map_cons, List.getElem?_cons_succ, List.getElem?_map] at h
        cases q : as[j]? with
        | none => rw [q] at h; cases h
        | some x => rw [q] at h; cases h; rfl
      obtain ⟨a, h2, h3⟩ := pureAs_at ha h1
      obtain ⟨v, h4, h5⟩ := r.slot j a (by rw [List.getElem?_map, h2]; rfl)
      refine ⟨v, ?_, pureS_own (fun b o hv e => ?_) h5 h3⟩
      · rw [List.map_cons, List.getElem?_cons_succ]; exact h4
      · obtain ⟨g1, g2⟩ := vw_someF e hv
        exact vw_outF (O := noNm O) g1 g2
  own := fun i a h => by
    cases i with
    | zero => cases h
    | succ j => exact r.own j a h
  dis := fun i j a h1 h2 => by
    cases i with
    | zero => cases h1
    | succ i =>
      cases j with
      | zero => cases h2
      | succ j => exact congrArg (· + 1) (r.dis i j a h1 h2)
  mine := fun i a h => .inl h
  sub := fun a h => h
  new := fun a h => .inl h
  all := r.all
  keep := fun a o h _ => h
  fix := fun i h => rfl
  pinned := fun i a h => by cases h
  pin := fun i a h => by
    cases i with
    | zero => cases h
    | succ j => exact r.own j a h
  base := r.all
  pw := fun i h => by
    cases i with
    | zero => cases h
    | succ j => exact r.pw j (by simpa [wOf] using h)
theorem hm_out {n : Nat} {vs : List V} {args : List (SD Empty)} {outs : Env Hm} {Fp' : Nat → List Addr} (r : Rel (Ω := Empty) K (wOf l) (frOf H O Fp vs) (args.map some) (vs.map some) H O Fp) (hn : vs.length = n)
    (c : Rel (Ω := Hm) K (wOf (false :: l)) (frOf H (noNm O) (fpU [] Fp) (.non :: vs)) (padE (n + 1) outs) ((V.non :: vs).map some) H' O' Fp') :
    Rel (Ω := Empty) K (wOf l) (frOf H O Fp vs) (padE n (pureO outs)) (vs.map some) H' (reNm O O' c.sub) (fun j => Fp' (j + 1)) := by
  refine ⟨⟨fun j a _ h => ?_, fun i h => (Nat.not_lt_zero _ h).elim, fun o => o.elim, fun a n h => .inl h, fun i h => (Nat.not_lt_zero _ h).elim⟩, ?_, fun j sd h => ?_, fun j a h => c.own (j + 1) a h, fun i j a h1 h2 => ?_, fun j a h => c.mine (j + 1) a h, c.sub, c.new, c.all, fun a o h q => c.keep a o h fun i z => ?_, fun i h => rfl, (fun i a h => by cases h), r.pin, r.base, r.pw⟩
  · rcases c.mine (j + 1) a h with z | z
    · exact r.nms.un j a (Nat.zero_le _) z
    · exact nm_out (O := O) fun y => r.all a y z
  · have := c.len
    simp only [List.length_map, List.length_cons, padE, List.length_append, List.length_replicate] at this
    simp only [List.length_map, padE, List.length_append, List.length_replicate, pureO_len]
    omega
  · obtain ⟨s', h1, h2⟩ := pureO_at (pad_at h)
    have h3 : (padE (n + 1) outs)[j + 1]? = some (some s') := by
      unfold padE
      rw [List.getElem?_append_left (List.getElem?_eq_some_iff.mp h1).1]; exact h1
    obtain ⟨v, h4, h5⟩ := c.slot (j + 1) s' h3
    refine ⟨v, ?_, pureT_own (fun b o hv e => ?_) h5 h2⟩
    · rw [List.map_cons, List.getElem?_cons_succ] at h4; exact h4
    · obtain ⟨g1, g2⟩ := vw_someF e hv
      exact vw_outF (O := reNm O O' c.sub) g1 g2
  · have := c.dis (i + 1) (j + 1) a h1 h2
    omega
  · cases i with
    | zero => cases z
    | succ i => exact q i z
theorem hm_ex (hs : ∀ a, O a → O' a) (x : Ex (vw (noNm O) H) (vw O' H')) : Ex (vw O H) (vw (reNm O O' hs) H') := fun a o e => by
  rcases vw_cases (O := O) (a := a) with ⟨n, q, e1⟩ | ⟨q, e1⟩ | ⟨q, e1⟩
  · rw [e1] at e
    rw [vw_nm (O := reNm O O' hs) q]; exact e
  · rw [e1] at e; cases e
  · rw [e1] at e
    obtain ⟨g3, g4⟩ := vw_someF (x a o (vw_outF (O := noNm O) q e)) (flt_some e).2
    exact vw_outF (O := reNm O O' hs) g3 g4
theorem hm_sp {n : Nat} {m : List (SD Hm) → RetM Hm} {vs : List V} {Q : VK} {E : XK} (h : spV (Ω := Empty) l n (hmM m) K vs H Q E) : spV (Ω := Hm) (false :: l) (n + 1) m K vs H Q E := by
  obtain ⟨O, Fp, args, hv, ha, r, h⟩ := (show spOf l n (hmM m) K vs H Q E from h)
  unfold hmM at h
  cases e : pureAs args with
  | none => rw [e] at h; exact h.elim
  | some as =>
    rw [e] at h
    dsimp only at h
    refine ⟨noNm O, fpU [] Fp, .ob ⟨[]⟩ :: as, ?_, ?_, hm_in (n := n) r e, ?_⟩
    · show (V.non :: vs).length = n + 1
      rw [List.length_cons, hv]
    · rw [List.length_cons, pureAs_len e, ha]
    · cases q : m (.ob ⟨[]⟩ :: as) with
      | bad => rw [q] at h; exact h.elim
      | err c p outs =>
        rw [q] at h
        cases p with
        | some p => exact h.elim
        | none => exact fun cls dx H' O' Fp' c x k => h cls dx H' _ _ (hm_out r hv c) (hm_ex _ x) k
      | ok rv outs =>
        rw [q] at h
        dsimp only at h
        cases er : pureR rv with
        | none => rw [er] at h; exact h.elim
        | some rv' =>
          rw [er] at h
          dsimp only at h
          intro v H' O' Fp' c x k
          refine h v H' _ _ (hm_out r hv c) (hm_ex _ x) ?_
          have sn : ∀ b o, seenO o = true → vw O' H' b = some o → vw (reNm O O' c.sub) H' b = some o := fun b o hv e => by
            obtain ⟨g1, g2⟩ := vw_someF e hv
            exact vw_outF (O := reNm O O' c.sub) g1 g2
          cases rv with
          | val d =>
            obtain ⟨hp, rfl⟩ := ite_some (show (if pureD d = true then some (RV.val d) else none) = some rv' from er)
            exact Rp.seen sn k hp
          | own s =>
            cases es : pureT s with
            | none => simp only [pureR, es] at er; cases er
            | some s' =>
              simp only [pureR, es] at er; cases er
              obtain ⟨G, k1, k2⟩ := k
              refine ⟨G, pureT_own sn k1 es, fun b hb => ?_⟩
              obtain ⟨g1, g2, g3⟩ := k2 b hb
              exact ⟨⟨g1.1, nm_out (O := O) fun y => r.all b y g2⟩, g2, fun j => g3 (j + 1)⟩
/-- THE RULE for a def with a heap of its own -/
theorem fnH_sat {n N : Nat} {t : TS} {m : Env Hm → Flow Hm} {Ns : List Str} {vs : List V} {Q : VK} {E : XK} (S : SatS K (wOf (false :: l)) (fun cls d _ H => E cls d H) t m) (hl : l.length ≤ n) (hN : Ns.length = N)
    (h : spV (Ω := Empty) l n (hmM (fnM (false :: l) (n + 1) (N + 1) m)) K vs H Q E) : t { nx := fun _ H' => Q .non H', rt := Q } (L2.start Ns vs) H :=
  fn_sat (n := n + 1) (N := N + 1) S (Nat.succ_le_succ hl) (by rw [hN]; rfl) (hm_sp h)
end
section
variable {X : Cx} {e : Expr} {st : Stmt} {es : List Expr} {t : TE} {tt : TT} {ts : TS} {ta : TA} {i : Nat} {l : List Bool}
theorem pe_low (l : List Bool) (h : PE X e t) : PE X e (tLow l t) := h
theorem pt_low (l : List Bool) (h : PT X e tt) : PT X e (tLowT l tt) := h
theorem ps_low (l : List Bool) (h : PS X st ts) : PS X st (tLowS l ts) := h
theorem pss_low {sts : List Stmt} (l : List Bool) (h : PSs X sts ts) : PSs X sts (tLowS l ts) := h
theorem pe_lend (h : PE X e t) : PE X e (tLend t) := h
theorem pt_lend (h : PT X e tt) : PT X e (tLendT tt) := h
theorem pe_nm (h : PE X e (tVar i)) : PE X e (tNm i) := h
theorem pe_nmo (h : PE X e t) : PE X e (tNmO t) := h
theorem pe_refm (h : PE X e t) : PE X e (tRefM t) := h
theorem ps_ownLow {te : TE} (l : List Bool) (h : PS X st (tAsg te (gName i))) : PS X st (tOwnS (tLow l te) i) := h
theorem ps_forR (h : PS X st ts) : PS X st (tForR ts) := h
end
end Ve

set_option Elab.async false
set_option linter.all false
set_option maxRecDepth 100000
set_option maxHeartbeats 4000000
/-! Dicts: own ones filled, cleared, copied, locked for good; data ones walked. Statements that are not reached. -/
namespace Ve
open PySem PySem.Spec PyProof.Rows L2 Evl Ny
theorem _root_.L2.Room.units1 {k : Nat} {A : Around} (r : Room k A) : A.units + 1 < cLine := by have := r.un; omega
/-! ### what is not reached -/
def tDead : TS := fun _ _ _ => False
def tDeadE : TE := fun _ _ _ => False
theorem ps_dead {X : Cx} {st : Stmt} : PS X st tDead := ⟨fun _ _ _ _ _ _ h => h.elim⟩
theorem pss_dead {X : Cx} {st : List Stmt} : PSs X st tDead := ⟨fun _ _ _ _ _ _ h => h.elim⟩
theorem pe_dead {X : Cx} {e : Expr} : PE X e tDeadE := ⟨fun _ _ _ _ _ _ h => h.elim⟩
section
variable {Ω : Type}
def bBad (_ : Env Ω) : Flow Ω := .bad
def eBad (_ : Env Ω) : Res Ω D := .bad
variable [ObS Ω] {K : PySem.W.Frag} {W : Wd} {wx : WX}
instance : SatS (Ω := Ω) K W wx tDead bBad := ⟨fun _ _ _ _ _ _ _ _ h => h.elim⟩
instance : SatE (Ω := Ω) K W wx tDeadE eBad := ⟨fun _ _ _ _ _ _ _ _ h => h.elim⟩
end
/-! ### own dicts -/
section
variable {Ω : Type}
def slotE (i : Nat) (env : Env Ω) : Option (List (D × D)) := match env[i]? with
  | some (some (.dct es)) => some es
  | _ => none
theorem slotE_some {i : Nat} {env : Env Ω} {l : List (D × D)} (h : slotE i env = some l) : env[i]? = some (some (.dct l)) := by
  unfold slotE at h
  split at h
  · rename_i e; cases h; exact e
  · cases h
def setE (es : List (D × D)) (k d : D) : Option (List (D × D)) := if es.length < 1000000 then (keyD k).map fun kk => putE es kk d else none
def bPutD (i : Nat) (v b : Env Ω → Res Ω D) (env : Env Ω) : Flow Ω := (v env).fl fun d e1 => if (slotE i e1).isSome = true then (b e1).fl fun k e2 => match (slotE i e2).bind fun l => setE l k d with
  | some l => .nx (e2.set i (some (.dct l)))
  | none => .bad else .bad
def eClearD (i : Nat) (env : Env Ω) : Res Ω D := if (slotE i env).isSome = true then .ok .none (env.set i (some (.dct []))) else .bad
/-- a slot's own dict is a datum from now on -/
def bFrzK (i : Nat) (m : Env Ω → Flow Ω) (env : Env Ω) : Flow Ω := match slotE i env with
  | some es => m (env.set i (some (.val (.dict es))))
  | none => .bad
def eFrzK (a : Env Ω → Res Ω (SD Ω)) (env : Env Ω) : Res Ω D := (a env).bind fun x e1 => match x with
  | .dct es => .ok (.dict es) e1
  | _ => .bad
def asE : D → Option (List (D × D))
  | .dict es => if refOf (.dict es) = none then some es else none
  | _ => none
def pairE : D → Option (Key × D)
  | .tuple [k, d] => (keyD k).map fun kk => (kk, d)
  | _ => none
def pairsE : List D → Option (List (Key × D))
  | [] => some []
  | d :: ds => match pairE d, pairsE ds with
    | some p, some ps => some (p :: ps)
    | _, _ => none
def mergeE (es : List (D × D)) (ps : List (Key × D)) : List (D × D) := ps.foldl (fun acc p => putE acc p.1 p.2) es
def dictM : List D → Option (List (D × D))
  | [.dict es] => asE (.dict es)
  | [.list ds] => if ds.length ≤ 1000 then (pairsE ds).map fun ps => mergeE [] ps else none
  | _ => none
def oDictM (a : Env Ω → Res Ω (List D)) (env : Env Ω) : Res Ω (SD Ω) := (a env).bind fun ds e => match dictM ds with
  | some es => .ok (.dct es) e
  | none => .bad
/-- k in what a slot holds -/
def eInV (neg : Bool) (a : Env Ω → Res Ω D) (i : Nat) (env : Env Ω) : Res Ω D := (a env).bind fun x e => match (slotD i e).bind fun d => inB x d with
  | some k => .ok (.bool (if neg then !k else k)) e
  | none => .bad
/-- the keys of a datum that is a dict -/
def iK (a : Env Ω → Res Ω D) (env : Env Ω) : Res Ω (List D) := (a env).bind fun d e => match asE d with
  | some es => .ok (es.map (·.1)) e
  | none => .bad
def noDct (d : D) : Bool := noD d
/-- an own dict, lent for one expression -/
def eBorD (i : Nat) (a : Env Ω → Res Ω D) (env : Env Ω) : Res Ω D := match slotE i env with
  | some es => (match a ((env.map valS).set i (some (.val (.dict es)))) with
    | .ok d _ => if noD d = true then .ok d env else .bad
    | _ => .bad)
  | none => .bad
end
/-! ### marks -/
def tFrzK (i : Nat) (t : TS) : TS := fun D σ H => ∃ d kvs, σ[i]? = some (some (.ref d)) ∧ H d = some (.dK kvs) ∧ ∀ od, t D σ (upd H d (.frz od (.dK kvs)))
def tLk (t : TE) : TE := fun σ H Q => t σ H fun v H1 => ∃ d kvs, v = .ref d ∧ H1 d = some (.dK kvs) ∧ ∀ od, Q v (upd H1 d (.frz od (.dK kvs)))
def tBorD (i : Nat) (t : TE) : TE := tLockE t
section
variable {X : Cx}
theorem ps_frzK {st : Stmt} {t : TS} (i : Nat) (h : PS X st t) : PS X st (tFrzK i t) := by
  refine ⟨fun pins s σ H D I hw => ?_⟩
  obtain ⟨d, kvs, _, hd, hw⟩ := hw
  obtain ⟨od, I1⟩ := I.lock hd trivial
  exact h.run pins s σ _ D I1 (hw od)
theorem pe_lk {e : Expr} {t : TE} (h : PE X e t) : PE X e (tLk t) := by
  refine ⟨fun pins s σ H Q I hw => ?_⟩
  refine thn (h.run pins s σ H _ I hw) fun v s1 ⟨x, H1, I1, r, d, kvs, e2, hd, q⟩ => ?_
  obtain ⟨od, I2⟩ := I1.lock hd trivial
  exact ⟨x, _, I2, r, q od⟩
theorem pe_borD {e : Expr} {t : TE} (i : Nat) (h : PE X e t) : PE X e (tBorD i t) := pe_lock h
def iKeysK (td : TE) : TI := fun σ H R => td σ H fun x H1 => ∃ d o kvs, x = .ref d ∧ H1 d = some (.frz o (.dK kvs)) ∧ R (Itk d o kvs) H1
theorem pi_keysK {tg e : Expr} {td : TE} (he : PE X e td) : PI X tg e (iKeysK td) := by
  refine ⟨fun pins s σ H R I h => ?_⟩
  refine thn (he.run pins s σ H _ I h) fun u s1 ⟨x, H1, I1, rx, d, o, kvs, ex, hd, q⟩ => ?_
  subst ex
  obtain rfl : u = Value.ref d := rx
  obtain ⟨hs, hgd, hx, es, ep, vs, hdt, hsz, kv, hm⟩ := I1.frzK hd
  refine iter_keys hs hgd hx hdt (pi_one (tk := s1.toks) I1 _ (turn_keys _ hdt) ⟨_, Heap.get?_push_size _ rfl, rfl, ?_⟩ q)
  rw [hsz] <;> rfl
def uDict (K : PySem.W.Frag) : List V → Hp → VK → Prop := fun xs H Q => (∃ (a : Addr) (kvs : List (Key × V)), xs = [.ref a] ∧ Rd H a (.dK kvs) ∧ ∀ p, H p = none → Q (.ref p) (upd H p (.dK kvs))) ∨
  ∃ (a : Addr) (ps : List Addr) (kvs : List (Key × V)), xs = [.ref a] ∧ SqL K H a (ps.map V.ref) ∧ Paired (fun p kv => SqT K H p [kV kv.1, kv.2]) ps kvs ∧ ∀ p, H p = none → Q (.ref p) (upd H p (.dK (mergeK [] kvs)))
theorem cu_dict (hc : X.calm = true) : CallR X (.type "dict") (uDict X.K) := call_dictD.or (call_dictP hc)
theorem ky_dict (K : PySem.W.Frag) (hc : X.calm = true) (h : X.K = K := by rfl) : CallR X (.type "dict") (uDict K) := by subst h; exact cu_dict hc
end
section
variable {Ω : Type} [ObS Ω] {K : PySem.W.Frag} {W : Wd} {wx : WX}
variable {F : Fr} {env : Env Ω} {σ : L2.St} {H : Hp} {O : Ow} {Fp : Nat → List Addr}
theorem ownE (r : Rel K W F env σ H O Fp) {i : Nat} {es : List (D × D)} (h : slotE i env = some es) : ∃ p kvs, env[i]? = some (some (.dct es)) ∧ σ[i]? = some (some (.ref p)) ∧ Fp i = [p] ∧ H p = some (.dK kvs) ∧ es.map (·.1) = kvs.map (fun q => kD q.1) ∧ RpAll K (vw O H) (kvs.map (·.2)) (es.map (·.2)) := by
  have h := slotE_some h
  obtain ⟨v, h1, p, kvs, rfl, h2, h3, h4, h5⟩ := r.slot i _ h
  exact ⟨p, kvs, h, h1, h2, h3, h4, h5⟩
theorem slotE_v (r : Rel K W F env σ H O Fp) {i : Nat} (h : (slotE i env).isSome = true) : ∃ p kvs, σ[i]? = some (some (.ref p)) ∧ H p = some (.dK kvs) := by
  cases e : slotE i env with
  | none => rw [e] at h; cases h
  | some l => obtain ⟨p, kvs, _, h1, _, h2, _⟩ := ownE r e; exact ⟨p, kvs, h1, h2⟩
/-- a slot's own dict is another one now -/
theorem Rel.putE (r : Rel K W F env σ H O Fp) {i : Nat} (hx : ObS.off Ω ≤ i) {es es' : List (D × D)} {p : Addr} {kvs' : List (Key × V)} (h : env[i]? = some (some (.dct es))) (hv : σ[i]? = some (some (.ref p))) (hF : Fp i = [p])
    (hk : es'.map (·.1) = kvs'.map (fun q => kD q.1)) (ha : RpAll K (vw O H) (kvs'.map (·.2)) (es'.map (·.2))) :
    Rel K W F (env.set i (some (.dct es'))) σ (upd H p (.dK kvs')) O (fset Fp i [p]) ∧ vw O (upd H p (.dK kvs')) = vw O H := by
  have hO : O p := r.own i p (by rw [hF]; exact List.mem_cons_self)
  have ev : vw O (upd H p (.dK kvs')) = vw O H := vw_upd_own hO
  refine ⟨r.put (O' := O) hx h hv (fun _ => rfl) (fun a z => z) (fun a z => .inl z) ⟨p, kvs', rfl, rfl, upd_same, hk, by rw [ev]; exact ha⟩ (fun a z => .inl (by rw [hF]; exact z)) (fun a hn o ho => ?_) (fun a z => ?_), ev⟩
  · rw [upd_ne]
    · exact ho
    · intro e; exact hn (by rw [hF, e]; exact List.mem_cons_self)
  · by_cases e : a = p
    · rw [e, upd_same]; intro w; cases w
    · rw [upd_ne e]; exact r.all a z
theorem any_keys (k : Key) : ∀ {es : List (D × D)} {kvs : List (Key × V)}, es.map (·.1) = kvs.map (fun p => kD p.1) → (es.any fun p => decide (keyD p.1 = some k)) = kvs.any fun kv => decide (kv.1 = k)
  | [], [], _ => rfl
  | [], _ :: _, h => by cases h
  | _ :: _, [], h => by cases h
  | (kd, d) :: es, (k', v) :: kvs, h => by
    rw [List.map_cons, List.map_cons] at h
    injection h with h1 h2
    have h1 : kd = kD k' := h1
    subst h1
    rw [List.any_cons, List.any_cons, any_keys k h2, keyD_kD]
    simp
theorem repl_keys (k : Key) {Hv : Hp} {v : V} {d : D} (hd : Rp K Hv v d) : ∀ {es : List (D × D)} {kvs : List (Key × V)}, es.map (·.1) = kvs.map (fun p => kD p.1) → RpAll K Hv (kvs.map (·.2)) (es.map (·.2)) →
    (es.map fun p => if keyD p.1 = some k then (p.1, d) else p).map (·.1) = (kvs.map fun kv => if kv.1 = k then (kv.1, v) else kv).map (fun p => kD p.1) ∧
    RpAll K Hv ((kvs.map fun kv => if kv.1 = k then (kv.1, v) else kv).map (·.2)) ((es.map fun p => if keyD p.1 = some k then (p.1, d) else p).map (·.2))
  | [], [], _, _ => ⟨rfl, .nil⟩
  | [], _ :: _, h, _ => by cases h
  | _ :: _, [], h, _ => by cases h
  | (kd, d') :: es, (k', v') :: kvs, h, r => by
    rw [List.map_cons, List.map_cons] at h r
    injection h with h1 h2
    have h1 : kd = kD k' := h1
    subst h1
    cases r with
    | cons r1 r2 =>
      obtain ⟨g1, g2⟩ := repl_keys k hd h2 r2
      by_cases e : k' = k
      · subst e
        simp only [List.map_cons, keyD_kD, if_true, g1]
        exact ⟨trivial, .cons hd g2⟩
      · have e2 : ¬ some k' = some k := fun z => e (Option.some.inj z)
        simp only [List.map_cons, keyD_kD, e, e2, if_false, g1]
        exact ⟨trivial, .cons r1 g2⟩
theorem put_ok {Hv : Hp} {v : V} {d : D} (k : Key) {es : List (D × D)} {kvs : List (Key × V)} (h : es.map (·.1) = kvs.map (fun p => kD p.1)) (r : RpAll K Hv (kvs.map (·.2)) (es.map (·.2))) (hd : Rp K Hv v d) :
    (Ve.putE es k d).map (·.1) = (putK kvs k v).map (fun p => kD p.1) ∧ RpAll K Hv ((putK kvs k v).map (·.2)) ((Ve.putE es k d).map (·.2)) := by
  unfold Ve.putE putK
  rw [any_keys k h]
  split
  · exact repl_keys k hd h r
  · rw [List.map_append, List.map_append, List.map_append, List.map_append, h]
    exact ⟨rfl, r.append (.cons hd .nil)⟩
instance {i' i : Nat} [ix : Ix Ω i' i] {te tb : TE} {a b : Env Ω → Res Ω D} [A : SatE K W wx te a] [B : SatE K W wx tb b] : SatS K W wx (tAsg te (gSub (tVar i') tb rSetD)) (bPutD i a b) := ⟨fun F env σ H O Fp D0 r h => by
  refine A.thn r (post_imp (fl_post σ h) fun d e1 h v H1 O1 Fp1 r1 x1 q1 => ?_)
  by_cases hs : (slotE i e1).isSome = true
  · rw [if_pos hs] at h
    obtain ⟨p, kvs, hv, hp⟩ := slotE_v r1 hs
    have h := FPost.mono h x1
    refine ⟨_, (vis_get ix).trans hv, B.thn r1 (post_imp (fl_post σ h) fun k e2 h u H2 O2 Fp2 r2 x2 q2 => ?_)⟩
    cases el : slotE i e2 with
    | none => rw [el] at h; exact h.elim
    | some l =>
      rw [el] at h
      cases ef : setE l k d with
      | none => simp only [Option.bind_some, ef] at h; exact h.elim
      | some l' =>
        simp only [Option.bind_some, ef] at h
        obtain ⟨p', kvs', h1, h2, h3, h4, h5, h6⟩ := ownE r2 el
        rw [hv] at h2; cases h2
        unfold setE at ef
        split at ef
        · rename_i hl
          cases ek : keyD k with
          | none => rw [ek] at ef; cases ef
          | some kk =>
            rw [ek] at ef; cases ef
            obtain rfl := keyD_v ek q2
            obtain ⟨g1, g2⟩ := put_ok kk h5 h6 (q1.mono x2)
            obtain ⟨r', ev⟩ := r2.putE ix.le h1 hv h3 g1 g2
            refine ⟨p, _, rfl, DPut.k h4 (by rw [keys_len h5]; exact Nat.lt_of_lt_of_le hl (by decide)), ?_⟩
            exact h σ _ O2 _ r' (by rw [ev]; exact x2)
        · cases ef
  · rw [if_neg hs] at h; exact h.elim⟩
instance {i' i : Nat} [ix : Ix Ω i' i] : SatE (Ω := Ω) K W wx (tBM0 K "dict" rDClear (tVar i')) (eClearD i) := ⟨fun F env σ H O Fp Q r h => by
  unfold eClearD at h
  cases el : slotE i env with
  | none => rw [el] at h; exact h.elim
  | some l =>
    rw [el] at h
    obtain ⟨p, kvs, h1, h2, h3, h4, h5, h6⟩ := ownE r el
    obtain ⟨r', ev⟩ := r.putE (es' := []) (kvs' := []) ix.le h1 h2 h3 rfl .nil
    refine ⟨_, (vis_get ix).trans h2, ?_, p, kvs, rfl, rfl, h4, ?_⟩
    · exact .inr (.inr (.inl ⟨rfl, .inl ⟨kvs, h4⟩⟩))
    · exact h .non _ O _ r' (by rw [ev]; exact Ex.refl _) .non⟩
/-- an own dict becomes a datum, locked -/
theorem Rel.lockE (r : Rel K W F env σ H O Fp) {i : Nat} {es : List (D × D)} (he : slotE i env = some es) (hw : W i = true) {p : Addr} {kvs : List (Key × V)} (hp : H p = some (.dK kvs)) (hv : σ[i]? = some (some (.ref p))) (od : Obj) :
    Rel K W F (env.set i (some (.val (.dict es)))) σ (upd H p (.frz od (.dK kvs))) (subO O [p]) (fset Fp i []) ∧ Ex (vw O H) (vw (subO O [p]) (upd H p (.frz od (.dK kvs)))) := by
  obtain ⟨p', kvs', h1, h2, h3, h4, h5, h6⟩ := ownE r he
  rw [hv] at h2; cases h2
  rw [hp] at h4; cases h4
  have hO : O p := r.own i p (by rw [h3]; exact List.mem_cons_self)
  have hu : O.nm p = none := r.nms.un i p (r.nms.off hw) (by rw [h3]; exact List.mem_cons_self)
  have h0 : F.H0 p = none := r.loc hw p (by rw [h3]; exact List.mem_cons_self)
  have x1 : Ex (vw O H) (vw O (upd H p (.frz od (.dK kvs)))) := by rw [vw_upd_own hO]; exact Ex.refl _
  have x : Ex (vw O H) (vw (subO O [p]) (upd H p (.frz od (.dK kvs)))) := x1.trans vw_subO
  have hF : ∀ j, j ≠ i → p ∉ Fp j := fun j e z => e (r.dis j i p z (by rw [h3]; exact List.mem_cons_self))
  refine ⟨⟨r.nms.set (r.nms.off hw) (fun _ => rfl) (fun j a e h => by rwa [fset_ne e] at h) (fun a h => by rw [fset_same] at h; cases h), by rw [List.length_set]; exact r.len, fun j sd' h => ?_, fun j a h => ?_, fun j k a g1 g2 => ?_, fun j a h => ?_, fun a h => ?_, fun a h => r.new a h.1, fun a h => ?_, fun a o h q => ?_, r.fix, r.pinned, r.pin, r.base, r.pw⟩, x⟩
  · by_cases e : j = i
    · subst e
      rw [List.getElem?_set_self (List.getElem?_eq_some_iff.mp h1).1] at h
      cases h
      refine ⟨_, hv, by rw [fset_same]; exact ⟨rfl, .dct (vw_outV (subO_out hu List.mem_cons_self) upd_same rfl) h5 (h6.mono x)⟩⟩
    · rw [List.getElem?_set_ne (Ne.symm e)] at h
      obtain ⟨v, g1, g2⟩ := r.slot j sd' h
      refine ⟨v, g1, ?_⟩
      rw [fset_ne e]
      exact g2.mono x fun a ha => upd_ne fun z => hF j e (by rw [← z]; exact ha)
  · by_cases e : j = i
    · subst e; rw [fset_same] at h; cases h
    · rw [fset_ne e] at h
      exact ⟨r.own j a h, fun z => absurd h (by rw [List.mem_singleton.mp z]; exact hF j e)⟩
  · by_cases e : j = i
    · subst e; rw [fset_same] at g1; cases g1
    · rw [fset_ne e] at g1
      by_cases e2 : k = i
      · subst e2; rw [fset_same] at g2; cases g2
      · rw [fset_ne e2] at g2; exact r.dis j k a g1 g2
  · by_cases e : j = i
    · subst e; rw [fset_same] at h; cases h
    · rw [fset_ne e] at h; exact r.mine j a h
  · exact ⟨r.sub a h, fun z => absurd h0 (by rw [← List.mem_singleton.mp z]; exact r.base a h)⟩
  · by_cases e : a = p
    · rw [e, upd_same]; intro z; cases z
    · rw [upd_ne e]; exact r.all a h.1
  · rw [upd_ne]
    · exact r.keep a o h q
    · intro z; subst z; rw [h0] at h; cases h
instance {i' i : Nat} {t : TS} {m : Env Ω → Flow Ω} [T : SatS K W wx t m] [x : Ix Ω i' i] [w : Wr W i] : SatS K W wx (tFrzK i' t) (bFrzK i m) := ⟨fun F env σ H O Fp D0 r h => by
  unfold bFrzK at h
  cases e : slotE i env with
  | none => rw [e] at h; exact h.elim
  | some es =>
    rw [e] at h
    obtain ⟨p, kvs, h1, h2, h3, h4, h5, h6⟩ := ownE r e
    refine ⟨p, kvs, (vis_get x).trans h2, h4, fun od => ?_⟩
    obtain ⟨r', ex⟩ := r.lockE e w.eq h4 h2 od
    exact T.go F _ σ _ _ _ D0 r' (FPost.mono (show FPost K W wx F H O D0 (m (env.set i (some (.val (.dict es))))) from h) ex)⟩
/-- an own thing of no slot is locked -/
theorem Rel.lockO (r : Rel K W F env σ H O Fp) {p : Addr} {kvs : List (Key × V)} (hp : H p = some (.dK kvs)) (hu : O.un p) (h0 : F.H0 p = none) (hF : ∀ j, p ∉ Fp j) (od : Obj) :
    Rel K W F env σ (upd H p (.frz od (.dK kvs))) (subO O [p]) Fp ∧ Ex (vw O H) (vw (subO O [p]) (upd H p (.frz od (.dK kvs)))) :=
  ⟨(r.updO hu.1 hF h0).unO fun a ha => by rw [List.mem_singleton.mp ha]; exact ⟨h0, hF⟩, by
    have x1 : Ex (vw O H) (vw O (upd H p (.frz od (.dK kvs)))) := by rw [vw_upd_own hu.1]; exact Ex.refl _
    exact x1.trans vw_subO⟩
instance {t : TE} {o : Env Ω → Res Ω (SD Ω)} [S : SatO K W wx t o] : SatE K W wx (tLk t) (eFrzK o) := ⟨fun F env σ H O Fp Q rl h => by
  refine S.go F env σ H O Fp _ rl ((post_bind h).mono (Ex.refl _) fun x e1 h v1 H1 O1 Fp1 G r1 x1 q1 hG => ?_)
  cases x with
  | dct es =>
    obtain ⟨p, kvs, rfl, rfl, h2, h3, h4⟩ := q1
    obtain ⟨g1, g2, g3⟩ := hG p List.mem_cons_self
    refine ⟨p, kvs, rfl, h2, fun od => ?_⟩
    obtain ⟨r', ex⟩ := r1.lockO h2 g1 g2 g3 od
    exact h _ _ _ _ r' (x1.trans ex) (.dct (vw_outV (subO_out g1.2 List.mem_cons_self) upd_same rfl) h3 (h4.mono ex))
  | _ => exact h.elim⟩
/-! ### dict(..) -/
theorem newE {F : Fr} {e : Env Ω} {σ : L2.St} {H H0 : Hp} {O O0 : Ow} {Fp : Nat → List Addr} {kvs : List (Key × V)} {l : List (D × D)} {Q : VK} (r : Rel K W F e σ H O Fp) (x : Ex (vw O0 H0) (vw O H)) (hk : l.map (·.1) = kvs.map (fun q => kD q.1)) (ha : RpAll K (vw O H) (kvs.map (·.2)) (l.map (·.2))) (h : OPost K W wx F σ H0 O0 Q (.ok (.dct l) e)) {p : Addr} (hp : H p = none) : Q (.ref p) (upd H p (.dK kvs)) := by
  have hO := r.notO hp
  refine h _ _ (addO O p) Fp [p] (r.newO hp) (by rw [vw_add hO hp]; exact x) ⟨p, kvs, rfl, rfl, upd_same, hk, by rw [vw_add hO hp]; exact ha⟩ fun a ha => ?_
  rw [List.mem_singleton.mp ha]
  exact ⟨addO_un hO, r.fresh hp, fun j z => r.all p (r.own j p z) hp⟩
theorem asE_some {d : D} {es : List (D × D)} (h : asE d = some es) : d = .dict es ∧ refOf (.dict es) = none := by
  unfold asE at h
  split at h
  · split at h
    · rename_i e; cases h; exact ⟨rfl, e⟩
    · cases h
  · cases h
theorem pairs_ok {Hv : Hp} : ∀ {ds : List D} {ps : List (Key × D)} {vs : List V}, RpAll K Hv vs ds → pairsE ds = some ps → ∃ (as : List Addr) (kvs : List (Key × V)), vs = as.map V.ref ∧ Paired (fun p kv => SqT K Hv p [kV kv.1, kv.2]) as kvs ∧ kvs.map (·.1) = ps.map (·.1) ∧ RpAll K Hv (kvs.map (·.2)) (ps.map (·.2))
  | [], _, _, .nil, h => by cases h; exact ⟨[], [], rfl, .nil, rfl, .nil⟩
  | d :: ds, _, _, .cons (v := v) (vs := vs) r1 r2, h => by
    unfold pairsE at h
    split at h
    · rename_i p ps h1 h2
      cases h
      obtain ⟨as, kvs, rfl, g1, g2, g3⟩ := pairs_ok r2 h2
      unfold pairE at h1
      split at h1
      · rename_i k d'
        cases ek : keyD k with
        | none => rw [ek] at h1; cases h1
        | some kk =>
          rw [ek] at h1; cases h1
          obtain ⟨a, xs, rfl, q1, q2⟩ := r1.tup'
          obtain ⟨v1, v2, rfl, q3, q4⟩ := rpAll2 q2
          obtain rfl := keyD_v ek q3
          exact ⟨a :: as, (kk, v2) :: kvs, rfl, .cons q1 g1, by simp [g2], .cons q4 g3⟩
      · cases h1
    · cases h
theorem merge_ok {Hv : Hp} : ∀ {ps : List (Key × D)} {kvs : List (Key × V)} {es : List (D × D)} {ls : List (Key × V)}, kvs.map (·.1) = ps.map (·.1) → RpAll K Hv (kvs.map (·.2)) (ps.map (·.2)) → es.map (·.1) = ls.map (fun q => kD q.1) → RpAll K Hv (ls.map (·.2)) (es.map (·.2)) →
    (mergeE es ps).map (·.1) = (mergeK ls kvs).map (fun q => kD q.1) ∧ RpAll K Hv ((mergeK ls kvs).map (·.2)) ((mergeE es ps).map (·.2))
  | [], [], _, _, _, _, h, r => ⟨h, r⟩
  | [], _ :: _, _, _, h, _, _, _ => by cases h
  | _ :: _, [], _, _, h, _, _, _ => by cases h
  | (k, d) :: ps, (k', v) :: kvs, es, ls, h, r, he, hr => by
    rw [List.map_cons, List.map_cons] at h r
    injection h with h1 h2
    have h1 : k' = k := h1
    subst h1
    cases r with
    | cons r1 r2 =>
      obtain ⟨g1, g2⟩ := put_ok k' he hr r1
      exact merge_ok (ps := ps) (kvs := kvs) h2 r2 g1 g2
theorem paired_vw {as : List Addr} {kvs : List (Key × V)} (h : Paired (fun p kv => SqT K (vw O H) p [kV kv.1, kv.2]) as kvs) : Paired (fun p kv => SqT K H p [kV kv.1, kv.2]) as kvs := by
  induction h with
  | nil => exact .nil
  | cons h1 _ ih => exact .cons (vw_t h1) ih
instance {t : TA} {m : Env Ω → Res Ω (List D)} [A : SatL K W wx t m] : SatO K W wx (tCB (uDict K) t) (oDictM m) := ⟨fun F env σ H O Fp Q r h => by
  refine A.go F env σ H O Fp _ r ((post_bind h).mono (Ex.refl _) fun ds e1 h vs H1 O1 Fp1 r1 x1 q1 => ?_)
  cases e : dictM ds with
  | none => rw [e] at h; exact h.elim
  | some es =>
    rw [e] at h
    unfold dictM at e
    split at e
    · obtain ⟨v, rfl, q⟩ := rpAll1 q1
      obtain ⟨e0, hn⟩ := asE_some e
      cases e0
      obtain ⟨a, kvs, rfl, h1, h2, h3⟩ := q.dget hn
      exact .inl ⟨a, kvs, rfl, h1, fun p hp => newE (wx := wx) r1 x1 h2 h3 h hp⟩
    · split at e
      · rename_i ds' hl
        cases ep : pairsE ds' with
        | none => rw [ep] at e; cases e
        | some ps =>
          rw [ep] at e; cases e
          obtain ⟨v, rfl, q⟩ := rpAll1 q1
          obtain ⟨a, xs, rfl, h1, h2⟩ := q.lst'
          obtain ⟨as, kvs, rfl, g1, g2, g3⟩ := pairs_ok h2 ep
          obtain ⟨g4, g5⟩ := merge_ok (es := []) (ls := []) g2 g3 rfl .nil
          exact .inr ⟨a, as, kvs, rfl, vw_l h1, paired_vw g1, fun p hp => newE (wx := wx) r1 x1 g4 g5 h hp⟩
      · cases e
    · cases e⟩
/-! ### k in what a slot holds -/
theorem inV_ok {i' i : Nat} (ix : Ix Ω i' i) {neg : Bool} {r2 : R2} {ta : TE} {a : Env Ω → Res Ω D} (hr : ∀ (O : Ow) (H : Hp) x y d e k Q, Rp K (vw O H) x d → Rp K (vw O H) y e → inB d e = some k → Q (.bl (if neg then !k else k)) H → r2 x y H Q)
    (hd : ∀ x y H Q, rDIn neg x y H Q → r2 x y H Q) (A : SatE K W wx ta a) : SatE K W wx (tOp r2 ta (tVar i')) (eInV neg a i) := ⟨fun F env σ H O Fp Q r h => by
  unfold eInV at h
  refine A.thn r ((post_bind h).mono (Ex.refl _) fun x e1 h u H1 O1 Fp1 r1 x1 q1 => ?_)
  cases e : slotD i e1 with
  | none => rw [e] at h; exact h.elim
  | some d =>
    rw [e] at h
    cases hz : inB x d with
    | none => simp only [Option.bind_some, hz] at h; exact h.elim
    | some k =>
      simp only [Option.bind_some, hz] at h
      obtain ⟨v', hv', g⟩ := slot_rd r1 ix.le e
      refine ⟨v', (vis_get ix).trans hv', ?_⟩
      rcases g with g | ⟨p, kvs, es, rfl, rfl, g1, g2, g3⟩
      · exact hr (subO O1 (Fp1 i)) H1 u v' x d k Q (q1.mono vw_subO) g hz (h _ H1 O1 Fp1 r1 x1 (.bl _))
      · have hz : (if refOf (.dict es) = none then (keyD x).map fun k => (lookE es k).isSome else none) = some k := by cases x <;> exact hz
        split at hz
        · cases ek : keyD x with
          | none => rw [ek] at hz; cases hz
          | some kk =>
            rw [ek] at hz; cases hz
            obtain rfl := keyD_v ek q1
            refine hd _ _ _ _ ⟨p, _, rfl, .inl ⟨kvs, kk, .inl g1, rfl, rfl⟩, ?_⟩
            have q := h _ H1 O1 Fp1 r1 x1 (.bl _)
            rcases look_ok kk g2 g3 with ⟨q2, q3⟩ | ⟨z', w, q2, q3, _⟩
            · rw [q3]; simp only [q2] at q; exact q
            · rw [q3]; simp only [q2] at q; exact q
        · cases hz⟩
instance (priority := high) {i' i : Nat} [ix : Ix Ω i' i] {ta : TE} {a : Env Ω → Res Ω D} [A : SatE K W wx ta a] : SatE K W wx (tOp (vIn K) ta (tVar i')) (eInV false a i) :=
  inV_ok ix (fun O H x y d e k Q hx hy hk q => in_ok hx hy hk q) (fun _ _ _ _ h => .inr (.inr h)) A
instance (priority := high) {i' i : Nat} [ix : Ix Ω i' i] {ta : TE} {a : Env Ω → Res Ω D} [A : SatE K W wx ta a] : SatE K W wx (tOp (vNin K) ta (tVar i')) (eInV true a i) :=
  inV_ok ix (fun O H x y d e k Q hx hy hk q => nin_ok hx hy hk q) (fun _ _ _ _ h => .inr (.inr h)) A
/-! ### for k in d -/
theorem iter_keys {Hv : Hp} {d : Addr} {o : Obj} {kvs : List (Key × V)} {es : List (D × D)} (h : Hv d = some (.frz o (.dK kvs))) (hk : es.map (·.1) = kvs.map (fun q => kD q.1)) : Iter K Hv (Itk d o kvs) (es.map (·.1)) where
  go := fun i H O e _ hi => ⟨(vw_some (e _ _ h) rfl).2, by rw [hk] at hi; simpa using hi⟩
  yld := fun i H v H' O e _ y z hz => by
    obtain ⟨rfl, k, v', hi, rfl⟩ := y
    rw [hk, List.getElem?_map, hi] at hz
    cases hz
    refine ⟨Ex.refl _, ?_⟩
    cases k <;> first | exact .int _ | exact .str _
  stop := fun i H O e _ hi => ⟨(vw_some (e _ _ h) rfl).2, by rw [hk] at hi; simpa using hi⟩
instance {ta : TE} {a : Env Ω → Res Ω D} [A : SatE K W wx ta a] : SatI K W wx (iKeysK ta) (iK a) := ⟨fun F env σ H O Fp R r h => by
  refine A.thn r ((post_bind h).mono (Ex.refl _) fun d e1 h v1 H1 O1 Fp1 r1 x1 q1 => ?_)
  cases e : asE d with
  | none => rw [e] at h; exact h.elim
  | some es =>
    rw [e] at h
    obtain ⟨rfl, hn⟩ := asE_some e
    obtain ⟨a', o, kvs, rfl, h1, h2, h3⟩ := q1.dct' hn
    exact ⟨a', o, kvs, rfl, (vw_some h1 rfl).2, h _ H1 O1 Fp1 r1 x1 (iter_keys h1 h2)⟩⟩
/-! ### an own dict lent -/
mutual
theorem Rp.noDx {Hv Hv' : Hp} (hl : ∀ a xs, SqL K Hv a xs → SqL K Hv' a xs) (ht : ∀ a xs, SqT K Hv a xs → SqT K Hv' a xs) : ∀ {v : V} {d : D}, Rp K Hv v d → noD d = true → Rp K Hv' v d
  | _, _, .non, _ => .non
  | _, _, .bl b, _ => .bl b
  | _, _, .int i, _ => .int i
  | _, _, .str x, _ => .str x
  | _, _, .lst h a, n => .lst (hl _ _ h) (RpAll.noDx hl ht a (by simpa [noD] using n))
  | _, _, .tup h a, n => .tup (ht _ _ h) (RpAll.noDx hl ht a (by simpa [noD] using n))
  | _, _, .dct _ _ _, n => by simp [noD] at n
  | _, _, .ref _, n => by simp [refD, noD] at n
theorem RpAll.noDx {Hv Hv' : Hp} (hl : ∀ a xs, SqL K Hv a xs → SqL K Hv' a xs) (ht : ∀ a xs, SqT K Hv a xs → SqT K Hv' a xs) : ∀ {vs : List V} {ds : List D}, RpAll K Hv vs ds → noD.noDs ds = true → RpAll K Hv' vs ds
  | _, _, .nil, _ => .nil
  | _, _, .cons h t, n => by
    simp [noD.noDs] at n
    exact .cons (Rp.noDx hl ht h n.1) (RpAll.noDx hl ht t n.2)
end
instance {i' i : Nat} [ix : Ix Ω i' i] {t : TE} {a : Env Ω → Res Ω D} [A : SatE K W wx t a] : SatE K W wx (tBorD i' t) (eBorD i a) := ⟨fun F env σ H O Fp Q r h => by
  unfold eBorD at h
  cases el : slotE i env with
  | none => rw [el] at h; exact h.elim
  | some l =>
    rw [el] at h
    dsimp only at h
    obtain ⟨p, kvs, he, hv, hF, hp, hk, ha⟩ := ownE r el
    have hO : O p := r.own i p (by rw [hF]; exact List.mem_cons_self)
    have hu : O.nm p = none := r.nms.un i p ix.le (by rw [hF]; exact List.mem_cons_self)
    refine ⟨p, _, hp, trivial, fun od => ?_⟩
    generalize hH1 : upd H p (.frz od (.dK kvs)) = H1
    have hp1 : H1 p = some (.frz od (.dK kvs)) := by rw [← hH1]; exact upd_same
    have hx : Ex (vw O H) (vw (subO O [p]) H1) := by
      have x1 : Ex (vw O H) (vw O H1) := by rw [← hH1, vw_upd_own hO]; exact Ex.refl _
      exact x1.trans vw_subO
    have hi : i < env.length := (List.getElem?_eq_some_iff.mp he).1
    have all1 : ∀ a, O a → H1 a ≠ none := fun a z => by
      by_cases e : a = p
      · rw [e, hp1]; intro w; cases w
      · rw [← hH1, upd_ne e]; exact r.all a z
    have rel : Rel K W ⟨H1, subO O [p], fun _ => [], σ⟩ ((env.map valS).set i (some (.val (.dict l)))) σ H1 (subO O [p]) (fun _ => []) := {
      nms := ⟨fun j a _ h => (by cases h), r.nms.hw, fun o _ h => (by
          exfalso
          by_cases e : i = 0
          · subst e
            rw [List.getElem?_set_self (by rw [List.length_map]; exact hi)] at h
            cases h
          · rw [List.getElem?_set_ne e, List.getElem?_map] at h
            cases q : env[0]? with
            | none => rw [q] at h; cases h
            | some o =>
              rw [q] at h
              cases o with
              | none => cases h
              | some s => cases s <;> cases h), fun a n h => .inl h, r.low⟩
      len := by rw [List.length_set, List.length_map]; exact r.len
      slot := fun j sd hj => by
        by_cases e : i = j
        · subst e
          rw [List.getElem?_set_self (by rw [List.length_map]; exact hi)] at hj
          cases hj
          exact ⟨_, hv, rfl, .dct (vw_outV (subO_out hu List.mem_cons_self) hp1 rfl) hk (ha.mono hx)⟩
        · rw [List.getElem?_set_ne e, List.getElem?_map] at hj
          cases q : env[j]? with
          | none => rw [q] at hj; cases hj
          | some o =>
            rw [q] at hj
            cases o with
            | none => cases hj
            | some s =>
              cases s with
              | val d =>
                cases hj
                obtain ⟨v, h1, h2⟩ := r.slot j _ q
                exact ⟨v, h1, rfl, h2.2.mono hx⟩
              | _ => cases hj
      own := fun j a z => by cases z
      dis := fun j k a z => by cases z
      mine := fun j a z => by cases z
      sub := fun a z => z
      new := fun a z => .inl z
      all := fun a z => all1 a z.1
      keep := fun a o z _ => z
      fix := fun j z => rfl
      pinned := fun i a h => r.pinS h
      pin := fun j a z => by cases z
      base := fun a z => all1 a z.1
      pw := fun j z => rfl }
    refine A.go _ _ σ H1 (subO O [p]) _ _ rel ?_
    cases e : a ((env.map valS).set i (some (.val (.dict l)))) with
    | ok d e2 =>
      rw [e] at h
      have h : EPost K W wx F σ H O Q (if noD d = true then .ok d env else .bad) := h
      intro v H' O' Fp' r2 x2 q2
      have kp : ∀ a o, H1 a = some o → H' a = some o := fun a o z => r2.keep a o z (fun j w => by cases w)
      refine ⟨kp _ _ hp1, ?_⟩
      by_cases f : noD d = true
      · rw [if_pos f] at h
        have g : Ex H (upd H' p (.dK kvs)) := fun a o z => by
          by_cases e : a = p
          · subst e; rw [hp] at z; cases z; exact upd_same
          · rw [upd_ne e]; exact kp a o (by rw [← hH1, upd_ne e]; exact z)
        have hpO : ¬ O' p := fun z => (r2.new p z).elim (fun z => z.2 List.mem_cons_self hu) (fun z => by have z : H1 p = none := z; rw [hp1] at z; cases z)
        have hO' : ∀ a, O a → a ≠ p → O' a := fun a z w => r2.sub a ⟨z, fun y => absurd (List.mem_singleton.mp y) w⟩
        have tr : ∀ a (u : HO), (∀ k, u ≠ .dK k) → (∀ o k, u ≠ .frz o (.dK k)) → seenO u = true → vw O' H' a = some u → vw O (upd H' p (.dK kvs)) a = some u := fun a u n1 n2 hvv z => by
          obtain ⟨z1, z2⟩ := vw_some z hvv
          have hap : a ≠ p := fun w => by subst w; rw [kp _ _ hp1] at z2; cases z2; exact n2 _ _ rfl
          exact vw_outV (fun w => z1 (hO' a w hap)) (by rw [upd_ne hap]; exact z2) hvv
        have q3 : Rp K (vw O (upd H' p (.dK kvs))) v d := q2.noDx
          (fun a xs z => by
            rcases z with (z | ⟨o, z⟩) | z
            · exact .inl (.inl (tr a _ (fun _ w => by cases w) (fun _ _ w => by cases w) rfl z))
            · exact .inl (.inr ⟨o, tr a _ (fun _ w => by cases w) (fun _ _ w => by cases w) rfl z⟩)
            · exact .inr z)
          (fun a xs z => by
            rcases z with (z | ⟨o, z⟩) | z
            · exact .inl (.inl (tr a _ (fun _ w => by cases w) (fun _ _ w => by cases w) rfl z))
            · exact .inl (.inr ⟨o, tr a _ (fun _ w => by cases w) (fun _ _ w => by cases w) rfl z⟩)
            · exact .inr z) f
        exact h v _ O Fp (r.grow g) (vw_ex g) q3
      · rw [if_neg f] at h; exact h.elim
    | err c pp e2 => rw [e] at h; exact h.elim
    | bad => rw [e] at h; exact h.elim⟩
end
/-! ### an own dict lent in heap mode -/
def tLendK (_ : Nat) (t : TE) : TE := tLockE t
theorem pe_lendK {X : Cx} {e : Expr} {t : TE} (i : Nat) (h : PE X e t) : PE X e (tLendK i t) := pe_lock h
def eLendK (j : Nat) (a : Env Empty → Res Empty D) (env : Env Hm) : Res Hm D := match hmOf env, slotE (j + 1) env with
  | some M, some es => (match mapO (deepD M 9) (es.map (·.2)) with
    | some vs => (match a ((lendE M env).set j (some (.val (.dict (zipE es vs))))) with
      | .ok d _ => if flatD d = true then .ok d env else .bad
      | _ => .bad)
    | none => .bad)
  | _, _ => .bad
section
variable {K : PySem.W.Frag} {Hv Hv' : Hp}
mutual
theorem Rp.tr (h : ∀ a u, (∀ k, u ≠ .dK k) → Hv a = some u → Hv' a = some u) : ∀ {v : V} {d : D}, Rp K Hv v d → Rp K Hv' v d
  | _, _, .non => .non
  | _, _, .bl b => .bl b
  | _, _, .int i => .int i
  | _, _, .str x => .str x
  | _, _, .lst q a => .lst (q.imp (fun z => z.imp (h _ _ (fun _ w => by cases w)) fun ⟨o, z⟩ => ⟨o, h _ _ (fun _ w => by cases w) z⟩) id) (RpAll.tr h a)
  | _, _, .tup q a => .tup (q.imp (fun z => z.imp (h _ _ (fun _ w => by cases w)) fun ⟨o, z⟩ => ⟨o, h _ _ (fun _ w => by cases w) z⟩) id) (RpAll.tr h a)
  | _, _, .dct q k a => .dct (h _ _ (fun _ w => by cases w) q) k (RpAll.tr h a)
  | _, _, .ref q => .ref (h _ _ (fun _ w => by cases w) q)
theorem RpAll.tr (h : ∀ a u, (∀ k, u ≠ .dK k) → Hv a = some u → Hv' a = some u) : ∀ {vs : List V} {ds : List D}, RpAll K Hv vs ds → RpAll K Hv' vs ds
  | _, _, .nil => .nil
  | _, _, .cons q t => .cons (Rp.tr h q) (RpAll.tr h t)
end
end
theorem lend_val {M : Hm} {env : Env Hm} {j : Nat} {sd : SD Empty} (h : (lendE M env)[j]? = some (some sd)) : ∃ d, sd = .val d := by
  cases env with
  | nil => simp [lendE] at h
  | cons x es =>
    have h : (es[j]?).map (fun x => x.bind (lendS M)) = some (some sd) := by rw [← List.getElem?_map]; exact h
    cases e : es[j]? with
    | none => rw [e] at h; cases h
    | some o =>
      rw [e] at h
      cases o with
      | none => cases h
      | some s =>
        have h : lendS M s = some sd := by injection h
        cases s with
        | val d =>
          cases q : deepD M 9 d with
          | none => simp only [lendS, q] at h; cases h
          | some d' => simp only [lendS, q] at h; cases h; exact ⟨_, rfl⟩
        | lst l =>
          cases q : mapO (deepD M 9) l with
          | none => simp only [lendS, q] at h; cases h
          | some d' => simp only [lendS, q] at h; cases h; exact ⟨_, rfl⟩
        | _ => cases h
section
variable {K : PySem.W.Frag} {W : Wd} {wx : WX}
instance {j : Nat} {t : TE} {a : Env Empty → Res Empty D} [A : SatE K (wOf []) wx t a] : SatE K W wx (tLendK j t) (eLendK j a) := ⟨fun F env σ H O Fp Q r h => by
  obtain ⟨x, es0, ys, rfl, rfl⟩ := hm_cons r
  unfold eLendK at h
  cases hM : hmOf (x :: es0) with
  | none => rw [hM] at h; exact h.elim
  | some M =>
    rw [hM] at h
    cases el : slotE (j + 1) (x :: es0) with
    | none => rw [el] at h; exact h.elim
    | some es =>
      rw [el] at h
      dsimp only at h
      cases em : mapO (deepD M 9) (es.map (·.2)) with
      | none => rw [em] at h; exact h.elim
      | some vs =>
        rw [em] at h
        dsimp only at h
        obtain ⟨p, kvs, he, hv, hF, hp, hk, ha⟩ := ownE r el
        have hz : vs.length = es.length := by rw [mapO_len em, List.length_map]
        refine ⟨p, _, hp, trivial, fun od => ?_⟩
        generalize hH1 : upd H p (.frz od (.dK kvs)) = H1
        have hp1 : H1 p = some (.frz od (.dK kvs)) := by rw [← hH1]; exact upd_same
        have tr : ∀ a u, (∀ k, u ≠ .dK k) → vw noO H a = some u → vw noO H1 a = some u := fun a u n z => by
          have hn : ¬ noO a := fun w => w
          rw [vw_out hn] at z
          by_cases e : a = p
          · subst e; rw [hp] at z; cases z; exact absurd rfl (n _)
          · rw [vw_out hn, ← hH1, upd_ne e]; exact z
        have r1 := lend_in r hM
        have hjl : j < (lendE M (x :: es0)).length := by
          have h0 := (List.getElem?_eq_some_iff.mp he).1
          show j < (es0.map _).length
          rw [List.length_map]; simpa using h0
        have rel : Rel (Ω := Empty) K (wOf []) ⟨H1, noO, fun _ => [], ys⟩ ((lendE M (x :: es0)).set j (some (.val (.dict (zipE es vs))))) ys H1 noO (fun _ => []) := {
          nms := ⟨fun j a _ h => (by cases h), fun i h => (Nat.not_lt_zero _ h).elim, fun o => o.elim, fun a n h => .inl h, fun i h => (Nat.not_lt_zero _ h).elim⟩
          len := by rw [List.length_set]; exact r1.len
          slot := fun k sd hk' => by
            by_cases e : j = k
            · subst e
              rw [List.getElem?_set_self hjl] at hk'
              cases hk'
              refine ⟨_, by rw [List.getElem?_cons_succ] at hv; exact hv, rfl, .dct (vw_outV (fun z => z) hp1 rfl) (by rw [zipE1 hz]; exact hk) ?_⟩
              rw [zipE2 hz]
              exact (mapO_ok (deep_ok r hM 9) ha em).tr tr
            · rw [List.getElem?_set_ne e] at hk'
              obtain ⟨d, rfl⟩ := lend_val hk'
              obtain ⟨v, g1, g2⟩ := r1.slot k _ hk'
              exact ⟨v, g1, rfl, g2.2.tr tr⟩
          own := fun j a z => by cases z
          dis := fun j k a z => by cases z
          mine := fun j a z => by cases z
          sub := fun a z => z
          new := fun a z => .inl z
          all := fun a z => z.elim
          keep := fun a o z _ => z
          fix := fun j z => rfl
          pinned := fun i a h => by cases h
          pin := fun j a z => by cases z
          base := fun a z => z.elim
          pw := fun j z => rfl }
        refine A.go _ _ ys H1 noO _ _ rel ?_
        cases e : a ((lendE M (x :: es0)).set j (some (.val (.dict (zipE es vs))))) with
        | ok d e2 =>
          rw [e] at h
          have h : EPost K W wx F (some .non :: ys) H O Q (if flatD d = true then .ok d (x :: es0) else .bad) := h
          intro v H' O' Fp' r2 x2 q2
          have kp : ∀ a o, H1 a = some o → H' a = some o := fun a o z => r2.keep a o z (fun j w => by cases w)
          refine ⟨kp _ _ hp1, ?_⟩
          by_cases f : flatD d = true
          · rw [if_pos f] at h
            have g : Ex H (upd H' p (.dK kvs)) := fun a o z => by
              by_cases e : a = p
              · subst e; rw [hp] at z; cases z; exact upd_same
              · rw [upd_ne e]; exact kp a o (by rw [← hH1, upd_ne e]; exact z)
            exact h v _ O Fp (r.grow g) (vw_ex g) (flat_rp q2 f)
          · rw [if_neg f] at h; exact h.elim
        | err c pp e2 => rw [e] at h; exact h.elim
        | bad => rw [e] at h; exact h.elim⟩
end
/-! ### xs[::-1] -/
section
variable {Ω : Type}
def eRevL (a : Env Ω → Res Ω D) (env : Env Ω) : Res Ω D := (a env).bind fun d e => match asL d with
  | some l => .ok (.list l.reverse) e
  | none => .bad
variable [ObS Ω] {K : PySem.W.Frag} {W : Wd} {wx : WX}
instance {ta : TE} {a : Env Ω → Res Ω D} [A : SatE K W wx ta a] : SatE K W wx (tRevL K ta) (eRevL a) := ⟨fun F env σ H O Fp Q r h => by
  refine A.thn r ((post_bind h).mono (Ex.refl _) fun d e1 h v1 H1 O1 Fp1 r1 x1 q1 => ?_)
  cases e : asL d with
  | none => rw [e] at h; exact h.elim
  | some l =>
    rw [e] at h
    obtain rfl := asL_some e
    obtain ⟨p, xs, rfl, h1, h2⟩ := q1.lst'
    refine ⟨p, xs, rfl, vw_l h1, fun b hb => ?_⟩
    have x2 := Ex.new (o := HO.lst xs.reverse) hb
    exact h _ _ O1 Fp1 (r1.grow x2) (x1.trans (vw_ex x2)) (.lst (.of (vw_new (r1.notO hb) hb)) (h2.reverse.mono (vw_ex x2)))⟩
end
end Ve

set_option Elab.async false
set_option linter.all false
set_option maxRecDepth 100000
set_option maxHeartbeats 4000000
/-! Caught exceptions. -/
namespace Ve
open PySem PySem.Spec PyProof.Rows L2 Evl Ny
/-! ### which class is which -/
/-- a class by its name: a built-in one or one of the text -/
def cvE (K : PySem.W.Frag) (C : Str) : Value := if C = "ValueError" then .type "ValueError" else .ref (He.ga K C)
def cvV (K : PySem.W.Frag) (C : Str) : V := if C = "ValueError" then .ty "ValueError" else .ref (He.ga K C)
theorem cv_rel {K : PySem.W.Frag} {C : Str} {u : Value} (h : RelV (cvV K C) u) : u = cvE K C := by
  unfold cvV at h
  unfold cvE
  split at h
  · rename_i e; rw [if_pos e]; exact h
  · rename_i e; rw [if_neg e]; exact h
/-- of each pair of names whether the first class is under the second -/
abbrev ETab := List (Str × Str × Bool)
def tabE (tab : ETab) (c C : Str) : Option Bool := (tab.find? fun e => decide (e.1 = c) && decide (e.2.1 = C)).map (·.2.2)
theorem tabE_mem {tab : ETab} {c C : Str} {b : Bool} (h : tabE tab c C = some b) : (c, C, b) ∈ tab := by
  unfold tabE at h
  obtain ⟨e, h1, rfl⟩ := Option.map_eq_some_iff.mp h
  have h2 := List.mem_of_find?_eq_some h1
  have h3 := List.find?_some h1
  simp only [Bool.and_eq_true, decide_eq_true_eq] at h3
  obtain ⟨x, y, z⟩ := e
  obtain ⟨rfl, rfl⟩ := h3
  exact h2
class EF (K : PySem.W.Frag) (tab : outParam ETab) : Prop where
  kit : ∀ e ∈ tab, PySem.W.kitOne K (.ref (He.ga K e.1)) (cvE K e.2.1) = some e.2.2 ∧ PySem.W.exmOne K (.ref (He.ga K e.1)) (cvE K e.2.1) = some e.2.2
  exc : ∀ e ∈ tab, ExcC K (He.ga K e.1)
def excCB (K : PySem.W.Frag) (D : Addr) : Bool :=
  decide (PySem.W.findIn K (.ref D) "__getattribute__" = some (some (.builtin "BaseException.__getattribute__"))) && (decide (PySem.W.findIn K (.ref D) "__getattr__" = some none) && (decide (PySem.W.subIn K (.ref D) (.type "BaseException") = some true) && (PySem.W.hasDictIn K D && (decide (PySem.W.findIn K (.ref D) "__class__" = some (some (.builtin "object.__class__"))) &&
  (decide (PySem.W.specialIn K (.builtin "object.__class__") "__get__" = some (some (.builtin "getset_descriptor.__get__"))) && (decide (PySem.W.takesIn K (.builtin "object.__class__") = some true) && decide (PySem.W.mroIn K D (.type "object") = some true)))))))
theorem excC_ok {K : PySem.W.Frag} {D : Addr} (h : excCB K D = true) : ExcC K D := by
  unfold excCB at h
  simp only [Bool.and_eq_true, decide_eq_true_eq] at h
  exact ⟨h.1, h.2.1, h.2.2.1, h.2.2.2.1, h.2.2.2.2.1, h.2.2.2.2.2.1, h.2.2.2.2.2.2.1, h.2.2.2.2.2.2.2⟩
def tabB (K : PySem.W.Frag) (tab : ETab) : Bool := tab.all fun e => decide (PySem.W.kitOne K (.ref (He.ga K e.1)) (cvE K e.2.1) = some e.2.2) && (decide (PySem.W.exmOne K (.ref (He.ga K e.1)) (cvE K e.2.1) = some e.2.2) && excCB K (He.ga K e.1))
theorem tab_ok {K : PySem.W.Frag} {tab : ETab} (h : tabB K tab = true) : EF K tab := by
  have q := fun e he => List.all_eq_true.mp h e he
  simp only [Bool.and_eq_true, decide_eq_true_eq] at q
  exact ⟨fun e he => ⟨(q e he).1, (q e he).2.1⟩, fun e he => excC_ok (q e he).2.2⟩
theorem names_own {X : Cx} {C : Str} (hg : Gl X C) (hm : X.mg C = some (.ref (He.ga X.K C))) (hn : C ≠ "ValueError") (hd : (C == ("__debug__" : Str)) = false := by decide) : Names X C (cvE X.K C) := by
  unfold cvE; rw [if_neg hn]; exact ⟨hg, hd, .inl hm⟩
theorem names_ve {X : Cx} (hg : Gl X "ValueError") (hm : X.mg "ValueError" = none) (hb : bootBuiltins "ValueError" = some (.type "ValueError")) : Names X "ValueError" (cvE X.K "ValueError") := ⟨hg, by decide, .inr ⟨hm, hb, by decide⟩⟩
/-! ### the readings -/
def tSuite (K : PySem.W.Frag) (t : Addr → Addr → TS) : Addr → Value → Option Addr → TS := fun a cls d Dn σ H => ∃ C, cls = .ref C ∧ d = none ∧ ExcC K C ∧ t a C Dn σ H
def tTryO (K : PySem.W.Frag) (C : Str) (tb : WX → TS) (t : Addr → Addr → TS) (Wout : WX) : TS := fun D σ H => tb (wOnly K (cvE K C) (tSuite K t) Wout D) D σ H
def tTryA (K : PySem.W.Frag) (C : Str) (i : Nat) (tb : WX → TS) (t : Addr → Addr → TS) (Wout : WX) : TS := fun D σ H => tb (wAs K (cvE K C) i (tSuite K t) Wout D) D σ H
def tIsE (K : PySem.W.Frag) (i : Nat) (a D : Addr) (C : Str) : TE := tCB (rIsE K D a) (tCons (tVar i) (tCons (tC (cvV K C)) tNil))
section
variable {X : Cx} {C n : Str} {i : Nat} {body suite : List Stmt} {b₀ : Stmt} {np pos pos' : Pos} {tb : WX → TS} {t : Addr → Addr → TS} {Wout : WX}
theorem pss_suite {a : Addr} {oe : Obj} {cls : Value} {d : Option Addr} {pn : List (Addr × Obj)} {st : List Stmt} (hz : Zc cls d oe) (hv : ∃ vs, oe.data = .fields vs)
    (h : ∀ D, ExcC X.K D → Zc (.ref D) none oe → PSs (X.suite a ((a, oe) :: pn)) st (t a D)) : PSs (X.suite a ((a, oe) :: pn)) st (tSuite X.K t a cls d) :=
  ⟨fun pins s σ H Dn I ⟨D, e1, e2, hC, q⟩ => by subst e1 e2; exact (h D hC hz).run pins s σ H Dn I q⟩
theorem ps_tryO (tk : Takes X Wout) (hs : X.stack = X.env :: X.outer) (hf : X.env.frame = some X.env.locals) (hc : Names X C (cvE X.K C))
    (hb : ∀ (W : WX) (pn : List (Addr × Obj)) (xe : Value → Shared → Prop), Takes (X.tr pn xe) W → PSs (X.tr pn xe) body (tb W))
    (hsu : ∀ (a : Addr) (oe : Obj) (D : Addr) (pn : List (Addr × Obj)), ExcC X.K D → Zc (.ref D) none oe → (∃ vs, oe.data = .fields vs) → PSs (X.suite a ((a, oe) :: pn)) (b₀ :: suite) (t a D)) :
    PS X (.Try body [.ExceptHandler (some (.Name C np)) none (b₀ :: suite) pos'] [] [] pos) (tTryO X.K C tb t Wout) :=
  ps_try_only hs hf hc tk (fun W pn xe k _ => hb W pn xe k) fun a oe cls d pn hz hv => pss_suite hz hv fun D hC hz => hsu a oe D pn hC hz hv
theorem ps_tryA (tk : Takes X Wout) (hs : X.stack = X.env :: X.outer) (hf : X.env.frame = some X.env.locals) (hN : X.N.Nodup) (hi : X.N[i]? = some n) (hln : X.env.kindOf n = some .local) (hc : Names X C (cvE X.K C))
    (hb : ∀ (W : WX) (pn : List (Addr × Obj)) (xe : Value → Shared → Prop), Takes (X.tr pn xe) W → PSs (X.tr pn xe) body (tb W))
    (hsu : ∀ (a : Addr) (oe : Obj) (D : Addr) (pn : List (Addr × Obj)), ExcC X.K D → Zc (.ref D) none oe → (∃ vs, oe.data = .fields vs) → PSs (X.suite a ((a, oe) :: pn)) (b₀ :: suite) (t a D)) :
    PS X (.Try body [.ExceptHandler (some (.Name C np)) (some n) (b₀ :: suite) pos'] [] [] pos) (tTryA X.K C i tb t Wout) :=
  ps_try_as hs hf hN hi hln hc tk (fun W pn xe k _ => hb W pn xe k) fun a oe cls d pn hz hv => pss_suite hz hv fun D hC hz => hsu a oe D pn hC hz hv
theorem pe_clsO {p : Pos} (hg : Gl X C) (hm : X.mg C = some (.ref (He.ga X.K C))) (hn : C ≠ "ValueError") (hd : (C == ("__debug__" : Str)) = false := by decide) : PE X (.Name C p) (tC (cvV X.K C)) := by
  unfold cvV; rw [if_neg hn]; exact pe_glob hg hm rfl hd
theorem pe_isE (K : PySem.W.Frag) {e : Expr} {a D : Addr} (h : PE X e (tCB (rIsE K D a) (tCons (tVar i) (tCons (tC (cvV K C)) tNil)))) : PE X e (tIsE K i a D C) := h
theorem bo_ValueError : bootBuiltins "ValueError" = some (.type "ValueError") := by decide +kernel
theorem pe_clsV {p : Pos} (h : PE X (.Name "ValueError" p) (tC (.ty "ValueError"))) : PE X (.Name "ValueError" p) (tC (cvV X.K "ValueError")) := h
end
/-! ### the model -/
section
variable {Ω : Type}
def calmS : Flow Ω → Flow Ω
  | .err _ _ _ => .bad
  | f => f
def bTryO (tab : ETab) (C : Str) (m s : Env Ω → Flow Ω) (env : Env Ω) : Flow Ω := match m env with
  | .err c none e => (match tabE tab c C with
    | some true => calmS (s e)
    | some false => .err c none e
    | none => .bad)
  | .err _ (some _) _ => .bad
  | f => f
def unS (i : Nat) : Flow Ω → Flow Ω
  | .nx e => .nx (e.set i none)
  | .bk e => .bk (e.set i none)
  | .ct e => .ct (e.set i none)
  | .rt r e => .rt r e
  | .err _ _ _ => .bad
  | .bad => .bad
def bTryA (tab : ETab) (C : Str) (i : Nat) (m : Env Ω → Flow Ω) (s : Str → Env Ω → Flow Ω) (env : Env Ω) : Flow Ω := match m env with
  | .err c none e => (match tabE tab c C with
    | some true => if i < e.length then unS i (s c (e.set i none)) else .bad
    | some false => .err c none e
    | none => .bad)
  | .err _ (some _) _ => .bad
  | f => f
def eIsE (tab : ETab) (c C : Str) (env : Env Ω) : Res Ω D := match tabE tab c C with
  | some b => .ok (.bool b) env
  | none => .bad
end
abbrev noW : WX := fun _ _ _ _ => False
/-- the slot i holds the exception at a and is let be -/
def Wd.at_ (W : Wd) (i : Nat) (a : Addr) : Wd := ⟨fun j => if j = i then false else W j, fun j => if j = i then some a else none⟩
class NeN (i j : Nat) : Prop where
  ne : j ≠ i
instance {j : Nat} : NeN 0 (j + 1) := ⟨by omega⟩
instance {i : Nat} : NeN (i + 1) 0 := ⟨by omega⟩
instance {i j : Nat} [h : NeN i j] : NeN (i + 1) (j + 1) := ⟨by have := h.ne; omega⟩
instance {W : Wd} {i j : Nat} {a : Addr} [w : Wr W j] [h : NeN i j] : Wr (W.at_ i a) j := ⟨by
  show (if j = i then false else W j) = true
  rw [if_neg h.ne]; exact w.eq⟩
section
variable {Ω : Type} [ObS Ω] {K : PySem.W.Frag} {W : Wd} {wx : WX} {F : Fr} {env : Env Ω} {σ : L2.St} {H : Hp} {O : Ow} {Fp : Nat → List Addr}
theorem Rel.pinI (r : Rel K W F env σ H O Fp) {i : Nat} {a : Addr} (hW : W i = true) (hi : i < env.length) :
    Rel K (W.at_ i a) ⟨F.H0, F.O0, F.P, σ.set i (some (.ref a))⟩ (env.set i none) (σ.set i (some (.ref a))) H O Fp := by
  have r := r.drop i
  have ho := r.nms.off hW
  have ne : ∀ j, j < ObS.off Ω → j ≠ i := fun j h => by omega
  refine ⟨⟨r.nms.un, fun j hj => ?_, r.nms.lt, r.nms.nn, fun j hj => ?_⟩, by rw [List.length_set]; exact r.len, fun j sd h => ?_, r.own, r.dis, r.mine, r.sub, r.new, r.all, r.keep, fun _ _ => rfl, fun j b h => ?_, r.pin, r.base, fun j h => ?_⟩
  · show (if j = i then false else W j) = false
    rw [if_neg (ne j hj)]; exact r.nms.hw j hj
  · show (σ.set i _)[j]? = _
    rw [List.getElem?_set_ne (Ne.symm (ne j hj))]; exact r.low j hj
  · have e : i ≠ j := fun z => by
      subst z; rw [List.getElem?_set] at h; simp at h
    obtain ⟨v, h1, h2⟩ := r.slot j sd h
    exact ⟨v, by rw [List.getElem?_set_ne e]; exact h1, h2⟩
  · have h : (if j = i then some a else none) = some b := h
    split at h
    · rename_i e
      cases h
      subst e
      refine ⟨if_pos rfl, ?_⟩
      show (σ.set j _)[j]? = _
      have := r.len
      rw [List.length_set] at this
      rw [List.getElem?_set_self (by rw [this]; exact hi)]
    · cases h
  · have h : (if j = i then false else W j) = true := h
    split at h
    · cases h
    · exact r.pw j h
theorem Rel.unpin {i : Nat} {a : Addr} {env1 : Env Ω} {σ2 : L2.St} {H2 : Hp} {O2 : Ow} {Fp2 : Nat → List Addr} (r : Rel K W F env σ H O Fp) (hW : W i = true)
    (c : Rel K (W.at_ i a) ⟨F.H0, F.O0, F.P, σ.set i (some (.ref a))⟩ env1 σ2 H2 O2 Fp2) : Rel K W F env1 σ2 H2 O2 Fp2 := by
  have ff : ∀ j, W j = false → σ2[j]? = F.σ0[j]? := fun j h => by
    have e : j ≠ i := fun z => by rw [z, hW] at h; cases h
    have q := c.fix j (show (if j = i then false else W j) = false by rw [if_neg e]; exact h)
    rw [q]
    show (σ.set i _)[j]? = _
    rw [List.getElem?_set_ne (Ne.symm e)]; exact r.fix j h
  exact ⟨⟨c.nms.un, r.nms.hw, c.nms.lt, c.nms.nn, r.nms.dz⟩, c.len, c.slot, c.own, c.dis, c.mine, c.sub, c.new, c.all, c.keep, ff, r.pinned, c.pin, c.base, r.pw⟩
theorem Rel.wipe1 (r : Rel K W F env σ H O Fp) {i : Nat} (hW : W i = true) : Rel K W F (env.set i none) (σ.set i none) H O Fp := by
  have r := r.drop i
  refine ⟨r.nms, by rw [List.length_set]; exact r.len, fun j sd h => ?_, r.own, r.dis, r.mine, r.sub, r.new, r.all, r.keep, fun j h => ?_, r.pinned, r.pin, r.base, r.pw⟩
  · have e : i ≠ j := fun z => by
      subst z; rw [List.getElem?_set] at h; simp at h
    obtain ⟨v, h1, h2⟩ := r.slot j sd h
    exact ⟨v, by rw [List.getElem?_set_ne e]; exact h1, h2⟩
  · have e : i ≠ j := fun z => by rw [← z, hW] at h; cases h
    rw [List.getElem?_set_ne e]; exact r.fix j h
theorem calm_post {D0 : Ends} {f : Flow Ω} (h : FPost K W wx F H O D0 (calmS f)) : FPost K W noW F H O D0 f := by
  cases f with
  | err c p e => exact h.elim
  | nx e => exact h
  | bk e => exact h
  | ct e => exact h
  | rt v e => exact h
  | bad => exact h
/-- what does not depend on its first thing -/
class Cst {α β : Type} (f : α → β) (m : outParam β) : Prop where
  eq : ∀ w, f w = m
instance {α β : Type} {m : β} : Cst (fun _ : α => m) m := ⟨fun _ => rfl⟩
instance {tab : ETab} {C : Str} {tb : WX → TS} {t : Addr → Addr → TS} {m s : Env Ω → Flow Ω} {mB : WX → Env Ω → Flow Ω} {sB : Addr → Addr → Env Ω → Flow Ω} {sC : Addr → Env Ω → Flow Ω} [E : EF K tab] [B : ∀ wx', SatS K W wx' (tb wx') (mB wx')] [cB : Cst mB m] [S : ∀ a D, SatS K W noW (t a D) (sB a D)] [cS : Cst sB sC] [cC : Cst sC s] : SatS K W wx (tTryO K C tb t wx) (bTryO tab C m s) := ⟨fun F env σ H O Fp D0 r h => by
  refine (B _).go F env σ H O Fp D0 r ?_
  rw [cB.eq]
  unfold bTryO at h
  cases e : m env with
  | nx e1 => rw [e] at h; exact h
  | bk e1 => rw [e] at h; exact h
  | ct e1 => rw [e] at h; exact h
  | rt v e1 => rw [e] at h; exact h
  | bad => rw [e] at h; exact h
  | err c p e1 =>
    rw [e] at h
    cases p with
    | some d => exact h.elim
    | none =>
      intro cls dx σ1 H1 O1 Fp1 r1 x1 q1
      obtain ⟨rfl, q2⟩ := q1
      have q2 : dx = none := q2
      subst q2
      dsimp only at h
      cases z : tabE tab c C with
      | none => rw [z] at h; exact h.elim
      | some b =>
        rw [z] at h
        have hm := tabE_mem z
        refine ⟨b, (E.kit _ hm).2, fun hb a ha => ?_, fun hb => ?_⟩
        · subst hb
          refine ⟨_, rfl, rfl, E.exc _ hm, (S a _).go F e1 σ1 H1 O1 Fp1 D0 r1 ?_⟩
          rw [cS.eq, cC.eq]; exact FPost.mono (calm_post h) x1
        · subst hb
          exact h _ _ σ1 H1 O1 Fp1 r1 x1 ⟨rfl, rfl⟩⟩
instance {tab : ETab} {C : Str} {i' i : Nat} {tb : WX → TS} {t : Addr → Addr → TS} {m : Env Ω → Flow Ω} {s : Str → Env Ω → Flow Ω} {mB : WX → Env Ω → Flow Ω} {sB : Addr → Str → Env Ω → Flow Ω} [E : EF K tab] [ix : Ix Ω i' i] [w : Wr W i] [B : ∀ wx', SatS K W wx' (tb wx') (mB wx')] [cB : Cst mB m] [S : ∀ a c, SatS K (W.at_ i a) noW (t a (He.ga K c)) (sB a c)] [cS : Cst sB s] :
    SatS K W wx (tTryA K C i' tb t wx) (bTryA tab C i m s) := ⟨fun F env σ H O Fp D0 r h => by
  refine (B _).go F env σ H O Fp D0 r ?_
  rw [cB.eq]
  unfold bTryA at h
  cases e : m env with
  | nx e1 => rw [e] at h; exact h
  | bk e1 => rw [e] at h; exact h
  | ct e1 => rw [e] at h; exact h
  | rt v e1 => rw [e] at h; exact h
  | bad => rw [e] at h; exact h
  | err c p e1 =>
    rw [e] at h
    cases p with
    | some d => exact h.elim
    | none =>
      intro cls dx σ1 H1 O1 Fp1 r1 x1 q1
      obtain ⟨rfl, q2⟩ := q1
      have q2 : dx = none := q2
      subst q2
      dsimp only at h
      cases z : tabE tab c C with
      | none => rw [z] at h; exact h.elim
      | some b =>
        rw [z] at h
        have hm := tabE_mem z
        refine ⟨b, (E.kit _ hm).2, fun hb a ha => ?_, fun hb => ?_⟩
        · subst hb
          dsimp only at h
          by_cases hi : i < e1.length
          · rw [if_pos hi] at h
            have h := FPost.mono h x1
            refine ⟨_, rfl, rfl, E.exc _ hm, ?_⟩
            rw [vis_set ix]
            refine (S a c).go ⟨F.H0, F.O0, F.P, σ1.set i (some (.ref a))⟩ (e1.set i none) (σ1.set i (some (.ref a))) H1 O1 Fp1 _ (r1.pinI w.eq hi) ?_
            rw [cS.eq]
            cases e2 : s c (e1.set i none) with
            | err c2 p2 e3 => rw [e2] at h; exact h.elim
            | nx e3 =>
              rw [e2] at h
              intro σ2 H2 O2 Fp2 r2 x2
              show D0.nx ((vis Ω σ2).set i' none) H2
              rw [vis_set ix]
              exact h _ H2 O2 Fp2 ((r1.unpin w.eq r2).wipe1 w.eq) x2
            | bk e3 =>
              rw [e2] at h
              intro σ2 H2 O2 Fp2 r2 x2
              show D0.bk ((vis Ω σ2).set i' none) H2
              rw [vis_set ix]
              exact h _ H2 O2 Fp2 ((r1.unpin w.eq r2).wipe1 w.eq) x2
            | ct e3 =>
              rw [e2] at h
              intro σ2 H2 O2 Fp2 r2 x2
              show D0.ct ((vis Ω σ2).set i' none) H2
              rw [vis_set ix]
              exact h _ H2 O2 Fp2 ((r1.unpin w.eq r2).wipe1 w.eq) x2
            | rt v e3 =>
              rw [e2] at h
              intro u σ2 H2 O2 Fp2 r2 x2 q
              exact h u σ2 H2 O2 Fp2 (r1.unpin w.eq r2) x2 q
            | bad => rw [e2] at h; exact h
          · rw [if_neg hi] at h; exact h.elim
        · subst hb
          exact h _ _ σ1 H1 O1 Fp1 r1 x1 ⟨rfl, rfl⟩⟩
instance {tab : ETab} {C c : Str} {i' i : Nat} {a : Addr} [E : EF K tab] [ix : Ix Ω i' i] : SatE (Ω := Ω) K (W.at_ i a) wx (tIsE K i' a (He.ga K c) C) (eIsE tab c C) := ⟨fun F env σ H O Fp Q r h => by
  unfold eIsE at h
  cases z : tabE tab c C with
  | none => rw [z] at h; exact h.elim
  | some b =>
    rw [z] at h
    have hm := tabE_mem z
    have hs : σ[i]? = some (some (.ref a)) := (r.pinS (show (if i = i then some a else none) = some a from if_pos rfl)).2
    exact ⟨_, (vis_get ix).trans hs, _, _, b, rfl, fun u hu => cv_rel hu, (E.kit _ hm).1, h _ H O Fp r (Ex.refl _) (.bl _)⟩⟩
end
end Ve

set_option Elab.async false
set_option linter.all false
set_option maxRecDepth 100000
set_option maxHeartbeats 4000000
/-! Defs that are run where no repr is under way; repr. -/
namespace Ve
open PySem PySem.Spec PyProof.Rows L2 Evl Ny
/-- a def's promise where no guard stands around -/
structure FnOkG (P : Program) (w : World) (K : PySem.W.Frag) (mg : Str → Option Value) (base : Heap) (CX : CXT) (k : Nat) (f : Addr) (fd : FuncData) (ps : List Str) (sp : Sp) : Prop where
  len : ∀ vs H Q E, sp vs H Q E → vs.length = ps.length
  run : ∀ (A : Around) (outer : List PySem.Env) (s : Shared) (H : Hp) (args : Args) (us : List Value) (vs : List V) (Q : VK) (E : XK), Room k A → A.guards = some [] → Env0 P w K mg base A outer s H → BindsTo s fd args (ps.zip us) → Vals vs us → sp vs H Q E →
    codeAny (model P w) A (.call (.ref f) args) (CR CX outer P w H s Q E) s
structure CallOkG (P : Program) (w : World) (K : PySem.W.Frag) (mg : Str → Option Value) (base : Heap) (CX : CXT) (k : Nat) (x : Str) (ps : List Str) (sp : Sp) : Prop where
  ex : ∃ f fd, mg x = some (.ref f) ∧ PySem.W.keepIn K (.ref f) = true ∧ Binds K fd ps [] ∧ FnOkG P w K mg base CX k f fd ps sp
section
variable {P : Program} {w : World} {K : PySem.W.Frag} {mg : Str → Option Value} {base : Heap} {x qual : Str} {params : Arguments} {body : List Stmt} {scope : Scope} {dvs : List V} {kws : List (Str × V)} {f : Addr} {fd : FuncData} {CX : CXT} {ps : List Str} {k : Nat} {sp sp' : Sp}
theorem okG {N : List Str} (F : FunD K x qual params body scope dvs kws f fd) (S : FnScope N ps scope) (len : ∀ vs H Q E, sp vs H Q E → vs.length = ps.length)
    (hbody : ∀ (cdv : Value) (A : Around) (outer : List PySem.Env) (s : Shared) (H : Hp) (vs : List V) (Q : VK) (E : XK), Room k (A.deeper (envOfC qual scope s.heap.objs.size f cdv)) → A.guards = some [] → sp vs H Q E →
      ∃ t, PSs (cxOf CX P w K mg base N qual scope f cdv A outer s H E) body t ∧ t { nx := fun _ H' => Q .non H', rt := Q } (L2.start N vs) H) : FnOkG P w K mg base CX (k + 1) f fd ps sp := by
  obtain ⟨oc, od, dV, kV, doc, pm, an, cdv, ct, osl, rfl, lk, hcd, _, _⟩ := F.ex
  exact ⟨len, fun A outer s H args us vs Q E hr hg e0 hb r hsp => LamX.run_ofS lk hcd S hr e0 hb r (len _ _ _ _ hsp) fun hr' => hbody cdv A outer s H vs Q E hr' hg hsp⟩
theorem FnOkG.imp (F : FnOkG P w K mg base CX k f fd ps sp) (h : ∀ vs H Q E, sp' vs H Q E → sp vs H Q E) : FnOkG P w K mg base CX k f fd ps sp' :=
  ⟨fun vs H Q E q => F.len vs H Q E (h _ _ _ _ q), fun A outer s H args us vs Q E hr hg he hb hv hs => F.run A outer s H args us vs Q E hr hg he hb hv (h _ _ _ _ hs)⟩
theorem fnG_cx0 (F : FnOkG P w K mg base (L2.CX P w) k f fd ps sp) (h : ∀ vs H Q E, sp vs H Q E → sp vs H Q E0) : FnOkG P w K mg base CX0 k f fd ps sp :=
  ⟨F.len, fun A outer s H args us vs Q E hr hg he hb hv hs => codeAny_mono (F.run A outer s H args us vs Q E0 hr hg he hb hv (h _ _ _ _ hs)) fun r s' q => by
    cases r with
    | error e =>
      obtain ⟨_, _, _, _, _, _, _, _, _, _, _, _, z⟩ := (show L2.CX P w outer H s E0 e s' from q)
      exact z.elim
    | ok fl => cases fl <;> exact q⟩
theorem law_okG {m : List (SD Empty) → RetM Empty} (F : FnOkG P w K mg base (L2.CX P w) k f fd ["_law_script"] (spV [] 1 m K)) (hm : ∀ ns : List Int, ns.length ≤ 63 → m [.val (.list (ns.map PyData.int))] = .ok (.val (.bool true)) []) :
    FnOkG P w K mg base CX0 k f fd ["_law_script"] (spLaw K) := fnG_cx0 (F.imp (law_sp hm)) fun vs H Q E h => h
end
section
variable {X : Cx} {k : Nat} {x : Str} {ps : List Str} {sp : Sp} {W : WX} {e : Expr} {es : List Expr} {t : TA} {p pos : Pos}
theorem runG {CX : CXT} {f : Addr} {fd : FuncData} {E : L2.St → XK} {pins : List (Addr × Obj)} {σ : L2.St} {H : Hp} {s : Shared} {Q : VK} {us : List Value} {vs : List V} (F : FnOkG X.prog X.w X.K X.mg X.base CX k f fd ps sp) (hr : Room k X.A) (hgd : X.A.guards = some []) (hb : Binds X.K fd ps []) (hx : PassesAt CX X σ (E σ))
    (I : Inv X pins σ H s) (r : Vals vs us) (h : sp vs H Q (E σ)) : wpAny (model X.prog X.w) X.A (call (.ref f) us) (EP X pins σ Q) X.xe s := by
  have b := hb s us I.kIn (by rw [List.append_nil, ← r.length]; exact F.len _ _ _ _ h)
  rw [List.append_nil] at b
  refine wpAny_call (codeAny_mono (F.run X.A X.stack s H ⟨us, []⟩ us vs Q (E σ) hr hgd I.env0 b r h) fun o s' hq => ?_)
  rcases o with z | fl
  · exact hx pins H s z s' I hq
  · cases fl with
    | ret u => exact I.after hq
    | next => cases hq
    | brk => cases hq
    | cont => cases hq
theorem pe_cG (C : CallOkG X.prog X.w X.K X.mg X.base (L2.CX X.prog X.w) k x ps sp) (hr : Room k X.A) (hgd : X.A.guards = some []) (tk : Takes X W) (ha : PA X (e :: es) t) (hg : Gl X x := by rfl) (hdb : (x == ("__debug__" : Str)) = false := by decide)
    (he : starEach (e :: es) X.env = (false, eval e X.env) :: starEach es X.env := by rfl) (hpl : (backTo pos (starEach es X.env)).any (·.1) = false := by rfl) :
    PE X (.Call (.Name x p) (e :: es) [] pos) (tCallS sp (WE W) t) := by
  obtain ⟨f, fd, hm, hk, hb, F⟩ := C.ex
  refine ⟨fun pins s σ H Q I h => wpAny_Call_Name_kw (ld_glob I hg hm ?_ hdb)⟩
  refine PySem.W.callWith_K (h₀ := X.base) I.ok.mod.kin hk (thn (ha.run pos pins s σ H _ I h) fun us s1 ⟨vs, H1, I1, r, q⟩ => ⟨I1.kIn, ?_⟩) he hpl
  exact runG F hr hgd hb (passAt tk σ) I1 r q
/-! ### repr -/
def rRepr (K : PySem.W.Frag) : List V → Hp → VK → Prop := fun xs H Q => ∃ (p : Addr) (d : PyData), xs = [.ref p] ∧ Dp K H (.ref p) d ∧ d.showable = true ∧ d.hasDict = false ∧ d.depth ≤ 60 ∧ d.shown.length ≤ sizeLine ∧ Q (.str d.shown) H
theorem call_repr (hu : X.A.units + 64 < cLine) (hgd : X.A.guards = some []) : CallR X (.builtin "repr") (rRepr X.K) := by
  intro pins s σ H xs us Q I r h
  obtain ⟨p, d, rfl, hd, h1, h2, h3, h4, q⟩ := h
  obtain ⟨u, rfl, hu1⟩ := vals1 r
  have hu1 : u = Value.ref p := hu1
  subst hu1
  obtain ⟨as, hr⟩ := Dp.reads I d _ _ hd rfl
  exact repr_of_reads' hr h1 (PyData.noDict_hsm h2) hgd (by omega) (fun _ _ e => e) (fun h' u tk k => ⟨.str _, H, I.kept k (t' := tk), ⟨u, rfl⟩, q⟩) h4
theorem bo_repr : bootBuiltins "repr" = some (.builtin "repr") := by decide +kernel
end
def isSeqD : D → Bool
  | .list _ => true
  | .tuple _ => true
  | _ => false
def reprOk (d : D) : Bool := isSeqD d && (noD d && (d.showable && (!d.hasDict && (decide (d.depth ≤ 60) && decide (d.shown.length ≤ sizeLine)))))
def dRepr : List D → Option D
  | [d] => if reprOk d = true then some (.str d.shown) else none
  | _ => none
section
variable {K : PySem.W.Frag}
instance : SatRL K (rRepr K) dRepr := ⟨fun O xs ds z H Q hO hx hf hq => by
  unfold dRepr at hf
  split at hf
  · rename_i d
    by_cases h : reprOk d = true
    · rw [if_pos h] at hf
      cases hf
      unfold reprOk at h
      simp only [Bool.and_eq_true, decide_eq_true_eq, Bool.not_eq_true'] at h
      obtain ⟨h0, h1, h2, h3, h4, h5⟩ := h
      obtain ⟨v, rfl, q⟩ := rpAll1 hx
      have hd := q.dpr h1
      have : ∃ p, v = .ref p := by
        cases d <;> first | (cases h0; done) | (cases hd; exact ⟨_, rfl⟩)
      obtain ⟨p, rfl⟩ := this
      exact ⟨p, d, rfl, hd, h2, h3, h4, h5, hq _ H (Ex.refl _) (.str _)⟩
    · rw [if_neg h] at hf; cases hf
  · cases hf⟩
end
end Ve

set_option Elab.async false
set_option linter.all false
set_option maxRecDepth 100000
set_option maxHeartbeats 4000000
/-! The head over a promise where no guard stands around. -/
namespace Ve
open PySem PySem.Spec PyProof.Rows L2 Evl Ny
section
variable {P : Program} {w : World} {K : PySem.W.Frag} {mg mb : Str → Option Value} {k : Nat} {fa a : Addr} {fd : FuncData} {x : Str} {s : Shared} {vs : List Value} {ns : List Int} {H : Hp}
/-- the law's call, from a heap of which the script alone is known (or nothing) -/
theorem call_from (KX : K.In s.heap) (hns : s.heap.Ns mainGlobals mg) (hb : s.heap.Ns builtinsNs mb) (hbb : ∀ y : Str, y ≠ "__name__" → mb y = bootBuiltins y) (hlim : s.heap.NoLimit) (hg : s.gens = #[])
    (ha : s.heap.get? a = some { cls := .type "list", data := .seq vs.toArray }) (hr : Room k callerA)
    (F : ∀ base : Heap, K.In base → base.Ns mainGlobals mg → FnOkG P w K mg base CX0 k fa fd [x] (spLaw K)) (hbind : ∀ (s : Shared) (u : Value), BindsTo s fd ⟨[u], []⟩ [(x, u)])
    (hn : ns.length ≤ 63) (hS : SqL K H a (ns.map V.int)) (ok : HOk P w H s.heap) (hA : ∀ b, H b ≠ none → b = a ∧ K.lookup a = none ∧ ∃ o xs, H b = some (.frz o (.lst xs))) :
    codeAny (model P w) callerA (.call (.ref fa) ⟨[.ref a], []⟩) (fun r s' => r = .ok (.ret (.bool true)) ∧ OldK s.heap s'.heap ∧ s'.os = s.os ∧ AllBare s'.gens) s := by
  have keepD : ∀ {b : Addr} {o : Obj}, s.heap.get? b = some o → b ≠ a → (hidT s.heap H).get? b = some o := fun {b o} e n => hidT_get e (by
    cases q : H b with
    | none => rfl
    | some u => exact absurd (hA b (by rw [q]; simp)).1 n)
  have nsD : ∀ {b : Addr} {m : Str → Option Value}, s.heap.Ns b m → (hidT s.heap H).Ns b m := fun {b m} ⟨o, es, ep, e, d, r⟩ => ⟨o, es, ep, keepD e (fun z => by
    subst z; rw [ha] at e; cases e; cases d), d, r⟩
  have KD : K.In (hidT s.heap H) := fun b o e => by
    by_cases z : b = a
    · subst z
      refine hidT_get (KX b o e) ?_
      cases q : H b with
      | none => rfl
      | some u =>
        have := (hA b (by rw [q]; simp)).2.1
        rw [e] at this; cases this
    · exact keepD (KX b o e) z
  have lim : (hidT s.heap H).NoLimit := by
    obtain ⟨mc, l1, l2⟩ := hlim
    exact ⟨mc, nsD l1, l2⟩
  have e0 : Env0 P w K mg (hidT s.heap H) callerA [] s H := ⟨rfl, ⟨KD, nsD hns, ⟨mb, nsD hb, hbb⟩, lim⟩, fun b o e => of_hidT e, Nat.le_of_eq (hidT_size _ _), trivial, fun b z => absurd (show b ∈ ([] : List Addr) from z) (by simp), ok, .of_eq hg⟩
  have run := (F _ KD (nsD hns)).run callerA [] s H ⟨[.ref a], []⟩ [.ref a] [.ref a] (fun v _ => v = .bl true) E0 hr rfl e0 (hbind s (.ref a)) (.cons rfl .nil) ⟨a, ns, rfl, hS, hn, fun _ => rfl⟩
  refine codeAny_mono run fun r s' q => ?_
  rcases r with z | fl
  · exact (show False from q).elim
  · cases fl with
    | next => cases q
    | brk => cases q
    | cont => cases q
    | ret u =>
      obtain ⟨v, H', os, bare, un, ok', rv, z⟩ := q
      have z : v = .bl true := z
      subst z
      obtain rfl : u = Value.bool true := rv
      refine ⟨rfl, OldK.of_keep fun b o e => ?_, os, bare⟩
      by_cases hN : H b = none
      · exact un.keep b o e hN (fun y => absurd (show b ∈ ([] : List Addr) from y) (by simp)) (by simp)
      · obtain ⟨_, _, ob, xs, y⟩ := hA b hN
        have e1 := (ok b _ y).1
        have e2 := (ok' b _ (un.frzs b ob _ y)).1
        rw [e] at e1; cases e1
        exact e2
theorem law_callG (KX : K.In s.heap) (hns : s.heap.Ns mainGlobals mg) (hb : s.heap.Ns builtinsNs mb) (hbb : ∀ y : Str, y ≠ "__name__" → mb y = bootBuiltins y) (hlim : s.heap.NoLimit) (hg : s.gens = #[])
    (ha : s.heap.get? a = some { cls := .type "list", data := .seq vs.toArray }) (hi : IntsAre vs ns) (hr : Room k callerA)
    (F : ∀ base : Heap, K.In base → base.Ns mainGlobals mg → FnOkG P w K mg base CX0 k fa fd [x] (spLaw K)) (hbind : ∀ (s : Shared) (u : Value), BindsTo s fd ⟨[u], []⟩ [(x, u)]) (hn : ns.length ≤ 63) :
    codeAny (model P w) callerA (.call (.ref fa) ⟨[.ref a], []⟩) (fun r s' => r = .ok (.ret (.bool true)) ∧ OldK s.heap s'.heap ∧ s'.os = s.os ∧ AllBare s'.gens) s := by
  have rv := vals_ints hi
  have len := hi.length
  have hsz : ns.length ≤ sizeLine := Nat.le_trans hn (by decide)
  cases hk : K.lookup a with
  | some o =>
    have e := KX a o hk
    rw [ha] at e
    cases e
    exact call_from (H := fun _ => none) KX hns hb hbb hlim hg ha hr F hbind hn (.inr ⟨_, vs.toArray, _, hk, rfl, rfl, rfl, by rw [List.size_toArray, len]; exact hsz, by simpa using rv⟩) (fun b u z => by cases z) (fun b z => absurd rfl z)
  | none =>
    refine call_from (H := fun b => if b = a then some (.frz { cls := .type "list", data := .seq vs.toArray } (.lst (ns.map V.int))) else none) KX hns hb hbb hlim hg ha hr F hbind hn (.inl (.inr ⟨_, if_pos rfl⟩)) (fun b u z => ?_) (fun b z => ?_)
    · by_cases h : b = a
      · subst h
        have z := (if_pos rfl).symm.trans z
        cases z
        exact ⟨ha, by rw [List.length_map]; exact hsz, vs, _, rv, ha⟩
      · cases (if_neg h).symm.trans z
    · by_cases h : b = a
      · exact ⟨h, hk, _, _, if_pos h⟩
      · exact absurd (if_neg h) z
end
/-- a law's end over a head by facts, its promise made where no guard stands around -/
theorem walkG {l : PySem.W.OpenLaw} {k : Nat} {q : Program} {loose : List Str} {XP : (Str → Option Value) → Heap → Prop} {YP : World → Heap → Prop} {d : DefRec} {x : Str}
    (hn : l.most = some 63) (hdf : d.params.defaults = []) (hr : Room k callerA)
    (F : ∀ (w : World) (mg : Str → Option Value) (fa : Addr) (h : Heap), YP w h → h.Ns mainGlobals mg → mg d.name = some (.ref fa) →
      ∃ (K : PySem.W.Frag) (fd : FuncData), K.In h ∧ (∀ (s : Shared) (u : Value), BindsTo s fd ⟨[u], []⟩ [(x, u)]) ∧
        ∀ base : Heap, K.In base → base.Ns mainGlobals mg → FnOkG l.prog w K mg base CX0 k fa fd [x] (spLaw K)) :
    PySem.W.WalkO q loose XP YP l.row.toRowW d [] (fun f vs => PySem.call f vs) := by
  refine Att.attach_call hn hdf fun w s₀ s₁ mg mb fa o pm cd doc a vs ns G Y ho hd hcd hmg hobj hints hlen hg => ?_
  obtain ⟨K, fd, KX, hb, hF⟩ := F w mg fa _ Y G.T.g hmg
  exact law_callG KX G.T.g G.T.b G.T.builtins G.T.nolimit hg hobj hints hr hF hb hlen
end Ve

set_option Elab.async false
set_option linter.all false
set_option maxRecDepth 100000
set_option maxHeartbeats 4000000
/-! Objects in heap mode: attributes read, stored; instances made; methods called by the instance's class. -/
namespace Ve
open PySem PySem.Spec PyProof.Rows L2 Evl Ny
/-! ### attributes -/
def fget (f : Str) (fs : List (Str × D)) : Option D := fs.lookup f
def fput (f : Str) (d : D) : List (Str × D) → List (Str × D)
  | [] => [(f, d)]
  | (g, x) :: r => if g = f then (g, d) :: r else (g, x) :: fput f d r
/-- of each class the names that are no names of the class -/
abbrev CTab := List (Str × List Str)
def inTab (ct : CTab) (c f : Str) : Bool := ct.any fun p => decide (p.1 = c) && p.2.any fun g => decide (g = f)
class CF (K : PySem.W.Frag) (ct : outParam CTab) : Prop where
  cls : ∀ p ∈ ct, Cls K (He.ga K p.1)
  noat : ∀ p ∈ ct, ∀ f ∈ p.2, NoAttr K (He.ga K p.1) f
def cfB (K : PySem.W.Frag) (ct : CTab) : Bool := ct.all fun p => (He.Fa.cls p.1).ok K && p.2.all fun f => (He.Fa.noat p.1 f).ok K
theorem cf_ok {K : PySem.W.Frag} {ct : CTab} (h : cfB K ct = true) : CF K ct := by
  have q := fun p hp => List.all_eq_true.mp h p hp
  simp only [Bool.and_eq_true] at q
  exact ⟨fun p hp => He.cls_ok (q p hp).1, fun p hp f hf => He.noat_ok (List.all_eq_true.mp (q p hp).2 f hf)⟩
theorem CF.at_ {K : PySem.W.Frag} {ct : CTab} (C : CF K ct) {c f : Str} (h : inTab ct c f = true) : Cls K (He.ga K c) ∧ NoAttr K (He.ga K c) f := by
  unfold inTab at h
  obtain ⟨p, hp, h⟩ := List.any_eq_true.mp h
  simp only [Bool.and_eq_true, decide_eq_true_eq] at h
  obtain ⟨h1, h2⟩ := h
  obtain ⟨g, hg, e⟩ := List.any_eq_true.mp h2
  rw [decide_eq_true_eq] at e
  subst h1 e
  exact ⟨C.cls p hp, C.noat p hp _ hg⟩
section
variable {K : PySem.W.Frag} {Hv : Hp}
theorem look_fs {f : Str} {d : D} : ∀ {fs : List (Str × D)} {vs : List V}, RpAll K Hv vs (fs.map (·.2)) → fget f fs = some d → ∃ v, (insFs fs vs).lookup f = some v ∧ Rp K Hv v d
  | [], _, _, h => by cases h
  | (g, x) :: fs, vs, r, h => by
    cases vs with
    | nil => cases r
    | cons v vs =>
      cases r with
      | cons r1 r2 =>
        unfold fget at h
        show ∃ w, List.lookup f ((g, v) :: insFs fs vs) = some w ∧ _
        rw [List.lookup_cons] at h ⊢
        cases e : f == g with
        | true => rw [e] at h; cases h; exact ⟨v, rfl, r1⟩
        | false => rw [e] at h; exact look_fs r2 h
theorem look_no {f : Str} : ∀ {fs : List (Str × D)} {vs : List V}, vs.length = fs.length → fget f fs = none → (insFs fs vs).lookup f = none
  | [], _, _, _ => rfl
  | (g, x) :: fs, [], h, _ => by cases h
  | (g, x) :: fs, v :: vs, h, q => by
    unfold fget at q
    show List.lookup f ((g, v) :: insFs fs vs) = none
    rw [List.lookup_cons] at q ⊢
    cases e : f == g with
    | true => rw [e] at q; cases q
    | false => rw [e] at q; exact look_no (by simpa using h) q
theorem put_fs {f : Str} {v : V} {d : D} (hd : Rp K Hv v d) : ∀ {fs : List (Str × D)} {vs : List V}, RpAll K Hv vs (fs.map (·.2)) → ∃ vs', putF f v (insFs fs vs) = insFs (fput f d fs) vs' ∧ RpAll K Hv vs' ((fput f d fs).map (·.2))
  | [], vs, r => by
    have := r.nil2; subst this
    exact ⟨[v], rfl, .cons hd .nil⟩
  | (g, x) :: fs, vs, r => by
    cases vs with
    | nil => cases r
    | cons w vs =>
      cases r with
      | cons r1 r2 =>
        obtain ⟨vs', h1, h2⟩ := put_fs hd (f := f) r2
        show ∃ vs', (if g = f then (g, v) :: insFs fs vs else (g, w) :: putF f v (insFs fs vs)) = insFs (if g = f then (g, d) :: fs else (g, x) :: fput f d fs) vs' ∧ RpAll K Hv vs' ((if g = f then (g, d) :: fs else (g, x) :: fput f d fs).map (·.2))
        by_cases e : g = f
        · rw [if_pos e, if_pos e]
          exact ⟨v :: vs, rfl, .cons hd r2⟩
        · rw [if_neg e, if_neg e, h1]
          exact ⟨w :: vs', rfl, .cons r1 h2⟩
theorem insFs_len {fs : List (Str × D)} {vs : List V} (h : vs.length = fs.length) : (insFs fs vs).length = fs.length := by
  unfold insFs; rw [List.length_zip, List.length_map, h, Nat.min_self]
end
def cellOb (n : Nat) (env : Env Hm) : Option (Str × List (Str × D)) := match hmOf env with
  | some M => (match M.c[n]? with
    | some (.obj c fs) => some (c, fs)
    | _ => none)
  | none => none
theorem cellOb_some {n : Nat} {env : Env Hm} {c : Str} {fs : List (Str × D)} (h : cellOb n env = some (c, fs)) : ∃ M, hmOf env = some M ∧ M.c[n]? = some (.obj c fs) := by
  unfold cellOb at h
  split at h
  · rename_i M hM
    split at h
    · rename_i c' fs' hl; cases h; exact ⟨M, hM, hl⟩
    · cases h
  · cases h
def obD (d : D) (env : Env Hm) : Option (Nat × Str × List (Str × D)) := (refOf d).bind fun n => (cellOb n env).map fun p => (n, p)
def eFld (ct : CTab) (f : Str) (a : Env Hm → Res Hm D) (env : Env Hm) : Res Hm D := (a env).bind fun d e => match obD d e with
  | some (_, c, fs) => if inTab ct c f = true then (match fget f fs with
    | some x => .ok x e
    | none => .bad) else .bad
  | none => .bad
def setF (ct : CTab) (f : Str) (o x : D) (env : Env Hm) : Flow Hm := match obD o env with
  | some (n, c, fs) => if inTab ct c f = true ∧ fs.length < 1000 then .nx (putC n (.obj c (fput f x fs)) env) else .bad
  | none => .bad
def bFld (ct : CTab) (f : Str) (a v : Env Hm → Res Hm D) (env : Env Hm) : Flow Hm := (v env).fl fun x e1 => (a e1).fl fun o e2 => setF ct f o x e2
def bFldA (ct : CTab) (op : D → D → Option D) (f : Str) (a v : Env Hm → Res Hm D) (env : Env Hm) : Flow Hm := (a env).fl fun o e1 => match obD o e1 with
  | some (_, c, fs) => if inTab ct c f = true then (match fget f fs with
    | some x => (v e1).fl fun y e2 => (match op x y with
      | some z => (match obD o e2 with
        | some (n, c', fs') => if c' = c ∧ fs'.length < 1000 then .nx (putC n (.obj c' (fput f z fs')) e2) else .bad
        | none => .bad)
      | none => .bad)
    | none => .bad) else .bad
  | none => .bad
section
variable {K : PySem.W.Frag} {W : Wd} {wx : WX}
variable {F : Fr} {env : Env Hm} {σ : L2.St} {H H' : Hp} {O O' : Ow} {Fp : Nat → List Addr} {M : Hm} {n : Nat} {c : Str} {fs : List (Str × D)} {v : V} {d : D}
theorem ob_at (r : Rel K W F env σ H O Fp) (hv : Rp K (vw O H) v d) (h : obD d env = some (n, c, fs)) :
    ∃ M a dx vs, hmOf env = some M ∧ M.c[n]? = some (.obj c fs) ∧ v = .ref a ∧ O.nm a = some n ∧ a ∈ Fp 0 ∧ H a = some (.ins (He.ga K c) dx (insFs fs vs)) ∧ H dx = some (.own a) ∧ dx ∈ Fp 0 ∧ RpAll K (vw O H) vs (fs.map (·.2)) := by
  unfold obD at h
  cases e : refOf d with
  | none => rw [e] at h; cases h
  | some m =>
    rw [e] at h
    cases e2 : cellOb m env with
    | none => simp [e2] at h
    | some q =>
      simp [e2] at h
      obtain ⟨rfl, rfl⟩ := h
      obtain ⟨M, hM, hc⟩ := cellOb_some e2
      obtain ⟨a, h1, h2, h3, dx, vs, h4, h5, h6, h7⟩ := cell_at r hM hv e hc
      exact ⟨M, a, dx, vs, hM, hc, h1, h2, h3, h4, h5, h6, h7⟩
theorem RpAll.len2 {Hv : Hp} {vs : List V} {fs : List (Str × D)} (h : RpAll K Hv vs (fs.map (·.2))) : vs.length = fs.length := by rw [h.length, List.length_map]
instance {ct : CTab} {f : Str} {te : TE} {a : Env Hm → Res Hm D} [C : CF K ct] [A : SatE K W wx te a] : SatE K W wx (tFld K te f) (eFld ct f a) := ⟨fun F env σ H O Fp Q r h => by
  refine A.thn r ((post_bind h).mono (Ex.refl _) fun d e1 h v1 H1 O1 Fp1 r1 x1 q1 => ?_)
  split at h
  · rename_i n c fs ho
    split at h
    · rename_i ht
      split at h
      · rename_i x hx
        obtain ⟨M, p, dx, vs, hM, hc, rfl, hn, haF, h4, h5, h6, h7⟩ := ob_at r1 q1 ho
        obtain ⟨c1, c2⟩ := C.at_ ht
        obtain ⟨w, g1, g2⟩ := look_fs h7 hx
        exact ⟨p, _, dx, _, w, rfl, h4, c1, c2, g1, h w H1 O1 Fp1 r1 x1 g2⟩
      · exact h.elim
    · exact h.elim
  · exact h.elim⟩
/-- an attribute is another one now -/
theorem Rel.setOb (r : Rel K W F env σ H O Fp) (hM : hmOf env = some M) (hc : M.c[n]? = some (.obj c fs)) {a dx : Addr} {vs : List V} (hnm : O.nm a = some n) (haF : a ∈ Fp 0) (h4 : H a = some (.ins (He.ga K c) dx (insFs fs vs))) (h5 : H dx = some (.own a)) (h6 : dx ∈ Fp 0) (h7 : RpAll K (vw O H) vs (fs.map (·.2)))
    {f : Str} (hd : Rp K (vw O H) v d) : Rel K W F (putC n (.obj c (fput f d fs)) env) σ (upd H a (.ins (He.ga K c) dx (putF f v (insFs fs vs)))) O (fset Fp 0 (Fp 0)) ∧ vw O (upd H a (.ins (He.ga K c) dx (putF f v (insFs fs vs)))) = vw O H := by
  obtain ⟨vs', g1, g2⟩ := put_fs (f := f) hd h7
  have hne : dx ≠ a := fun z => by rw [z, h4] at h5; cases h5
  unfold putC
  rw [hM]
  exact r.setC hM hc hnm haF (c' := .obj c (fput f d fs)) (fun Hv x => ⟨dx, vs', by rw [upd_same, g1], by rw [upd_ne hne]; exact h5, h6, g2.mono x⟩) (fun C dx' fs' e => by rw [h4] at e; cases e; exact ⟨_, rfl⟩) (fun b e => by rw [h4] at e; cases e)
theorem setF_ok {ct : CTab} (C : CF K ct) {f : Str} {o x : D} {D0 : Ends} {y w : V} {H0 : Hp} {O0 : Ow} (r : Rel K W F env σ H O Fp) (x0 : Ex (vw O0 H0) (vw O H)) (ho : Rp K (vw O H) w o) (hx : Rp K (vw O H) y x) (h : FPost K W wx F H0 O0 D0 (setF ct f o x env)) :
    ∃ a C dx fs, w = .ref a ∧ H a = some (.ins C dx fs) ∧ Cls K C ∧ NoAttr K C f ∧ fs.length < 1000 ∧ D0.nx (vis Hm σ) (upd H a (.ins C dx (putF f y fs))) := by
  unfold setF at h
  split at h
  · rename_i n c fs e
    split at h
    · rename_i hc
      obtain ⟨M, p, dx, vs, hM, hcc, rfl, hn, haF, h4, h5, h6, h7⟩ := ob_at r ho e
      obtain ⟨c1, c2⟩ := C.at_ hc.1
      obtain ⟨r', ev⟩ := r.setOb hM hcc hn haF h4 h5 h6 h7 (f := f) hx
      refine ⟨p, _, dx, _, rfl, h4, c1, c2, by rw [insFs_len h7.len2]; exact hc.2, ?_⟩
      exact h σ _ O _ r' (by rw [ev]; exact x0)
    · exact h.elim
  · exact h.elim
instance {ct : CTab} {f : Str} {ta tv : TE} {a v : Env Hm → Res Hm D} [C : CF K ct] [A : SatE K W wx ta a] [B : SatE K W wx tv v] : SatS K W wx (sFld K ta tv f) (bFld ct f a v) := ⟨fun F env σ H O Fp D0 r h => by
  refine B.thn r (post_imp (fl_post σ h) fun x e1 h v1 H1 O1 Fp1 r1 x1 q1 => ?_)
  have h := FPost.mono h x1
  refine A.thn r1 (post_imp (fl_post σ h) fun o e2 h v2 H2 O2 Fp2 r2 x2 q2 => ?_)
  exact setF_ok C r2 x2 q2 (q1.mono x2) h⟩
/-- += of whole numbers, texts -/
def rInc : V → V → Hp → VK → Prop := fun x y H Q => rAdd x y H Q ∨ rAddS x y H Q
theorem in_inc {X : Cx} : InOp X .Add rInc := fun pins s σ H x y u v Q I rx ry h => h.elim (in_add pins s σ H x y u v Q I rx ry) (in_addS pins s σ H x y u v Q I rx ry)
def dInc : D → D → Option D
  | .int i, .int j => some (.int (i + j))
  | .str x, .str y => if x.length + y.length ≤ sizeLine then some (.str (x ++ y)) else none
  | _, _ => none
def dDec : D → D → Option D
  | .int i, .int j => some (.int (i - j))
  | _, _ => none
instance : SatR2 K rInc dInc := ⟨fun O x y d e z H Q hO hx hy hf hq => by
  unfold dInc at hf
  split at hf
  · cases hf; rw [hx.int', hy.int']; exact .inl ⟨_, _, rfl, rfl, hq _ H (Ex.refl _) (.int _)⟩
  · obtain ⟨hl, rfl⟩ := ite_some hf
    rw [hx.str', hy.str']; exact .inr ⟨_, _, rfl, rfl, hl, hq _ H (Ex.refl _) (.str _)⟩
  · cases hf⟩
instance : SatR2 K rSub dDec := ⟨fun O x y d e z H Q hO hx hy hf hq => by
  unfold dDec at hf
  split at hf
  · cases hf; rw [hx.int', hy.int']; exact ⟨_, _, rfl, rfl, hq _ H (Ex.refl _) (.int _)⟩
  · cases hf⟩
instance {ct : CTab} {f : Str} {ta tv : TE} {rd : R2} {op : D → D → Option D} {a v : Env Hm → Res Hm D} [C : CF K ct] [S : SatR2 K rd op] [A : SatE K W wx ta a] [B : SatE K W wx tv v] : SatS K W wx (sFldAug K ta tv rd f) (bFldA ct op f a v) := ⟨fun F env σ H O Fp D0 r h => by
  refine A.thn r (post_imp (fl_post σ h) fun o e1 h v1 H1 O1 Fp1 r1 x1 q1 => ?_)
  have h := FPost.mono h x1
  split at h
  · rename_i n c fs ho
    split at h
    · rename_i ht
      split at h
      · rename_i x hx
        obtain ⟨M, p, dx, vs, hM, hc, rfl, hn, haF, h4, h5, h6, h7⟩ := ob_at r1 q1 ho
        obtain ⟨c1, c2⟩ := C.at_ ht
        obtain ⟨w, g1, g2⟩ := look_fs h7 hx
        refine ⟨p, _, dx, _, w, rfl, h4, c1, c2, g1, B.thn r1 (post_imp (fl_post σ h) fun y e2 hh v2 H2 O2 Fp2 r2 x2 q2 => ?_)⟩
        have hq := FPost.mono hh x2
        clear hh h
        cases hz : op x y with
        | none => rw [hz] at hq; exact hq.elim
        | some z =>
          rw [hz] at hq
          dsimp only at hq
          cases ho' : obD o e2 with
          | none => rw [ho'] at hq; exact hq.elim
          | some q =>
            obtain ⟨n', c', fs'⟩ := q
            rw [ho'] at hq
            dsimp only at hq
            by_cases hc' : c' = c ∧ fs'.length < 1000
            · rw [if_pos hc'] at hq
              obtain ⟨rfl, hl⟩ := hc'
              refine S.go O2 w v2 x y z H2 _ r2.all (g2.mono x2) q2 hz fun u H3 x3 q3 => ?_
              have r3 := r2.grow x3
              obtain ⟨M', p', dx', vs', hM', hc', e', hn', haF', h4', h5', h6', h7'⟩ := ob_at r3 ((q1.mono x2).mono (vw_ex x3)) ho'
              cases e'
              obtain ⟨r', ev⟩ := r3.setOb hM' hc' hn' haF' h4' h5' h6' h7' (f := f) q3
              refine ⟨dx', _, h4', by rw [insFs_len h7'.len2]; exact hl, ?_⟩
              exact hq σ _ O2 _ r' (by rw [ev]; exact vw_ex x3)
            · rw [if_neg hc'] at hq; exact hq.elim
      · exact h.elim
    · exact h.elim
  · exact h.elim⟩
end
/-! ### instances made -/
abbrev MFun := List (SD Hm) → RetM Hm
def tMakeS (K : PySem.W.Frag) (c : Str) (sp : Sp) (E : L2.St → XK) (t : TA) : TE := fun σ H Q => t σ H fun vs H1 => ∀ x dx, H1 x = none → H1 dx = none → dx ≠ x →
  sp (.ref x :: vs) (upd (upd H1 dx (.own x)) x (.ins (He.ga K c) dx [])) (fun v H2 => v = .non ∧ Q (.ref x) H2) (E σ)
structure NewOk (P : Program) (w : World) (K : PySem.W.Frag) (mg : Str → Option Value) (base : Heap) (CX : CXT) (k : Nat) (c : Str) (sp : Sp) : Prop where
  ex : ∃ f fd ps, mg c = some (.ref (He.ga K c)) ∧ Mk K (He.ga K c) f ∧ Binds K fd ps [] ∧ FnOk P w K mg base CX k f fd ps sp
section
variable {X : Cx} {k : Nat} {c mn : Str} {sp : Sp} {Wx : L2.WX} {e o : Expr} {es : List Expr} {t : TA} {p apos pos : Pos}
theorem run_makeS {pins : List (Addr × Obj)} {σ : L2.St} {H : Hp} {s : Shared} {Q : VK} {us : List Value} {vs : List V} {C f : Addr} {fd : FuncData} {ps : List Str} {E : XK} (M : Mk X.K C f) (F : FnOk X.prog X.w X.K X.mg X.base (L2.CX X.prog X.w) k f fd ps sp) (hr : Room (k + 1) X.A) (hb : Binds X.K fd ps [])
    (hx : PassesAt (L2.CX X.prog X.w) X σ E) (I : Inv X pins σ H s) (r : Vals vs us)
    (h : ∀ x dx, H x = none → H dx = none → dx ≠ x → sp (.ref x :: vs) (upd (upd H dx (.own x)) x (.ins C dx [])) (fun v H2 => v = .non ∧ Q (.ref x) H2) E) :
    wpAny (model X.prog X.w) X.A (call (.ref C) us) (EP X pins σ Q) X.xe s := by
  have hq := h (s.heap.objs.size + 1) s.heap.objs.size (I.hok.fresh (Nat.le_succ _)) (I.hok.fresh (Nat.le_refl _)) (Nat.ne_of_lt (Nat.lt_succ_self _))
  have I2 := Inv.made (C := C) I
  have r2 : Vals (V.ref (s.heap.objs.size + 1) :: vs) (Value.ref (s.heap.objs.size + 1) :: us) := .cons rfl r
  have hl : ((Value.ref (s.heap.objs.size + 1) :: us) ++ []).length = ps.length := by
    rw [List.append_nil]
    have e := r2.length
    rw [F.len _ _ _ _ hq] at e
    exact e.symm
  have hb2 := hb _ (Value.ref (s.heap.objs.size + 1) :: us) I2.kIn hl
  rw [List.append_nil] at hb2
  refine wpAny_call (make_map (f := f) I.kIn M.makes M.init (beq_iff_eq.mp M.fn) (codeAny_mono (F.run _ X.stack _ _ ⟨Value.ref (s.heap.objs.size + 1) :: us, []⟩ (Value.ref (s.heap.objs.size + 1) :: us) _ _ E (hr.make C us [])
    (I2.env0.make C us []) hb2 r2 hq) fun r s' hq' => ?_))
  cases r with
  | error e => exact hx pins _ _ e s' I2 hq'
  | ok fl =>
    cases fl with
    | ret u =>
      obtain ⟨v, H', I3, rv, ev, q3⟩ := I2.after hq'
      subst ev
      exact ⟨rv, ⟨V.ref (s.heap.objs.size + 1), H', I3, rfl, q3⟩⟩
    | next => exact False.elim hq'
    | brk => exact False.elim hq'
    | cont => exact False.elim hq'
theorem pe_mk (N : NewOk X.prog X.w X.K X.mg X.base (L2.CX X.prog X.w) k c sp) (hr : Room (k + 1) X.A) (tk : Takes X Wx) (ha : PA X (e :: es) t) (hg : Gl X c := by rfl) (hdb : (c == ("__debug__" : Str)) = false := by decide)
    (he : starEach (e :: es) X.env = (false, eval e X.env) :: starEach es X.env := by rfl) (hpl : (backTo pos (starEach es X.env)).any (·.1) = false := by rfl) :
    PE X (.Call (.Name c p) (e :: es) [] pos) (tMakeS X.K c sp (WE Wx) t) := by
  obtain ⟨f, fd, ps, hm, M, hb, F⟩ := N.ex
  refine ⟨fun pins s σ H Q I h => ?_⟩
  refine wpAny_Call_Name_kw (ld_glob I hg hm ?_ hdb)
  refine PySem.W.callWith_K (h₀ := X.base) I.ok.mod.kin M.kp (thn (ha.run pos pins s σ H _ I h) fun us s1 ⟨vs, H1, I1, r, q⟩ => ⟨I1.kIn, ?_⟩) he hpl
  exact run_makeS M F hr hb (passAt tk σ) I1 r q
theorem pe_mk0 (N : NewOk X.prog X.w X.K X.mg X.base (L2.CX X.prog X.w) k c sp) (hr : Room (k + 1) X.A) (tk : Takes X Wx) (hg : Gl X c := by rfl) (hdb : (c == ("__debug__" : Str)) = false := by decide) :
    PE X (.Call (.Name c p) [] [] pos) (tMakeS X.K c sp (WE Wx) tNil) := by
  obtain ⟨f, fd, ps, hm, M, hb, F⟩ := N.ex
  refine ⟨fun pins s σ H Q I h => ?_⟩
  refine wpAny_Call_Name_kw (ld_glob I hg hm ?_ hdb)
  exact PySem.W.callWith_K0 I.kIn M.kp (run_makeS (us := []) M F hr hb (passAt tk σ) I .nil h)
end
def eNew (c : Str) (n : Nat) (m : MFun) (a : Env Hm → Res Hm (List AD)) (env : Env Hm) : Res Hm D := (a env).bind fun ads e1 => match hmOf e1 with
  | none => .bad
  | some M => (goCall [false] n m (.val (refD M.c.length) :: ads) (e1.set 0 (some (.ob ⟨M.c ++ [.obj c []]⟩)))).bind fun rv e2 => match rv with
    | .val .none => .ok (refD M.c.length) e2
    | _ => .bad
section
variable {K : PySem.W.Frag} {W : Wd} {wx : WX}
instance {c : Str} {n : Nat} {m : MFun} {ta : TA} {a : Env Hm → Res Hm (List AD)} [A : SatA K W wx ta a] : SatE K W wx (tMakeS K c (spV [false] n m K) (WE wx) ta) (eNew c n m a) := ⟨fun F env σ H O Fp Q r h => by
  refine A.go F env σ H O Fp _ r ((post_bind h).mono (Ex.refl _) fun ads e1 h vs H1 O1 Fp1 r1 x1 hA => ?_)
  have h := EPost.mono h x1
  split at h
  · exact h.elim
  · rename_i M hM
    intro x dx hx hdx hne
    have r2 := r1.newO (o := .own x) hdx
    have hx2 : upd H1 dx (.own x) x = none := by rw [upd_ne (Ne.symm hne)]; exact hx
    have r3 := r2.newO (o := .ins (He.ga K c) dx []) hx2
    have hO1 := r1.notO hdx
    have hO2 := r2.notO hx2
    have v3 : vw (addO (addO O1 dx) x) (upd (upd H1 dx (.own x)) x (.ins (He.ga K c) dx [])) = vw O1 H1 := by rw [vw_add hO2 hx2, vw_add hO1 hdx]
    have nF : ∀ j, x ∉ Fp1 j := fun j z => r1.all x (r1.own j x z) hx
    have nFd : ∀ j, dx ∉ Fp1 j := fun j z => r1.all dx (r1.own j dx z) hdx
    obtain ⟨hh, r4, x4, nm⟩ := r3.nameG hM (c := .obj c []) (G := [x, dx]) (p := x) (addO_un hO2) (r1.fresh hx) nF List.mem_cons_self
      (fun b hb => by
        rcases List.mem_cons.mp hb with e | e
        · subst e; exact ⟨.inr rfl, r1.fresh hx, nF⟩
        · rw [List.mem_singleton.mp e]; exact ⟨.inl (.inr rfl), r1.fresh hdx, nFd⟩)
      (fun Hv xx => ⟨dx, [], upd_same, by rw [upd_ne hne, upd_same], List.mem_cons_of_mem _ List.mem_cons_self, .nil⟩)
    rw [v3] at x4
    have hA4 : ARs K σ _ (.ref x :: vs) (.val (refD M.c.length) :: ads) := .cons (a := .val (refD M.c.length)) (.ref nm) (hA.mono x4)
    exact go_sat r4 hA4 (post_imp (post_bind (EPost.mono h x4)) fun rv e2 h v H' O' Fp' r' x' q => by
      have h : EPost K W wx F σ _ _ Q (match rv with | .val .none => .ok (refD M.c.length) e2 | _ => .bad) := h
      split at h
      · cases q
        exact ⟨rfl, h _ H' O' Fp' r' x' (.ref (x' _ _ nm))⟩
      · exact h.elim)⟩
end
/-! ### methods -/
abbrev MTab := List (Str × Nat × MFun)
def mLook (tab : MTab) (c : Str) : Option (Nat × MFun) := (tab.find? fun p => decide (p.1 = c)).map (·.2)
theorem mLook_mem {tab : MTab} {c : Str} {n : Nat} {m : MFun} (h : mLook tab c = some (n, m)) : (c, n, m) ∈ tab := by
  unfold mLook at h
  obtain ⟨p, h1, h2⟩ := Option.map_eq_some_iff.mp h
  have h3 := List.find?_some h1
  rw [decide_eq_true_eq] at h3
  obtain ⟨c', q⟩ := p
  cases h3; cases h2
  exact List.mem_of_find?_eq_some h1
/-- o.m(..), by the instance's class -/
def tMethS (K : PySem.W.Frag) (mn : Str) (tab : MTab) (E : L2.St → XK) (ta : TE) (t : TA) : TE := fun σ H Q => ta σ H fun x H1 => ∃ a c n m dx fs, x = .ref a ∧ (c, n, m) ∈ tab ∧ H1 a = some (.ins (He.ga K c) dx fs) ∧ fs.lookup mn = none ∧
  t σ H1 fun vs H2 => spV [false] n m K (x :: vs) H2 Q (E σ)
def tMethK (K : PySem.W.Frag) (mn : Str) (tab : MTab) (lay : List Src) (n1 n2 : Nat) (E : L2.St → XK) (ta : TE) (t tk : TA) : TE := fun σ H Q => ta σ H fun x H1 => ∃ a c n m dx fs, x = .ref a ∧ (c, n, m) ∈ tab ∧ H1 a = some (.ins (He.ga K c) dx fs) ∧ fs.lookup mn = none ∧
  t σ H1 fun vs H2 => tk σ H2 fun zs H3 => vs.length + 1 = n1 ∧ zs.length = n2 ∧ spV [false] n m K (layV lay (x :: vs) zs) H3 Q (E σ)
structure MethOk (P : Program) (w : World) (K : PySem.W.Frag) (mg : Str → Option Value) (base : Heap) (CX : CXT) (k : Nat) (mn : Str) (tab : MTab) : Prop where
  ex : ∀ c n m, (c, n, m) ∈ tab → Cls K (He.ga K c) ∧ ∃ f fd ps, Meth K (He.ga K c) mn f ∧ Binds K fd ps [] ∧ FnOk P w K mg base CX k f fd ps (spV [false] n m K)
structure MethK (P : Program) (w : World) (K : PySem.W.Frag) (mg : Str → Option Value) (base : Heap) (CX : CXT) (k : Nat) (mn : Str) (n1 : Nat) (ks : List Str) (lay : List Src) (tab : MTab) : Prop where
  ex : ∀ c n m, (c, n, m) ∈ tab → Cls K (He.ga K c) ∧ ∃ f fd ps g, Meth K (He.ga K c) mn f ∧ KBn K fd ps n1 ks g (layV lay) ∧ FnOk P w K mg base CX k f fd ps (spV [false] n m K)
section
variable {X : Cx} {k n1 : Nat} {mn : Str} {tab : MTab} {ks : List Str} {lay : List Src} {Wx : L2.WX} {e o : Expr} {es : List Expr} {kws : List Keyword} {ta : TE} {t tk : TA} {p apos pos : Pos} {pl : Sem Bool}
theorem pe_m (he : PE X o ta) (MT : MethOk X.prog X.w X.K X.mg X.base (L2.CX X.prog X.w) k mn tab) (hr : Room k X.A) (tk : Takes X Wx) (ha : PA X (e :: es) t)
    (hst : starEach (e :: es) X.env = (false, eval e X.env) :: starEach es X.env := by rfl) (hpl : (backTo pos (starEach es X.env)).any (·.1) = false := by rfl)
    (ht : eval (.Call (.Attribute o mn apos) (e :: es) [] pos) X.env = (do
      let ov ← eval o X.env
      standAt apos.atName
      let (f, first) ← holding [ov] (getMethod ov mn pl)
      callWith pos f first (backTo pos (starEach (e :: es) X.env)) (backToKw pos (keywordEach [] X.env))) := by rfl) :
    PE X (.Call (.Attribute o mn apos) (e :: es) [] pos) (tMethS X.K mn tab (WE Wx) ta t) := by
  refine ⟨fun pins s σ H Q I h => ?_⟩
  refine PySem.W.methodCall_KW (pl := pl) (thn (he.run pins s σ H _ I h) fun u s1 ⟨x, H1, I1, rx, a, c, n, m, dx, fs, ex, hmem, ea, l, q⟩ => ?_) ht
  subst ex
  obtain rfl : u = Value.ref a := rx
  obtain ⟨hc, f, fd, ps, hm, hb, F⟩ := MT.ex c n m hmem
  refine getmeth_ok I1 ea hc hm l ?_
  refine PySem.W.callWith_K (first := [.ref a]) (h₀ := X.base) I.ok.mod.kin hm.kp (thn (ha.run pos pins s1 σ H1 _ I1 q) fun us s2 ⟨vs, H2, I2, r, q2⟩ => ⟨I2.kIn, ?_⟩) hst hpl
  exact run_fnS (us := .ref a :: us) (vs := .ref a :: vs) F hr hb (passAt tk σ) I2 (.cons rfl r) q2
theorem pe_m0 (he : PE X o ta) (MT : MethOk X.prog X.w X.K X.mg X.base (L2.CX X.prog X.w) k mn tab) (hr : Room k X.A) (tk : Takes X Wx)
    (ht : eval (.Call (.Attribute o mn apos) [] [] pos) X.env = (do
      let ov ← eval o X.env
      standAt apos.atName
      let (f, first) ← holding [ov] (getMethod ov mn pl)
      callWith pos f first (backTo pos (starEach [] X.env)) (backToKw pos (keywordEach [] X.env))) := by rfl) :
    PE X (.Call (.Attribute o mn apos) [] [] pos) (tMethS X.K mn tab (WE Wx) ta tNil) := by
  refine ⟨fun pins s σ H Q I h => ?_⟩
  refine PySem.W.methodCall_KW (pl := pl) (thn (he.run pins s σ H _ I h) fun u s1 ⟨x, H1, I1, rx, a, c, n, m, dx, fs, ex, hmem, ea, l, q⟩ => ?_) ht
  subst ex
  obtain rfl : u = Value.ref a := rx
  obtain ⟨hc, f, fd, ps, hm, hb, F⟩ := MT.ex c n m hmem
  refine getmeth_ok I1 ea hc hm l ?_
  exact PySem.W.callWith_K0 (first := [.ref a]) I1.kIn hm.kp (run_fnS (us := [.ref a]) (vs := [.ref a]) F hr hb (passAt tk σ) I1 (.cons rfl .nil) q)
/-- keywords, defaults -/
theorem pe_mK (he : PE X o ta) (MT : MethK X.prog X.w X.K X.mg X.base (L2.CX X.prog X.w) k mn n1 ks lay tab) (hr : Room k X.A) (tk' : Takes X Wx) (ha : PA X (e :: es) t) (hkw : PK X kws tk)
    (hall : (backToKw pos (keywordEach kws X.env)).all (·.1.isSome) = true := by rfl) (hks : (backToKw pos (keywordEach kws X.env)).filterMap (·.1) = ks := by rfl)
    (hst : starEach (e :: es) X.env = (false, eval e X.env) :: starEach es X.env := by rfl)
    (hpl : ((backTo pos (starEach (e :: es) X.env)).any (·.1) || (backToKw pos (keywordEach kws X.env)).any (·.1.isNone)) = false := by rfl)
    (ht : eval (.Call (.Attribute o mn apos) (e :: es) kws pos) X.env = (do
      let ov ← eval o X.env
      standAt apos.atName
      let (f, first) ← holding [ov] (getMethod ov mn pl)
      callWith pos f first (backTo pos (starEach (e :: es) X.env)) (backToKw pos (keywordEach kws X.env))) := by rfl) :
    PE X (.Call (.Attribute o mn apos) (e :: es) kws pos) (tMethK X.K mn tab lay n1 ks.length (WE Wx) ta t tk) := by
  refine ⟨fun pins s σ H Q I h => ?_⟩
  refine PySem.W.methodCall_KW (pl := pl) (thn (he.run pins s σ H _ I h) fun u s1 ⟨x, H1, I1, rx, a, c, n, m, dx, fs, ex, hmem, ea, l, q⟩ => ?_) ht
  subst ex
  obtain rfl : u = Value.ref a := rx
  obtain ⟨hc, f, fd, ps, g, hm, hb, F⟩ := MT.ex c n m hmem
  refine getmeth_ok I1 ea hc hm l ?_
  refine PySem.W.callWith_KW (first := [.ref a]) (h₀ := X.base) I.ok.mod.kin hm.kp hall (thn (ha.run pos pins s1 σ H1 _ I1 q) fun us s2 ⟨vs, H2, I2, r, q2⟩ => ?_) hpl hst
  refine thn (hkw.run pos pins s2 σ H2 _ I2 q2) fun ws s3 ⟨zs, H3, I3, rz, l1, l2, q3⟩ => ⟨I3.kIn, ?_⟩
  rw [hks]
  exact run_fnNS (us := .ref a :: us) (vs := .ref a :: vs) F hr hb (passAt tk' σ) I3 (.cons rfl r) rz l1 l2 q3
/-- .. and none by place -/
theorem pe_mK0 (he : PE X o ta) (MT : MethK X.prog X.w X.K X.mg X.base (L2.CX X.prog X.w) k mn n1 ks lay tab) (hr : Room k X.A) (tk' : Takes X Wx) (hkw : PK X kws tk)
    (hall : (backToKw pos (keywordEach kws X.env)).all (·.1.isSome) = true := by rfl) (hks : (backToKw pos (keywordEach kws X.env)).filterMap (·.1) = ks := by rfl)
    (hpl : ((backTo pos (starEach [] X.env)).any (·.1) || (backToKw pos (keywordEach kws X.env)).any (·.1.isNone)) = false := by rfl)
    (ht : eval (.Call (.Attribute o mn apos) [] kws pos) X.env = (do
      let ov ← eval o X.env
      standAt apos.atName
      let (f, first) ← holding [ov] (getMethod ov mn pl)
      callWith pos f first (backTo pos (starEach [] X.env)) (backToKw pos (keywordEach kws X.env))) := by rfl) :
    PE X (.Call (.Attribute o mn apos) [] kws pos) (tMethK X.K mn tab lay n1 ks.length (WE Wx) ta tNil tk) := by
  refine ⟨fun pins s σ H Q I h => ?_⟩
  refine PySem.W.methodCall_KW (pl := pl) (thn (he.run pins s σ H _ I h) fun u s1 ⟨x, H1, I1, rx, a, c, n, m, dx, fs, ex, hmem, ea, l, q⟩ => ?_) ht
  subst ex
  obtain rfl : u = Value.ref a := rx
  obtain ⟨hc, f, fd, ps, g, hm, hb, F⟩ := MT.ex c n m hmem
  refine getmeth_ok I1 ea hc hm l ?_
  refine PySem.W.callWith_KW0 (first := [.ref a]) (h₀ := X.base) I.ok.mod.kin hm.kp hall (thn (hkw.run pos pins s1 σ H1 _ I1 q) fun ws s3 ⟨zs, H3, I3, rz, l1, l2, q3⟩ => ⟨I3.kIn, ?_⟩) hpl
  rw [hks]
  exact run_fnNS (us := [.ref a]) (vs := [.ref a]) F hr hb (passAt tk' σ) I3 (.cons rfl .nil) rz l1 l2 q3
end
def eMethO (mn : Str) (tab : MTab) (o : Env Hm → Res Hm D) (a : Env Hm → Res Hm (List AD)) (env : Env Hm) : Res Hm (RV Hm) := (o env).bind fun d e1 => match obD d e1 with
  | some (_, c, fs) => (match mLook tab c with
    | some (n, m) => if fget mn fs = none then (a e1).bind fun ads e2 => goCall [false] n m (.val d :: ads) e2 else .bad
    | none => .bad)
  | none => .bad
def eMethKO (mn : Str) (tab : MTab) (lay : List Src) (n1 n2 : Nat) (o : Env Hm → Res Hm D) (a b : Env Hm → Res Hm (List AD)) (env : Env Hm) : Res Hm (RV Hm) := (o env).bind fun d e1 => match obD d e1 with
  | some (_, c, fs) => (match mLook tab c with
    | some (n, m) => if fget mn fs = none then (a e1).bind fun as e2 => (b e2).bind fun bs e3 => if as.length + 1 = n1 ∧ bs.length = n2 then goCall [false] n m (layAD lay (.val d :: as) bs) e3 else .bad else .bad
    | none => .bad)
  | none => .bad
def rvE (r : Env Hm → Res Hm (RV Hm)) (env : Env Hm) : Res Hm D := (r env).bind fun rv e => match rvD rv with
  | some d => .ok d e
  | none => .bad
def rvOw (r : Env Hm → Res Hm (RV Hm)) (env : Env Hm) : Res Hm (SD Hm) := (r env).bind fun rv e => match rvO rv with
  | some d => .ok d e
  | none => .bad
section
variable {K : PySem.W.Frag} {W : Wd} {wx : WX}
variable {F : Fr} {env : Env Hm} {σ : L2.St} {H H' : Hp} {O O' : Ow} {Fp : Nat → List Addr}
/-- a reading follows a function whose answer is a datum or a thing of its own -/
class SatR (K : PySem.W.Frag) (W : Wd) (wx : WX) (t : TE) (m : outParam (Env Hm → Res Hm (RV Hm))) : Prop where
  go : ∀ F env σ H O Fp Q, Rel K W F env σ H O Fp → CPost K W wx F σ H O Q (m env) → t (vis Hm σ) H Q
instance {t : TE} {m : Env Hm → Res Hm (RV Hm)} [A : SatR K W wx t m] : SatE K W wx t (rvE m) := ⟨fun F env σ H O Fp Q r h => by
  refine A.go F env σ H O Fp Q r ((post_bind h).mono (Ex.refl _) fun rv e1 h v H1 O1 Fp1 r1 x1 q => ?_)
  cases rv with
  | val d => exact h v H1 O1 Fp1 r1 x1 q
  | own sd =>
    obtain ⟨G, q1, q2⟩ := q
    cases e : frzD sd with
    | none => simp only [rvD, e] at h; exact h.elim
    | some d =>
      simp only [rvD, e] at h
      exact h v H1 (subO O1 G) Fp1 (r1.unO fun a ha => (q2 a ha).2) (x1.trans vw_subO) (frz_rp q1 (fun a ha => (q2 a ha).1.2) e)⟩
instance {t : TE} {m : Env Hm → Res Hm (RV Hm)} [A : SatR K W wx t m] : SatO K W wx t (rvOw m) := ⟨fun F env σ H O Fp Q r h => by
  refine A.go F env σ H O Fp Q r ((post_bind h).mono (Ex.refl _) fun rv e1 h v H1 O1 Fp1 r1 x1 q => ?_)
  cases rv with
  | val d => exact h.elim
  | own sd =>
    obtain ⟨G, q1, q2⟩ := q
    exact h v H1 O1 Fp1 G r1 x1 q1 q2⟩
instance {mn : Str} {tab : MTab} {te : TE} {ta : TA} {o : Env Hm → Res Hm D} {a : Env Hm → Res Hm (List AD)} [E : SatE K W wx te o] [A : SatA K W wx ta a] : SatR K W wx (tMethS K mn tab (WE wx) te ta) (eMethO mn tab o a) := ⟨fun F env σ H O Fp Q r h => by
  refine E.thn r ((post_bind h).mono (Ex.refl _) fun d e1 h v1 H1 O1 Fp1 r1 x1 q1 => ?_)
  have h := CPost.mono h x1
  split at h
  · rename_i k c fs ho
    split at h
    · rename_i n m hm
      split at h
      · rename_i hf
        obtain ⟨M, p, dx, vs, hM, hc, rfl, hn, haF, h4, h5, h6, h7⟩ := ob_at r1 q1 ho
        refine ⟨p, c, n, m, dx, _, rfl, mLook_mem hm, h4, look_no h7.len2 hf, A.go F e1 σ H1 O1 Fp1 _ r1 ((post_bind h).mono (Ex.refl _) fun ads e2 h us H2 O2 Fp2 r2 x2 hA => ?_)⟩
        exact go_sat r2 (.cons (a := .val d) (q1.mono x2) hA) (CPost.mono h x2)
      · exact h.elim
    · exact h.elim
  · exact h.elim⟩
instance {mn : Str} {tab : MTab} {lay : List Src} {n1 n2 : Nat} {te : TE} {ta tb : TA} {o : Env Hm → Res Hm D} {a b : Env Hm → Res Hm (List AD)} [L : LayOk lay] [E : SatE K W wx te o] [A : SatA K W wx ta a] [B : SatA K W wx tb b] :
    SatR K W wx (tMethK K mn tab lay n1 n2 (WE wx) te ta tb) (eMethKO mn tab lay n1 n2 o a b) := ⟨fun F env σ H O Fp Q r h => by
  refine E.thn r ((post_bind h).mono (Ex.refl _) fun d e1 h v1 H1 O1 Fp1 r1 x1 q1 => ?_)
  have h := CPost.mono h x1
  split at h
  · rename_i k c fs ho
    split at h
    · rename_i n m hm
      split at h
      · rename_i hf
        obtain ⟨M, p, dx, vs, hM, hc, rfl, hn, haF, h4, h5, h6, h7⟩ := ob_at r1 q1 ho
        refine ⟨p, c, n, m, dx, _, rfl, mLook_mem hm, h4, look_no h7.len2 hf, A.go F e1 σ H1 O1 Fp1 _ r1 ((post_bind h).mono (Ex.refl _) fun as e2 h us H2 O2 Fp2 r2 x2 hA => ?_)⟩
        have h := CPost.mono h x2
        refine B.go F e2 σ H2 O2 Fp2 _ r2 ((post_bind h).mono (Ex.refl _) fun bs e3 h zs H3 O3 Fp3 r3 x3 hB => ?_)
        have h := CPost.mono h x3
        by_cases q : as.length + 1 = n1 ∧ bs.length = n2
        · rw [if_pos q] at h
          refine ⟨by rw [hA.length, q.1], by rw [hB.length, q.2], ?_⟩
          exact go_sat r3 (ars_lay (.cons (a := .val d) (q1.mono (x2.trans x3)) (hA.mono x3)) hB L.ok) h
        · rw [if_neg q] at h; exact h.elim
      · exact h.elim
    · exact h.elim
  · exact h.elim⟩
end
end Ve

set_option Elab.async false
set_option linter.all false
set_option maxRecDepth 100000
set_option maxHeartbeats 4000000
/-! Heap mode: named lists and dicts, and data, read alike; stored into. -/
namespace Ve
open PySem PySem.Spec PyProof.Rows L2 Evl Ny
/-! ### what a thing holds, named or not -/
def cellD (n : Nat) (env : Env Hm) : Option (List (D × D)) := match hmOf env with
  | some M => (match M.c[n]? with
    | some (.dct es) => some es
    | some (.fdct es) => some es
    | _ => none)
  | none => none
def cellDw (n : Nat) (env : Env Hm) : Option (List (D × D)) := match hmOf env with
  | some M => (match M.c[n]? with
    | some (.dct es) => some es
    | _ => none)
  | none => none
def seqL (d : D) (env : Env Hm) : Option (List D) := match refOf d with
  | some n => cellL n env
  | none => asL d
def dctO (d : D) (env : Env Hm) : Option (List (D × D)) := match refOf d with
  | some n => cellD n env
  | none => asE d
def openD (d : D) (env : Env Hm) : Option D := (hmOf env).bind fun M => deepD M 9 d
def ixR (x y : D) (env : Env Hm) : Option D := match refOf x with
  | some n => (match cellL n env with
    | some l => dIx (.list l) y
    | none => (cellD n env).bind fun es => (keyD y).bind fun k => lookE es k)
  | none => dIx x y
def lenR (x : D) (env : Env Hm) : Option D := match refOf x with
  | some n => (match cellL n env with
    | some l => some (.int l.length)
    | none => (cellD n env).map fun es => .int es.length)
  | none => (match dLen [x] with
    | some (.int i) => some (.int i)
    | _ => none)
def eIxR (a b : Env Hm → Res Hm D) (env : Env Hm) : Res Hm D := (a env).bind fun x e1 => (b e1).bind fun y e2 => match ixR x y e2 with
  | some z => .ok z e2
  | none => .bad
def eLenR (a : Env Hm → Res Hm D) (env : Env Hm) : Res Hm D := (a env).bind fun x e1 => match lenR x e1 with
  | some z => .ok z e1
  | none => .bad
/-- in a dict -/
def eInD (neg : Bool) (a b : Env Hm → Res Hm D) (env : Env Hm) : Res Hm D := (a env).bind fun x e1 => (b e1).bind fun y e2 => match (dctO y e2).bind fun es => (keyD x).map fun k => (lookE es k).isSome with
  | some z => .ok (.bool (if neg then !z else z)) e2
  | none => .bad
def eDGet (a b : Env Hm → Res Hm D) (env : Env Hm) : Res Hm D := (a env).bind fun x e1 => if (dctO x e1).isSome = true then (b e1).bind fun y e2 => match (dctO x e2).bind fun es => (keyD y).map fun k => (lookE es k).getD .none with
  | some z => .ok z e2
  | none => .bad else .bad
/-- operators over what things hold to the ground; the answer holds nothing -/
def eOpO (f : D → D → Option D) (a b : Env Hm → Res Hm D) (env : Env Hm) : Res Hm D := (a env).bind fun x e1 => (b e1).bind fun y e2 => match (openD x e2).bind fun x' => (openD y e2).bind fun y' => (f x' y').bind flatO with
  | some z => .ok z e2
  | none => .bad
def opens (ds : List D) (env : Env Hm) : Option (List D) := (hmOf env).bind fun M => mapO (deepD M 9) ds
def eCBO (f : List D → Option D) (a : Env Hm → Res Hm (List D)) (env : Env Hm) : Res Hm D := (a env).bind fun ds e1 => match (opens ds e1).bind fun ds' => (f ds').bind flatO with
  | some z => .ok z e1
  | none => .bad
def tTrO (a : Env Hm → Res Hm D) (env : Env Hm) : Res Hm Bool := (a env).bind fun d e1 => match (openD d e1).bind truD with
  | some b => .ok b e1
  | none => .bad
/-- a copy -/
def copyR (x : D) (env : Env Hm) : Option (List D) := match refOf x with
  | some n => (match cellL n env with
    | some l => some l
    | none => (cellDw n env).map fun es => es.map (·.1))
  | none => oList [x]
def oListR (a : Env Hm → Res Hm D) (env : Env Hm) : Res Hm (SD Hm) := (a env).bind fun x e1 => match copyR x e1 with
  | some l => .ok (.lst l) e1
  | none => .bad
def oAddR (a b : Env Hm → Res Hm D) (env : Env Hm) : Res Hm (SD Hm) := (a env).bind fun x e1 => (b e1).bind fun y e2 => match seqL x e2, seqL y e2 with
  | some k, some l => if k.length + l.length ≤ 1000000 then .ok (.lst (k ++ l)) e2 else .bad
  | _, _ => .bad
def oSlR (a : Env Hm → Res Hm D) (p q : Env Hm → Res Hm (Option Int)) (env : Env Hm) : Res Hm (SD Hm) := (a env).bind fun d e1 => (p e1).bind fun lo e2 => (q e2).bind fun hi e3 => match seqL d e3 with
  | some l => .ok (.lst (cutD l lo hi)) e3
  | none => .bad
/-- stores -/
def bPutR (v o b : Env Hm → Res Hm D) (env : Env Hm) : Flow Hm := (v env).fl fun d e1 => (o e1).fl fun x e2 => (b e2).fl fun k e3 => match refOf x with
  | some n => (match (cellDw n e3).bind fun es => setE es k d with
    | some es' => .nx (putC n (.dct es') e3)
    | none => .bad)
  | none => .bad
def bSetR (v o b : Env Hm → Res Hm D) (env : Env Hm) : Flow Hm := (v env).fl fun d e1 => (o e1).fl fun x e2 => (b e2).fl fun k e3 => match refOf x with
  | some n => (match (cellL n e3).bind fun l => setAt l k d with
    | some l' => .nx (putC n (.lst l') e3)
    | none => .bad)
  | none => .bad
def tRefS (t : TS) : TS := t
def tRefT (t : TT) : TT := t
section
variable {X : Cx} {e : Expr} {st : Stmt} {t : TE} {tt : TT} {ts : TS}
theorem ps_refm (h : PS X st ts) : PS X st (tRefS ts) := h
theorem pt_refm (h : PT X e tt) : PT X e (tRefT tt) := h
end
section
variable {K : PySem.W.Frag} {W : Wd} {wx : WX}
variable {F : Fr} {env : Env Hm} {σ : L2.St} {H H' H0 : Hp} {O O' O0 : Ow} {Fp : Nat → List Addr} {M : Hm} {n : Nat} {v w : V} {d x y z : D} {l : List D} {es : List (D × D)} {Q : VK}
theorem seqL_at (r : Rel K W F env σ H O Fp) (hv : Rp K (vw O H) v d) (h : seqL d env = some l) : ∃ a xs, v = .ref a ∧ SqL K H a xs ∧ RpAll K (vw O H) xs l := by
  unfold seqL at h
  cases e : refOf d with
  | some n =>
    rw [e] at h
    obtain ⟨M, a, xs, hM, hl, rfl, hn, haF, h4, h5⟩ := cellL_at r hv e h
    exact ⟨a, xs, rfl, .of h4, h5⟩
  | none =>
    rw [e] at h
    obtain rfl := asL_some h
    obtain ⟨a, xs, rfl, h1, h2⟩ := hv.lst'
    exact ⟨a, xs, rfl, vw_l h1, h2⟩
theorem cellDw_some (h : cellDw n env = some es) : ∃ M, hmOf env = some M ∧ M.c[n]? = some (.dct es) := by
  unfold cellDw at h
  split at h
  · rename_i M hM
    split at h
    · rename_i l' hl; cases h; exact ⟨M, hM, hl⟩
    · cases h
  · cases h
theorem cellD_at (r : Rel K W F env σ H O Fp) (hv : Rp K (vw O H) v d) (hd : refOf d = some n) (h : cellD n env = some es) :
    ∃ a kvs, v = .ref a ∧ a ∈ Fp 0 ∧ Rd H a (.dK kvs) ∧ es.map (·.1) = kvs.map (fun q => kD q.1) ∧ RpAll K (vw O H) (kvs.map (·.2)) (es.map (·.2)) := by
  unfold cellD at h
  split at h
  · rename_i M hM
    split at h
    · rename_i es' hl
      cases h
      obtain ⟨a, h1, h2, h3, kvs, h4, h5, h6⟩ := cell_at r hM hv hd hl
      exact ⟨a, kvs, h1, h3, .inl h4, h5, h6⟩
    · rename_i es' hl
      cases h
      obtain ⟨a, h1, h2, h3, o, kvs, h4, h5, h6⟩ := cell_at r hM hv hd hl
      exact ⟨a, kvs, h1, h3, .inr ⟨o, h4⟩, h5, h6⟩
    · cases h
  · cases h
theorem cellDw_at (r : Rel K W F env σ H O Fp) (hv : Rp K (vw O H) v d) (hd : refOf d = some n) (h : cellDw n env = some es) :
    ∃ M a kvs, hmOf env = some M ∧ M.c[n]? = some (.dct es) ∧ v = .ref a ∧ O.nm a = some n ∧ a ∈ Fp 0 ∧ H a = some (.dK kvs) ∧ es.map (·.1) = kvs.map (fun q => kD q.1) ∧ RpAll K (vw O H) (kvs.map (·.2)) (es.map (·.2)) := by
  obtain ⟨M, hM, hl⟩ := cellDw_some h
  obtain ⟨a, h1, h2, h3, kvs, h4, h5, h6⟩ := cell_at r hM hv hd hl
  exact ⟨M, a, kvs, hM, hl, h1, h2, h3, h4, h5, h6⟩
theorem dctO_at (r : Rel K W F env σ H O Fp) (hv : Rp K (vw O H) v d) (h : dctO d env = some es) : ∃ a kvs, v = .ref a ∧ Rd H a (.dK kvs) ∧ es.map (·.1) = kvs.map (fun q => kD q.1) ∧ RpAll K (vw O H) (kvs.map (·.2)) (es.map (·.2)) := by
  unfold dctO at h
  cases e : refOf d with
  | some n =>
    rw [e] at h
    obtain ⟨a, kvs, h1, _, h2⟩ := cellD_at r hv e h
    exact ⟨a, kvs, h1, h2⟩
  | none =>
    rw [e] at h
    obtain ⟨rfl, hn⟩ := asE_some h
    exact hv.dget hn
theorem openD_at (r : Rel K W F env σ H O Fp) (hv : Rp K (vw O H) v d) (h : openD d env = some z) : Rp K (vw noO H) v z := by
  unfold openD at h
  cases e : hmOf env with
  | none => rw [e] at h; cases h
  | some M => rw [e] at h; exact deep_ok r e 9 v d z hv h
theorem opens_at (r : Rel K W F env σ H O Fp) {vs : List V} {ds ds' : List D} (hv : RpAll K (vw O H) vs ds) (h : opens ds env = some ds') : RpAll K (vw noO H) vs ds' := by
  unfold opens at h
  cases e : hmOf env with
  | none => rw [e] at h; cases h
  | some M => rw [e] at h; exact mapO_ok (deep_ok r e 9) hv h
theorem flatO_some (h : flatO x = some z) : x = z ∧ flatD z = true := by
  unfold flatO at h
  split at h
  · rename_i q; cases h; exact ⟨rfl, q⟩
  · cases h
/-! ### index, length -/
theorem look_dg {a : Addr} {kvs : List (Key × V)} (h1 : Rd H a (.dK kvs)) (h2 : es.map (·.1) = kvs.map (fun q => kD q.1)) (h3 : RpAll K (vw O H) (kvs.map (·.2)) (es.map (·.2))) (hy : Rp K (vw O H) w y) (hz : (keyD y).bind (fun k => lookE es k) = some z) :
    ∃ u, DGet H a w (some u) ∧ Rp K (vw O H) u z := by
  obtain ⟨k, hk, hl⟩ := Option.bind_eq_some_iff.mp hz
  obtain rfl := keyD_v hk hy
  rcases look_ok k h2 h3 with ⟨q, _⟩ | ⟨z', u, q1, q2, q3⟩
  · rw [q] at hl; cases hl
  · rw [q1] at hl; cases hl
    exact ⟨u, .inl ⟨kvs, k, h1, rfl, q2.symm⟩, q3⟩
theorem ixR_ok (r : Rel K W F env σ H O Fp) (hv : Rp K (vw O H) v x) (hw : Rp K (vw O H) w y) (h : ixR x y env = some z) (hq : ∀ u H', Ex H H' → Rp K (vw O H') u z → Q u H') : rIxW K v w H Q := by
  unfold ixR at h
  cases e : refOf x with
  | none =>
    rw [e] at h
    exact SatR2.go (K := K) (r := rIxW K) (f := dIx) O v w x y z H Q r.all hv hw h hq
  | some n =>
    rw [e] at h
    dsimp only at h
    cases el : cellL n env with
    | some l =>
      rw [el] at h
      dsimp only at h
      obtain ⟨M, a, xs, hM, hl, rfl, hn, haF, h4, h5⟩ := cellL_at r hv e el
      unfold dIx at h
      split at h
      · cases ‹PyData.list l = PyData.dict _›
      · rename_i l' i e1; cases e1
        obtain rfl := hw.int'
        obtain ⟨u, hu, ru⟩ := atI_get h5 h
        exact .inl (w_ixL (.of h4) hu (hq _ H (Ex.refl _) ru))
      · cases ‹PyData.list l = PyData.tuple _›
      · cases ‹PyData.list l = PyData.str _›
      · cases h
    | none =>
      rw [el] at h
      dsimp only at h
      cases ed : cellD n env with
      | none => rw [ed] at h; cases h
      | some es =>
        rw [ed] at h
        obtain ⟨a, kvs, rfl, _, h2, h3, h4⟩ := cellD_at r hv e ed
        obtain ⟨u, g1, g2⟩ := look_dg h2 h3 h4 hw h
        exact .inr ⟨a, u, rfl, g1, hq _ H (Ex.refl _) g2⟩
instance {ta tb : TE} {a b : Env Hm → Res Hm D} [A : SatE K W wx ta a] [B : SatE K W wx tb b] : SatE K W wx (tRefM (tOp (rIxW K) ta tb)) (eIxR a b) := ⟨fun F env σ H O Fp Q r h => by
  refine A.thn r ((post_bind h).mono (Ex.refl _) fun x e1 h v1 H1 O1 Fp1 r1 x1 q1 => ?_)
  refine B.thn r1 ((post_bind h).mono x1 fun y e2 h v2 H2 O2 Fp2 r2 x2 q2 => ?_)
  have h2 := EPost.mono (O1 := O2) (H1 := H2) h (x1.trans x2)
  obtain ⟨z, hz, hq⟩ := epost_opt (wx := wx) r2 h2
  exact ixR_ok r2 (q1.mono x2) q2 hz hq⟩
theorem lenR_ok (r : Rel K W F env σ H O Fp) (hv : Rp K (vw O H) v x) (h : lenR x env = some z) (hq : ∀ u H', Ex H H' → Rp K (vw O H') u z → Q u H') : uLen K [v] H Q := by
  unfold lenR at h
  cases e : refOf x with
  | none =>
    rw [e] at h
    dsimp only at h
    split at h
    · rename_i i hi
      cases h
      exact SatRL.go (K := K) (r := uLen K) O [v] [x] (.int i) H Q r.all (.cons hv .nil) hi hq
    · cases h
  | some n =>
    rw [e] at h
    dsimp only at h
    cases el : cellL n env with
    | some l =>
      rw [el] at h
      cases h
      obtain ⟨M, a, xs, hM, hl, rfl, hn, haF, h4, h5⟩ := cellL_at r hv e el
      have q := hq (.int l.length) H (Ex.refl _) (.int _)
      exact .inl ⟨_, l.length, rfl, .inl ⟨xs, .of h4, h5.length.symm⟩, q⟩
    | none =>
      rw [el] at h
      dsimp only at h
      cases ed : cellD n env with
      | none => rw [ed] at h; cases h
      | some es =>
        rw [ed] at h
        cases h
        obtain ⟨a, kvs, rfl, _, h2, h3, h4⟩ := cellD_at r hv e ed
        refine .inr ⟨a, kvs, rfl, h2, ?_⟩
        rw [keys_len h3]
        exact hq _ H (Ex.refl _) (.int _)
instance {ta : TE} {a : Env Hm → Res Hm D} [A : SatE K W wx ta a] : SatE K W wx (tRefM (tCB (uLen K) (tCons ta tNil))) (eLenR a) := ⟨fun F env σ H O Fp Q r h => by
  refine A.thn r ((post_bind h).mono (Ex.refl _) fun x e1 h v1 H1 O1 Fp1 r1 x1 q1 => ?_)
  have h2 := EPost.mono (O1 := O1) (H1 := H1) h x1
  obtain ⟨z, hz, hq⟩ := epost_opt (wx := wx) r1 h2
  exact lenR_ok r1 q1 hz hq⟩
/-! ### dicts asked -/
theorem inD_ok {neg : Bool} {r2 : R2} {ta tb : TE} {a b : Env Hm → Res Hm D} (hd : ∀ x y H Q, rDIn neg x y H Q → r2 x y H Q) (A : SatE K W wx ta a) (B : SatE K W wx tb b) : SatE K W wx (tRefM (tOp r2 ta tb)) (eInD neg a b) := ⟨fun F env σ H O Fp Q r h => by
  refine A.thn r ((post_bind h).mono (Ex.refl _) fun x e1 h v1 H1 O1 Fp1 r1 x1 q1 => ?_)
  refine B.thn r1 ((post_bind h).mono x1 fun y e2 h v2 H2 O2 Fp2 r2 x2 q2 => ?_)
  cases ed : dctO y e2 with
  | none => rw [ed] at h; exact h.elim
  | some es =>
    rw [ed] at h
    cases ek : keyD x with
    | none => rw [ek] at h; exact h.elim
    | some kk =>
      rw [ek] at h
      obtain ⟨p, kvs, rfl, g1, g2, g3⟩ := dctO_at r2 q2 ed
      obtain rfl := keyD_v ek (q1.mono x2)
      refine hd _ _ _ _ ⟨p, _, rfl, .inl ⟨kvs, kk, g1, rfl, rfl⟩, ?_⟩
      have q := h _ H2 O2 Fp2 r2 (x1.trans x2) (.bl _)
      rcases look_ok kk g2 g3 with ⟨q2, q3⟩ | ⟨z', w, q2, q3, _⟩
      · rw [q3]; simp only [q2] at q; exact q
      · rw [q3]; simp only [q2] at q; exact q⟩
def tDctI (t : TE) : TE := t
theorem pe_dcti {X : Cx} {e : Expr} {t : TE} (h : PE X e t) : PE X e (tDctI t) := h
instance {ta tb : TE} {a b : Env Hm → Res Hm D} [A : SatE K W wx ta a] [B : SatE K W wx tb b] : SatE K W wx (tDctI (tOp (vIn K) ta tb)) (eInD false a b) := inD_ok (fun _ _ _ _ h => .inr (.inr h)) A B
instance {ta tb : TE} {a b : Env Hm → Res Hm D} [A : SatE K W wx ta a] [B : SatE K W wx tb b] : SatE K W wx (tDctI (tOp (vNin K) ta tb)) (eInD true a b) := inD_ok (fun _ _ _ _ h => .inr (.inr h)) A B
instance {ta tb : TE} {a b : Env Hm → Res Hm D} [A : SatE K W wx ta a] [B : SatE K W wx tb b] : SatE K W wx (tDGet1 ta tb) (eDGet a b) := ⟨fun F env σ H O Fp Q r h => by
  refine A.thn r ((post_bind h).mono (Ex.refl _) fun x e1 h v1 H1 O1 Fp1 r1 x1 q1 => ?_)
  by_cases hs : (dctO x e1).isSome = true
  · rw [if_pos hs] at h
    obtain ⟨es1, he1⟩ := Option.isSome_iff_exists.mp hs
    obtain ⟨p, kvs1, rfl, g1, _, _⟩ := dctO_at r1 q1 he1
    refine ⟨p, rfl, .inl ⟨kvs1, g1⟩, B.thn r1 ((post_bind h).mono x1 fun y e2 h v2 H2 O2 Fp2 r2 x2 q2 => ?_)⟩
    cases ed : dctO x e2 with
    | none => rw [ed] at h; exact h.elim
    | some es =>
      rw [ed] at h
      cases ek : keyD y with
      | none => simp only [Option.bind_some, ek, Option.map_none] at h; exact h.elim
      | some kk =>
        simp only [Option.bind_some, ek, Option.map_some] at h
        obtain ⟨p', kvs, e', g1, g2, g3⟩ := dctO_at r2 (q1.mono x2) ed
        cases e'
        obtain rfl := keyD_v ek q2
        rcases look_ok kk g2 g3 with ⟨q2, q3⟩ | ⟨z', w, q2, q3, q4⟩
        · refine ⟨none, .inl ⟨kvs, kk, g1, rfl, q3.symm⟩, ?_⟩
          rw [q2] at h
          exact h _ H2 O2 Fp2 r2 (x1.trans x2) .non
        · refine ⟨some w, .inl ⟨kvs, kk, g1, rfl, q3.symm⟩, ?_⟩
          rw [q2] at h
          exact h _ H2 O2 Fp2 r2 (x1.trans x2) q4
  · rw [if_neg hs] at h; exact h.elim⟩
/-! ### operators over what things hold -/
instance {rr : R2} {f : D → D → Option D} {ta tb : TE} {a b : Env Hm → Res Hm D} [S : SatR2 K rr f] [A : SatE K W wx ta a] [B : SatE K W wx tb b] : SatE K W wx (tRefM (tOp rr ta tb)) (eOpO f a b) := ⟨fun F env σ H O Fp Q r h => by
  refine A.thn r ((post_bind h).mono (Ex.refl _) fun x e1 h v1 H1 O1 Fp1 r1 x1 q1 => ?_)
  refine B.thn r1 ((post_bind h).mono x1 fun y e2 h v2 H2 O2 Fp2 r2 x2 q2 => ?_)
  have h2 := EPost.mono (O1 := O2) (H1 := H2) h (x1.trans x2)
  obtain ⟨z, hz, hq⟩ := epost_opt (wx := wx) r2 h2
  obtain ⟨x', hx', hz⟩ := Option.bind_eq_some_iff.mp hz
  obtain ⟨y', hy', hz⟩ := Option.bind_eq_some_iff.mp hz
  obtain ⟨z', hz', hf⟩ := Option.bind_eq_some_iff.mp hz
  obtain ⟨rfl, hfl⟩ := flatO_some hf
  exact S.go noO v1 v2 x' y' z' H2 Q (fun _ q => q.elim) (openD_at r2 (q1.mono x2) hx') (openD_at r2 q2 hy') hz' fun u H' e q => hq u H' e (flat_rp q hfl)⟩
instance {rr : List V → Hp → VK → Prop} {f : List D → Option D} {ta : TA} {a : Env Hm → Res Hm (List D)} [S : SatRL K rr f] [A : SatL K W wx ta a] : SatE K W wx (tRefM (tCB rr ta)) (eCBO f a) := ⟨fun F env σ H O Fp Q r h => by
  refine A.go F env σ H O Fp _ r ((post_bind h).mono (Ex.refl _) fun ds e1 h vs H1 O1 Fp1 r1 x1 q1 => ?_)
  have h2 := EPost.mono (O1 := O1) (H1 := H1) h x1
  obtain ⟨z, hz, hq⟩ := epost_opt (wx := wx) r1 h2
  obtain ⟨x', hx', hz⟩ := Option.bind_eq_some_iff.mp hz
  obtain ⟨z', hz', hf⟩ := Option.bind_eq_some_iff.mp hz
  obtain ⟨rfl, hfl⟩ := flatO_some hf
  exact S.go noO vs x' z' H1 Q (fun _ q => q.elim) (opens_at r1 q1 hx') hz' fun u H' e q => hq u H' e (flat_rp q hfl)⟩
instance {ta : TE} {a : Env Hm → Res Hm D} [A : SatE K W wx ta a] : SatT K W wx (tRefT (tTr K ta)) (tTrO a) := ⟨fun F env σ H O Fp Q r h => by
  refine A.thn r ((post_bind h).mono (Ex.refl _) fun x e1 h v1 H1 O1 Fp1 r1 x1 q1 => ?_)
  cases eo : openD x e1 with
  | none => rw [eo] at h; exact h.elim
  | some x' =>
    rw [eo] at h
    cases e : truD x' with
    | none => simp only [Option.bind_some, e] at h; exact h.elim
    | some k =>
      simp only [Option.bind_some, e] at h
      exact ⟨k, tru_ok (openD_at r1 q1 eo) e, h H1 O1 Fp1 r1 x1⟩⟩
/-! ### copies, sums, slices -/
def uListD (K : PySem.W.Frag) : List V → Hp → VK → Prop := fun xs H Q => uList K xs H Q ∨ rListD xs H Q
theorem cu_listD {X : Cx} (hc : X.calm = true) : CallR X (.type "list") (uListD X.K) := cu_list.or (call_list_dK hc)
theorem ky_listD {X : Cx} (K : PySem.W.Frag) (hc : X.calm = true) (h : X.K = K := by rfl) : CallR X (.type "list") (uListD K) := by subst h; exact cu_listD hc
theorem keys_rp {Hv : Hp} : ∀ {es : List (D × D)} {kvs : List (Key × V)}, es.map (·.1) = kvs.map (fun q => kD q.1) → RpAll K Hv (kvs.map fun kv => kV kv.1) (es.map (·.1))
  | [], [], _ => .nil
  | [], _ :: _, h => by cases h
  | _ :: _, [], h => by cases h
  | (kd, d) :: es, (k, v) :: kvs, h => by
    rw [List.map_cons, List.map_cons] at h
    injection h with h1 h2
    have h1 : kd = kD k := h1
    subst h1
    refine .cons ?_ (keys_rp h2)
    cases k <;> first | exact .int _ | exact .str _
instance {ta : TE} {a : Env Hm → Res Hm D} [A : SatE K W wx ta a] : SatO K W wx (tCB (uListD K) (tCons ta tNil)) (oListR a) := ⟨fun F env σ H O Fp Q r h => by
  refine A.thn r ((post_bind h).mono (Ex.refl _) fun x e1 h v1 H1 O1 Fp1 r1 x1 q1 => ?_)
  cases ec : copyR x e1 with
  | none => rw [ec] at h; exact h.elim
  | some l =>
    rw [ec] at h
    have h : OPost K W wx F σ H O Q (.ok (.lst l) e1) := h
    unfold copyR at ec
    cases e : refOf x with
    | none =>
      rw [e] at ec
      dsimp only at ec
      unfold oList at ec
      split at ec
      · rename_i e'; cases ec; cases e'
        obtain ⟨a, xs, rfl, h1, h2⟩ := q1.lst'
        exact .inl ⟨a, xs, rfl, .inl (vw_l h1), fun p hp => newL r1 x1 h2 h hp rfl⟩
      · rename_i e'; cases ec; cases e'
        obtain ⟨a, xs, rfl, h1, h2⟩ := q1.tup'
        exact .inl ⟨a, xs, rfl, .inr (vw_t h1), fun p hp => newL r1 x1 h2 h hp rfl⟩
      · cases ec
    | some n =>
      rw [e] at ec
      dsimp only at ec
      cases el : cellL n e1 with
      | some l' =>
        rw [el] at ec
        cases ec
        obtain ⟨M, a, xs, hM, hl, rfl, hn, haF, h4, h5⟩ := cellL_at r1 q1 e el
        exact .inl ⟨a, xs, rfl, .inl (.of h4), fun p hp => newL r1 x1 h5 h hp rfl⟩
      | none =>
        rw [el] at ec
        dsimp only at ec
        cases ed : cellDw n e1 with
        | none => rw [ed] at ec; cases ec
        | some es =>
          rw [ed] at ec
          cases ec
          obtain ⟨M, a, kvs, hM, hl, rfl, hn, haF, h4, h5, h6⟩ := cellDw_at r1 q1 e ed
          exact .inr ⟨a, kvs, rfl, h4, fun p hp => newL r1 x1 (keys_rp h5) h hp rfl⟩⟩
instance {ta tb : TE} {a b : Env Hm → Res Hm D} [A : SatE K W wx ta a] [B : SatE K W wx tb b] : SatO K W wx (tRefM (tOp (uAdd K) ta tb)) (oAddR a b) := ⟨fun F env σ H O Fp Q r h => by
  refine A.thn r ((post_bind h).mono (Ex.refl _) fun x e1 h v1 H1 O1 Fp1 r1 x1 q1 => ?_)
  refine B.thn r1 ((post_bind h).mono x1 fun y e2 h v2 H2 O2 Fp2 r2 x2 q2 => ?_)
  cases ek : seqL x e2 with
  | none => rw [ek] at h; exact h.elim
  | some k =>
    cases el : seqL y e2 with
    | none => rw [ek, el] at h; exact h.elim
    | some l =>
      rw [ek, el] at h
      have h : OPost K W wx F σ H O Q (if k.length + l.length ≤ 1000000 then .ok (.lst (k ++ l)) e2 else .bad) := h
      by_cases hl : k.length + l.length ≤ 1000000
      · rw [if_pos hl] at h
        obtain ⟨a, xs, rfl, h1, h2⟩ := seqL_at r2 (q1.mono x2) ek
        obtain ⟨b, ys, rfl, h3, h4⟩ := seqL_at r2 q2 el
        exact .inr (.inl ⟨a, b, xs, ys, rfl, rfl, h1, h3, by rw [h2.length, h4.length]; exact Nat.le_trans hl (by decide), fun p hp => newL r2 (x1.trans x2) (h2.append h4) h hp rfl⟩)
      · rw [if_neg hl] at h; exact h.elim⟩
instance {ta : TE} {tl th : TO} {a : Env Hm → Res Hm D} {p q : Env Hm → Res Hm (Option Int)} [A : SatE K W wx ta a] [P : SatP K W wx tl p] [P' : SatP K W wx th q] : SatO K W wx (tRefM (tSl (vSl K) ta tl th)) (oSlR a p q) := ⟨fun F env σ H O Fp Q r h => by
  refine A.thn r ((post_bind h).mono (Ex.refl _) fun d e1 h v1 H1 O1 Fp1 r1 x1 q1 => ?_)
  refine P.go F e1 σ H1 O1 Fp1 _ r1 ((post_bind h).mono x1 fun lo e2 h H2 O2 Fp2 r2 x2 => ?_)
  refine P'.go F e2 σ H2 O2 Fp2 _ r2 ((post_bind h).mono (x1.trans x2) fun hi e3 h H3 O3 Fp3 r3 x3 => ?_)
  have x13 := (x1.trans x2).trans x3
  cases el : seqL d e3 with
  | none => rw [el] at h; exact h.elim
  | some l =>
    rw [el] at h
    obtain ⟨a, xs, rfl, h1, h2⟩ := seqL_at r3 (q1.mono (x2.trans x3)) el
    exact .inl ⟨a, xs, rfl, h1, fun p hp => newL r3 (x1.trans (x2.trans x3)) (cut_rp h2 _ _) h hp rfl⟩⟩
instance {ta : TE} {a : Env Hm → Res Hm D} [A : SatE K W wx ta a] : SatE K W wx (tCB (uListD K) (tCons ta tNil)) (eFrz (oListR a)) := sat_frz inferInstance
/-! ### stores -/
/-- a named dict is another one now -/
theorem Rel.setD (r : Rel K W F env σ H O Fp) (hM : hmOf env = some M) (hc : M.c[n]? = some (.dct es)) {a : Addr} {kvs kvs' : List (Key × V)} {es' : List (D × D)} (hnm : O.nm a = some n) (haF : a ∈ Fp 0) (h4 : H a = some (.dK kvs))
    (hk : es'.map (·.1) = kvs'.map (fun q => kD q.1)) (ha : RpAll K (vw O H) (kvs'.map (·.2)) (es'.map (·.2))) : Rel K W F (putC n (.dct es') env) σ (upd H a (.dK kvs')) O (fset Fp 0 (Fp 0)) ∧ vw O (upd H a (.dK kvs')) = vw O H := by
  unfold putC
  rw [hM]
  exact r.setC hM hc hnm haF (c' := .dct es') (fun Hv x => ⟨kvs', upd_same, hk, ha.mono x⟩) (fun C dx' fs' e => by rw [h4] at e; cases e) (fun b e => by rw [h4] at e; cases e)
theorem Rel.setLc (r : Rel K W F env σ H O Fp) (hM : hmOf env = some M) (hc : M.c[n]? = some (.lst l)) {a : Addr} {xs xs' : List V} {l' : List D} (hnm : O.nm a = some n) (haF : a ∈ Fp 0) (h4 : H a = some (.lst xs))
    (ha : RpAll K (vw O H) xs' l') : Rel K W F (putC n (.lst l') env) σ (upd H a (.lst xs')) O (fset Fp 0 (Fp 0)) ∧ vw O (upd H a (.lst xs')) = vw O H := by
  unfold putC
  rw [hM]
  exact r.setC hM hc hnm haF (c' := .lst l') (fun Hv x => ⟨xs', upd_same, ha.mono x⟩) (fun C dx' fs' e => by rw [h4] at e; cases e) (fun b e => by rw [h4] at e; cases e)
instance {tv to tb : TE} {v o b : Env Hm → Res Hm D} [V : SatE K W wx tv v] [A : SatE K W wx to o] [B : SatE K W wx tb b] : SatS K W wx (tRefS (tAsg tv (gSub to tb rSetD))) (bPutR v o b) := ⟨fun F env σ H O Fp D0 r h => by
  refine V.thn r (post_imp (fl_post σ h) fun d e1 h v1 H1 O1 Fp1 r1 x1 q1 => ?_)
  have h := FPost.mono h x1
  refine A.thn r1 (post_imp (fl_post σ h) fun x e2 h v2 H2 O2 Fp2 r2 x2 q2 => ?_)
  have h := FPost.mono h x2
  refine B.thn r2 (post_imp (fl_post σ h) fun k e3 h v3 H3 O3 Fp3 r3 x3 q3 => ?_)
  cases e : refOf x with
  | none => rw [e] at h; exact h.elim
  | some n =>
    rw [e] at h
    dsimp only at h
    cases ed : cellDw n e3 with
    | none => rw [ed] at h; exact h.elim
    | some es =>
      rw [ed] at h
      cases ef : setE es k d with
      | none => simp only [Option.bind_some, ef] at h; exact h.elim
      | some es' =>
        simp only [Option.bind_some, ef] at h
        obtain ⟨M, a, kvs, hM, hl, rfl, hn, haF, h4, h5, h6⟩ := cellDw_at r3 (q2.mono x3) e ed
        unfold setE at ef
        split at ef
        · rename_i hlen
          cases ek : keyD k with
          | none => rw [ek] at ef; cases ef
          | some kk =>
            rw [ek] at ef; cases ef
            obtain rfl := keyD_v ek q3
            obtain ⟨g1, g2⟩ := put_ok kk h5 h6 (q1.mono (x2.trans x3))
            obtain ⟨r', ev⟩ := r3.setD hM hl hn haF h4 g1 g2
            refine ⟨a, _, rfl, DPut.k h4 (by rw [keys_len h5]; exact Nat.lt_of_lt_of_le hlen (by decide)), ?_⟩
            exact h σ _ O3 _ r' (by rw [ev]; exact x3)
        · cases ef⟩
instance {tv to tb : TE} {v o b : Env Hm → Res Hm D} [V : SatE K W wx tv v] [A : SatE K W wx to o] [B : SatE K W wx tb b] : SatS K W wx (tRefS (tAsg tv (gSub to tb rSetL))) (bSetR v o b) := ⟨fun F env σ H O Fp D0 r h => by
  refine V.thn r (post_imp (fl_post σ h) fun d e1 h v1 H1 O1 Fp1 r1 x1 q1 => ?_)
  have h := FPost.mono h x1
  refine A.thn r1 (post_imp (fl_post σ h) fun x e2 h v2 H2 O2 Fp2 r2 x2 q2 => ?_)
  have h := FPost.mono h x2
  refine B.thn r2 (post_imp (fl_post σ h) fun k e3 h v3 H3 O3 Fp3 r3 x3 q3 => ?_)
  cases e : refOf x with
  | none => rw [e] at h; exact h.elim
  | some n =>
    rw [e] at h
    dsimp only at h
    cases ed : cellL n e3 with
    | none => rw [ed] at h; exact h.elim
    | some l =>
      rw [ed] at h
      cases ef : setAt l k d with
      | none => simp only [Option.bind_some, ef] at h; exact h.elim
      | some l' =>
        simp only [Option.bind_some, ef] at h
        obtain ⟨M, a, xs, hM, hl, rfl, hn, haF, h4, h5⟩ := cellL_at r3 (q2.mono x3) e ed
        unfold setAt at ef
        split at ef
        · rename_i iz
          obtain rfl := q3.int'
          cases ej : ixN l.length iz with
          | none => rw [ej] at ef; cases ef
          | some j =>
            rw [ej] at ef; cases ef
            obtain ⟨r', ev⟩ := r3.setLc hM hl hn haF h4 (RpAll.set (q1.mono (x2.trans x3)) j h5)
            exact ⟨a, xs, iz, j, rfl, rfl, h4, by rw [h5.length]; exact ej, h σ _ O3 _ r' (by rw [ev]; exact x3)⟩
        · cases ef⟩
end
end Ve

set_option Elab.async false
set_option linter.all false
set_option maxRecDepth 100000
set_option maxHeartbeats 4000000
/-! Heap mode: further built-ins, classes asked, plain defs called with things that are named. -/
namespace Ve
open PySem PySem.Spec PyProof.Rows L2 Evl Ny
/-! ### named lists: extend, slices given anew; methods -/
def eExtR (a : Env Hm → Res Hm D) (o : Env Hm → Res Hm (SD Hm)) (env : Env Hm) : Res Hm D := (a env).bind fun x e1 => match refOf x with
  | some n => if (cellL n e1).isSome = true then (o e1).bind fun sd e2 => match sd with
    | .lst k => (match cellL n e2 with
      | some l => if l.length + k.length ≤ 1000000 then .ok .none (putC n (.lst (l ++ k)) e2) else .bad
      | none => .bad)
    | _ => .bad else .bad
  | none => .bad
/-- xs[i:j] = ys, both named -/
def bSlcR (v a : Env Hm → Res Hm D) (p q : Env Hm → Res Hm (Option Int)) (env : Env Hm) : Flow Hm := (v env).fl fun y e1 => (a e1).fl fun x e2 => (p e2).fl fun lo e3 => (q e3).fl fun hi e4 => match refOf x, refOf y with
  | some n, some m => (match cellL n e4, cellL m e4, lo, hi with
    | some l, some k, some i, some j => if n ≠ m ∧ 0 ≤ i ∧ i ≤ j ∧ j ≤ l.length ∧ l.length + k.length ≤ 1000000 then .nx (putC n (.lst (l.take i.toNat ++ k ++ l.drop j.toNat)) e4) else .bad
    | _, _, _, _ => .bad)
  | _, _ => .bad
def findJ (k : Int) : List Int → Option Nat
  | [] => none
  | n :: ns => if n = k then some 0 else (findJ k ns).map (· + 1)
theorem findJ_some {k : Int} : ∀ {ns : List Int} {j : Nat}, findJ k ns = some j → ns[j]? = some k ∧ ∀ m : Nat, m < j → ns[m]? ≠ some k
  | [], _, h => by cases h
  | n :: ns, j, h => by
    unfold findJ at h
    split at h
    · rename_i e; cases h; subst e; exact ⟨rfl, fun m hm => (Nat.not_lt_zero _ hm).elim⟩
    · rename_i e
      obtain ⟨j', h1, rfl⟩ := Option.map_eq_some_iff.mp h
      obtain ⟨h2, h3⟩ := findJ_some h1
      refine ⟨by simpa using h2, fun m hm => ?_⟩
      cases m with
      | zero => simp; exact e
      | succ m => simpa using h3 m (by omega)
def mRemove : List D → List D → Option (D × List D)
  | l, [.int k] => (intsOf l).bind fun ns => (findJ k ns).map fun j => (.none, (ns.eraseIdx j).map .int)
  | _, _ => none
def mIndex : List D → List D → Option (D × List D)
  | l, [.int k] => (intsOf l).bind fun ns => (findJ k ns).map fun (j : Nat) => (PyData.int (j : Int), l)
  | _, _ => none
theorem mt_removeI {X : Cx} : MtM X "list.remove" rRemI := mt_remove
def rIndexK (K : PySem.W.Frag) : V → List V → Hp → VK → Prop := rIndex K
theorem mt_indexK {X : Cx} : MtR X "list.index" (rIndexK X.K) := mt_index
theorem intsOf_some : ∀ {l : List D} {ns : List Int}, intsOf l = some ns → l = ns.map PyData.int
  | [], ns, h => by cases h; rfl
  | d :: l, ns, h => by
    cases d with
    | int i =>
      have h : (intsOf l).map (i :: ·) = some ns := h
      obtain ⟨ns', h1, rfl⟩ := Option.map_eq_some_iff.mp h
      rw [intsOf_some h1]; rfl
    | _ => cases h
theorem ints_vs {K : PySem.W.Frag} {Hv : Hp} {xs : List V} {ns : List Int} (h : RpAll K Hv xs (ns.map PyData.int)) : xs = ns.map V.int := by
  induction ns generalizing xs with
  | nil => exact h.nil2
  | cons n ns ih =>
    cases h with
    | cons h1 h2 => rw [h1.int', ih h2]; rfl
instance {K : PySem.W.Frag} : SatMt K rRemI mRemove := ⟨fun Hv p xs l vs ds z l' H Q hp hx ha hf hq => by
  unfold mRemove at hf
  split at hf
  · rename_i k
    obtain ⟨ns, h1, h2⟩ := Option.bind_eq_some_iff.mp hf
    obtain ⟨j, h3, h4⟩ := Option.map_eq_some_iff.mp h2
    cases h4
    obtain rfl := intsOf_some h1
    obtain rfl := ints_vs hx
    obtain ⟨v, rfl, q⟩ := rpAll1 ha
    obtain rfl := q.int'
    obtain ⟨g1, g2⟩ := findJ_some h3
    exact ⟨p, ns, k, j, rfl, rfl, hp, g1, g2, hq _ _ (rp_ints _) .non⟩
  · cases hf⟩
instance {K : PySem.W.Frag} : SatMt K (rIndexK K) mIndex := ⟨fun Hv p xs l vs ds z l' H Q hp hx ha hf hq => by
  unfold mIndex at hf
  split at hf
  · rename_i k
    obtain ⟨ns, h1, h2⟩ := Option.bind_eq_some_iff.mp hf
    obtain ⟨j, h3, h4⟩ := Option.map_eq_some_iff.mp h2
    cases h4
    obtain rfl := intsOf_some h1
    obtain rfl := ints_vs hx
    obtain ⟨v, rfl, q⟩ := rpAll1 ha
    obtain rfl := q.int'
    obtain ⟨g1, g2⟩ := findJ_some h3
    have e : upd H p (.lst (ns.map V.int)) = H := by
      funext b; unfold upd; split
      · rename_i e; rw [e]; exact hp.symm
      · rfl
    have q2 := hq (.int j) (ns.map V.int) hx (.int _)
    rw [e] at q2
    refine ⟨p, _, .int k, j, .int k, rfl, rfl, .of hp, rfl, by simp [flatV], by rw [List.getElem?_map, g1]; rfl, by simp [eqV], fun m z' hm hz => ?_, q2⟩
    rw [List.getElem?_map] at hz
    cases e2 : ns[m]? with
    | none => rw [e2] at hz; cases hz
    | some y =>
      rw [e2] at hz; cases hz
      have : y ≠ k := fun z => g2 m hm (by rw [e2, z])
      simp [eqV, this]
  · cases hf⟩
section
variable {K : PySem.W.Frag} {W : Wd} {wx : WX}
variable {F : Fr} {env : Env Hm} {σ : L2.St} {H H' H0 : Hp} {O O' O0 : Ow} {Fp : Nat → List Addr} {M : Hm} {n : Nat} {v w : V} {d x y z : D} {l : List D} {es : List (D × D)} {Q : VK}
instance {te to : TE} {a : Env Hm → Res Hm D} {o : Env Hm → Res Hm (SD Hm)} [A : SatE K W wx te a] [S : SatO K W wx to o] : SatE K W wx (tRefM (tBM K "list" rExtend te (tCons to tNil))) (eExtR a o) := ⟨fun F env σ H O Fp Q r h => by
  refine A.thn r ((post_bind h).mono (Ex.refl _) fun x e1 h v1 H1 O1 Fp1 r1 x1 q1 => ?_)
  cases e : refOf x with
  | none => rw [e] at h; exact h.elim
  | some n =>
    rw [e] at h
    dsimp only at h
    by_cases hs : (cellL n e1).isSome = true
    · rw [if_pos hs] at h
      obtain ⟨l0, hl0⟩ := Option.isSome_iff_exists.mp hs
      obtain ⟨M, a, xs, _, _, rfl, _, _, h4, _⟩ := cellL_at r1 q1 e hl0
      refine ⟨ty_lst h4, S.go F e1 σ H1 O1 Fp1 _ r1 ((post_bind (EPost.mono h x1)).mono (Ex.refl _) fun sd e2 h u H2 O2 Fp2 G r2 x2 q2 hG => ?_)⟩
      cases sd with
      | lst k =>
        obtain ⟨pk, ks, rfl, rfl, hk, hka⟩ := q2
        cases el : cellL n e2 with
        | none => simp only [el] at h; exact h.elim
        | some l =>
          simp only [el] at h
          by_cases hl : l.length + k.length ≤ 1000000
          · rw [if_pos hl] at h
            obtain ⟨M, a', xs', hM, hl', e', hn, haF, g4, g5⟩ := cellL_at r2 (q1.mono x2) e el
            cases e'
            obtain ⟨r', ev⟩ := r2.setLc hM hl' hn haF g4 (g5.append hka)
            refine ⟨a, pk, xs', ks, rfl, rfl, g4, hk, by rw [g5.length, hka.length]; exact Nat.le_trans hl (by decide), ?_⟩
            exact h .non _ O2 _ r' (by rw [ev]; exact x2) .non
          · rw [if_neg hl] at h; exact h.elim
      | _ => exact h.elim
    · rw [if_neg hs] at h; exact h.elim⟩
instance {tv to : TE} {tl th : TO} {v a : Env Hm → Res Hm D} {p q : Env Hm → Res Hm (Option Int)} [V : SatE K W wx tv v] [A : SatE K W wx to a] [P : SatP K W wx tl p] [P' : SatP K W wx th q] : SatS K W wx (tRefS (tAsg tv (gSlcV to tl th))) (bSlcR v a p q) := ⟨fun F env σ H O Fp D0 r h => by
  refine V.thn r (post_imp (fl_post σ h) fun y e1 h v1 H1 O1 Fp1 r1 x1 q1 => ?_)
  have h := FPost.mono h x1
  refine A.thn r1 (post_imp (fl_post σ h) fun x e2 h v2 H2 O2 Fp2 r2 x2 q2 => ?_)
  have h := FPost.mono h x2
  refine P.go F e2 σ H2 O2 Fp2 _ r2 (post_imp (fl_post σ h) fun lo e3 h H3 O3 Fp3 r3 x3 => ?_)
  have h := FPost.mono h x3
  refine P'.go F e3 σ H3 O3 Fp3 _ r3 (post_imp (fl_post σ h) fun hi e4 h H4 O4 Fp4 r4 x4 => ?_)
  have h := FPost.mono h x4
  cases ex : refOf x with
  | none => rw [ex] at h; exact h.elim
  | some n =>
    cases ey : refOf y with
    | none => rw [ex, ey] at h; exact h.elim
    | some m =>
      rw [ex, ey] at h
      dsimp only at h
      cases el : cellL n e4 with
      | none => rw [el] at h; exact h.elim
      | some l =>
        cases ek : cellL m e4 with
        | none => rw [el, ek] at h; exact h.elim
        | some k =>
          rw [el, ek] at h
          cases lo with
          | none => exact h.elim
          | some i =>
            cases hi with
            | none => exact h.elim
            | some j =>
              dsimp only at h
              by_cases hc : n ≠ m ∧ 0 ≤ i ∧ i ≤ j ∧ j ≤ l.length ∧ l.length + k.length ≤ 1000000
              · rw [if_pos hc] at h
                obtain ⟨M, a, xs, hM, hl, rfl, hn, haF, g4, g5⟩ := cellL_at r4 (q2.mono (x3.trans x4)) ex el
                obtain ⟨M', b, ys, _, _, rfl, hm, _, k4, k5⟩ := cellL_at r4 (q1.mono (x2.trans (x3.trans x4))) ey ek
                have hne : a ≠ b := fun z => by subst z; rw [hn] at hm; cases hm; exact hc.1 rfl
                obtain ⟨r', ev⟩ := r4.setLc hM hl hn haF g4 ((g5.take i.toNat).append k5 |>.append (g5.drop j.toNat))
                refine ⟨a, b, xs, ys, i, j, rfl, rfl, hne, g4, k4, rfl, rfl, hc.2.1, hc.2.2.1, by rw [g5.length]; exact hc.2.2.2.1, by rw [g5.length, k5.length]; exact Nat.le_trans hc.2.2.2.2 (by decide), ?_⟩
                exact h σ _ O4 _ r' (by rw [ev]; exact Ex.refl _)
              · rw [if_neg hc] at h; exact h.elim⟩
end
/-! ### sorted, of lists and dicts of whole numbers -/
def rSortedDI : List V → Hp → VK → Prop := fun xs H Q => ∃ (a : Addr) (kvs : List (Key × V)) (ks : List Int), xs = [.ref a] ∧ Rd H a (.dK kvs) ∧ kvs.map (·.1) = ks.map Sum.inl ∧ ks.length < 64 ∧
    ∀ (ys : List Int) (p : Addr), ys.Perm ks → ys.Pairwise (· ≤ ·) → H p = none → Q (.ref p) (upd H p (.lst (ys.map V.int)))
def uSortX (K : PySem.W.Frag) : List V → Hp → VK → Prop := fun xs H Q => rSortedI K xs H Q ∨ rSortedDI xs H Q
theorem cu_sortX {X : Cx} (hc : X.calm = true) : CallR X (.builtin "sorted") (uSortX X.K) := (cr_sortedI).or (call_sortedDI hc)
def sortX (x : D) (env : Env Hm) : Option (List Int) := match seqL x env with
  | some l => intsOf l
  | none => (dctO x env).bind fun es => if es.length < 64 then intsOf (es.map (·.1)) else none
def oSortX (a : Env Hm → Res Hm D) (env : Env Hm) : Res Hm (SD Hm) := (a env).bind fun x e1 => match sortX x e1 with
  | some ns => .ok (.lst ((sortI ns).map PyData.int)) e1
  | none => .bad
section
variable {K : PySem.W.Frag} {W : Wd} {wx : WX}
theorem ints_keys : ∀ {es : List (D × D)} {kvs : List (Key × V)} {ns : List Int}, es.map (·.1) = kvs.map (fun q => kD q.1) → es.map (·.1) = ns.map PyData.int → kvs.map (·.1) = ns.map Sum.inl
  | [], [], [], _, _ => rfl
  | [], [], _ :: _, _, h => by cases h
  | [], _ :: _, _, h, _ => by cases h
  | _ :: _, [], _, h, _ => by cases h
  | _ :: _, _ :: _, [], _, h => by cases h
  | (kd, d) :: es, (k, v) :: kvs, n :: ns, h, g => by
    rw [List.map_cons, List.map_cons] at h g
    injection h with h1 h2
    injection g with g1 g2
    have h1 : kd = kD k := h1
    have g1 : kd = .int n := g1
    rw [h1] at g1
    rw [List.map_cons, List.map_cons, ints_keys h2 g2]
    cases k with
    | inl i => cases g1; rfl
    | inr s => cases g1
instance {ta : TE} {a : Env Hm → Res Hm D} [A : SatE K W wx ta a] : SatO K W wx (tCB (uSortX K) (tCons ta tNil)) (oSortX a) := ⟨fun F env σ H O Fp Q r h => by
  refine A.thn r ((post_bind h).mono (Ex.refl _) fun x e1 h v1 H1 O1 Fp1 r1 x1 q1 => ?_)
  cases ec : sortX x e1 with
  | none => rw [ec] at h; exact h.elim
  | some ns =>
    rw [ec] at h
    unfold sortX at ec
    cases el : seqL x e1 with
    | some l =>
      rw [el] at ec
      dsimp only at ec
      obtain ⟨a, xs, rfl, h1, h2⟩ := seqL_at r1 q1 el
      obtain rfl := intsOf_some ec
      obtain rfl := ints_vs h2
      refine .inl ⟨a, ns, rfl, h1, fun ns' p' hp ho hn => ?_⟩
      rw [sort_uniqI hp ho]
      exact newL r1 x1 (rp_ints _) h hn rfl
    | none =>
      rw [el] at ec
      dsimp only at ec
      cases ed : dctO x e1 with
      | none => rw [ed] at ec; cases ec
      | some es =>
        rw [ed] at ec
        obtain ⟨hl, ec⟩ := (show es.length < 64 ∧ intsOf (es.map (·.1)) = some ns by
          have ec : (if es.length < 64 then intsOf (es.map (·.1)) else none) = some ns := ec
          split at ec
          · rename_i q; exact ⟨q, ec⟩
          · cases ec)
        obtain ⟨a, kvs, rfl, h1, h2, h3⟩ := dctO_at r1 q1 ed
        have hk := ints_keys h2 (intsOf_some ec)
        refine .inr ⟨a, kvs, ns, rfl, h1, hk, by
          have := congrArg List.length (intsOf_some ec)
          simp only [List.length_map] at this; omega, fun ns' p' hp ho hn => ?_⟩
        rw [sort_uniqI hp ho]
        exact newL r1 x1 (rp_ints _) h hn rfl⟩
instance {ta : TE} {a : Env Hm → Res Hm D} [A : SatE K W wx ta a] : SatE K W wx (tCB (uSortX K) (tCons ta tNil)) (eFrz (oSortX a)) := sat_frz inferInstance
end
/-! ### isinstance of classes of the text -/
instance : DecidableEq Kd := fun a b => by cases a <;> cases b <;> first | exact isTrue rfl | exact isFalse (by intro h; cases h)
abbrev ITab := List ((Kd ⊕ Str) × Str × Bool)
structure ObC (K : PySem.W.Frag) (c : Str) : Prop where
  cls : Cls K (He.ga K c)
  ha : PySem.W.findIn K (.ref (He.ga K c)) "__class__" = some (some (.builtin "object.__class__"))
  hn : PySem.W.specialIn K (.builtin "object.__class__") "__get__" = some (some (.builtin "getset_descriptor.__get__"))
  ht : PySem.W.takesIn K (.builtin "object.__class__") = some true
  hm : PySem.W.mroIn K (He.ga K c) (.type "object") = some true
class IF (K : PySem.W.Frag) (it : outParam ITab) : Prop where
  kd : ∀ k D b, (Sum.inl k, D, b) ∈ it → PySem.W.kitOne K (.type k.ty) (.ref (He.ga K D)) = some b
  cl : ∀ c D b, (Sum.inr c, D, b) ∈ it → PySem.W.kitOne K (.ref (He.ga K c)) (.ref (He.ga K D)) = some b ∧ ObC K c
def ifB (K : PySem.W.Frag) (it : ITab) : Bool := it.all fun e => match e.1 with
  | .inl k => decide (PySem.W.kitOne K (.type k.ty) (.ref (He.ga K e.2.1)) = some e.2.2)
  | .inr c => decide (PySem.W.kitOne K (.ref (He.ga K c)) (.ref (He.ga K e.2.1)) = some e.2.2) && ((He.Fa.cls c).ok K && (decide (PySem.W.findIn K (.ref (He.ga K c)) "__class__" = some (some (.builtin "object.__class__"))) &&
    (decide (PySem.W.specialIn K (.builtin "object.__class__") "__get__" = some (some (.builtin "getset_descriptor.__get__"))) && (decide (PySem.W.takesIn K (.builtin "object.__class__") = some true) && decide (PySem.W.mroIn K (He.ga K c) (.type "object") = some true)))))
theorem if_ok {K : PySem.W.Frag} {it : ITab} (h : ifB K it = true) : IF K it := by
  have q := fun e he => List.all_eq_true.mp h e he
  refine ⟨fun k D b he => by simpa using q _ he, fun c D b he => ?_⟩
  have q := q _ he
  simp only [Bool.and_eq_true, decide_eq_true_eq] at q
  exact ⟨q.1, He.cls_ok q.2.1, q.2.2.1, q.2.2.2.1, q.2.2.2.2.1, q.2.2.2.2.2⟩
def itLook (it : ITab) (k : Kd ⊕ Str) (D : Str) : Option Bool := (it.find? fun e => decide (e.1 = k) && decide (e.2.1 = D)).map (·.2.2)
theorem itLook_mem {it : ITab} {k : Kd ⊕ Str} {D : Str} {b : Bool} (h : itLook it k D = some b) : (k, D, b) ∈ it := by
  unfold itLook at h
  obtain ⟨p, h1, h2⟩ := Option.map_eq_some_iff.mp h
  have h3 := List.find?_some h1
  simp only [Bool.and_eq_true, decide_eq_true_eq] at h3
  obtain ⟨k', D', b'⟩ := p
  obtain ⟨rfl, rfl⟩ := h3
  cases h2
  exact List.mem_of_find?_eq_some h1
def isO (it : ITab) (D : Str) (x : PyData) (env : Env Hm) : Option Bool := match refOf x with
  | some _ => (obD x env).bind fun q => itLook it (.inr q.2.1) D
  | none => itLook it (.inl (PyData.kd x)) D
def eIsO (it : ITab) (D : Str) (a : Env Hm → Res Hm Ve.D) (env : Env Hm) : Res Hm Ve.D := (a env).bind fun x e1 => match isO it D x e1 with
  | some b => .ok (.bool b) e1
  | none => .bad
section
variable {K : PySem.W.Frag} {W : Wd} {wx : WX}
theorem isR_pe {X : Cx} {C : Str} {p : Pos} (hg : Gl X C) (hm : X.mg C = some (.ref (He.ga X.K C))) (hd : (C == ("__debug__" : Str)) = false := by decide) : PE X (.Name C p) (tC (.ref (He.ga X.K C))) := pe_glob hg hm rfl hd
instance {it : ITab} {D : Str} {ta : TE} {a : Env Hm → Res Hm Ve.D} [I : IF K it] [A : SatE K W wx ta a] : SatE K W wx (tRefM (tCB (uIsi K) (tCons ta (tCons (tC (.ref (He.ga K D))) tNil)))) (eIsO it D a) := ⟨fun F env σ H O Fp Q r h => by
  refine A.thn r ((post_bind h).mono (Ex.refl _) fun x e1 h v1 H1 O1 Fp1 r1 x1 q1 => ?_)
  cases ei : isO it D x e1 with
  | none => rw [ei] at h; exact h.elim
  | some b =>
    rw [ei] at h
    have hq := h _ H1 O1 Fp1 r1 x1 (.bl b)
    unfold isO at ei
    cases e : refOf x with
    | none =>
      rw [e] at ei
      have hk := rp_kd q1 (by unfold noRef; rw [e]; rfl)
      exact ⟨v1, .ref _, _, _, b, rfl, .own _, hk.tyX, I.kd _ _ _ (itLook_mem ei), hq⟩
    | some n =>
      rw [e] at ei
      dsimp only at ei
      cases eo : obD x e1 with
      | none => rw [eo] at ei; cases ei
      | some q =>
        obtain ⟨n', c, fs⟩ := q
        rw [eo] at ei
        obtain ⟨M, p, dx, vs, hM, hc, rfl, hn, haF, h4, h5, h6, h7⟩ := ob_at r1 q1 eo
        obtain ⟨k1, k2⟩ := I.cl _ _ _ (itLook_mem (show itLook it (.inr c) D = some b from ei))
        exact ⟨_, .ref _, _, _, b, rfl, .own _, .base (.ins h4 k2.cls k2.ha k2.hn k2.ht k2.hm), k1, hq⟩⟩
end
end Ve

set_option Elab.async false
set_option linter.all false
set_option maxRecDepth 100000
set_option maxHeartbeats 4000000
/-! Heap mode: loops and comprehensions over named lists; plain defs called. -/
namespace Ve
open PySem PySem.Spec PyProof.Rows L2 Evl Ny
/-! ### loops over a named list, item by item as it then stands -/
def fItem : Nat → D → D := fun _ d => d
def fEnum : Nat → D → D := fun i d => .tuple [.int i, d]
structure DIter (K : PySem.W.Frag) (J : It) (p : Addr) (f : Nat → D → D) : Prop where
  go : ∀ i H xs, H p = some (.lst xs) → i < xs.length → J.go i H
  yld : ∀ i H v H' (O : Ow) xs l d, (∀ a, O a → H a ≠ none) → H p = some (.lst xs) → RpAll K (vw O H) xs l → l[i]? = some d → J.yld i H v H' → Ex H H' ∧ Rp K (vw O H') v (f i d)
  stop : ∀ i H xs, H p = some (.lst xs) → xs.length ≤ i → J.stop i H
theorem diter_list {K : PySem.W.Frag} {p : Addr} : DIter K (Itl K p) p fItem where
  go := fun i H xs h hi => ⟨xs, xs[i], .of h, List.getElem?_eq_getElem hi⟩
  yld := fun i H v H' O xs l d hO h ha hd y => by
    obtain ⟨rfl, y⟩ := y
    obtain ⟨w, h1, h2⟩ := ha.get' hd
    have := y xs (.of h)
    rw [h1] at this; cases this
    exact ⟨Ex.refl _, h2⟩
  stop := fun i H xs h hi => ⟨xs, .of h, hi⟩
theorem diter_enum {K : PySem.W.Frag} {p : Addr} : DIter K (Ite K p) p fEnum where
  go := fun i H xs h hi => ⟨xs, xs[i], .of h, List.getElem?_eq_getElem hi⟩
  yld := fun i H v H' O xs l d hO h ha hd y => by
    obtain ⟨T, x, rfl, hT, rfl, y⟩ := y
    obtain ⟨w, h1, h2⟩ := ha.get' hd
    have this := y xs (.of h)
    rw [h1] at this
    obtain rfl := Option.some.inj this
    have x1 : Ex H _ := Ex.new (o := HO.tup [.int (i : Nat), w]) hT
    exact ⟨x1, .tup (.of (vw_new (fun z => hO T z hT) hT)) (.cons (.int _) (.cons (h2.mono (vw_ex x1)) .nil))⟩
  stop := fun i H xs h hi => ⟨xs, .of h, hi⟩
def loopN (f : Nat → D → D) (g : D → Env Hm → Res Hm Unit) (body : Env Hm → Flow Hm) (n : Nat) : Nat → Nat → Env Hm → Flow Hm
  | 0, _, _ => .bad
  | k + 1, i, env => match cellL n env with
    | none => .bad
    | some l => match l[i]? with
      | none => .nx env
      | some d => (g (f i d) env).fl fun _ e => match body e with
        | .nx e2 => loopN f g body n k (i + 1) e2
        | .ct e2 => loopN f g body n k (i + 1) e2
        | .bk e2 => .nx e2
        | f => f
def bForN (f : Nat → D → D) (a : Env Hm → Res Hm D) (g : D → Env Hm → Res Hm Unit) (body : Env Hm → Flow Hm) (env : Env Hm) : Flow Hm := (a env).fl fun d e => match refOf d with
  | some n => if (cellL n e).isSome = true then loopN f g body n 2000 0 e else .bad
  | none => .bad
def lcN (f : Nat → D → D) (g : D → Env Hm → Res Hm Unit) (t : Env Hm → Res Hm Bool) (el : Env Hm → Res Hm D) (vs : List Nat) (n : Nat) : Nat → Nat → List D → Env Hm → Res Hm (List D)
  | 0, _, _, _ => .bad
  | k + 1, i, acc, env => match cellL n env with
    | none => .bad
    | some l => match l[i]? with
      | none => .ok acc (wipeE vs env)
      | some d => (g (f i d) env).ne.bind fun _ e => (t e).ne.bind fun b e2 => if b = true then (el e2).ne.bind fun y e3 => lcN f g t el vs n k (i + 1) (acc ++ [y]) (wipeE vs e3) else lcN f g t el vs n k (i + 1) acc (wipeE vs e2)
def oLcN (f : Nat → D → D) (a : Env Hm → Res Hm D) (g : D → Env Hm → Res Hm Unit) (t : Env Hm → Res Hm Bool) (el : Env Hm → Res Hm D) (vs : List Nat) (env : Env Hm) : Res Hm (SD Hm) := (a env).bind fun d e => match refOf d with
  | some n => if (cellL n e).isSome = true then (lcN f g t el vs n 2000 0 [] (wipeE vs e)).bind fun l e' => .ok (.lst l) e' else .bad
  | none => .bad
def tLcN (t : TE) : TE := t
def tForN (t : TS) : TS := t
theorem pe_lcn {X : Cx} {e : Expr} {t : TE} (h : PE X e t) : PE X e (tLcN t) := h
theorem ps_forN {X : Cx} {st : Stmt} {ts : TS} (h : PS X st ts) : PS X st (tForN ts) := h
section
variable {K : PySem.W.Frag} {W : Wd} {wx : WX}
def DPost (K : PySem.W.Frag) (W : Wd) (wx : WX) (F : Fr) (σ : L2.St) (H : Hp) (O : Ow) (f : Nat → D → D) (R : It → Hp → Prop) : Res Hm D → Prop :=
  Post (fun d e => ∃ n, refOf d = some n ∧ (cellL n e).isSome = true ∧ ∀ p H' O' Fp' J, Rel K W F e σ H' O' Fp' → Ex (vw O H) (vw O' H') → Rp K (vw O' H') (.ref p) d → DIter K J p f → R J H') (Raised K W wx F σ H O)
class SatDI (K : PySem.W.Frag) (W : Wd) (wx : WX) (wi : TI) (f : outParam (Nat → D → D)) (a : outParam (Env Hm → Res Hm D)) : Prop where
  go : ∀ F env σ H O Fp R, Rel K W F env σ H O Fp → DPost K W wx F σ H O f R (a env) → wi (vis Hm σ) H R
instance {te : TE} {a : Env Hm → Res Hm D} [A : SatE K W wx te a] : SatDI K W wx (iList K te) fItem a := ⟨fun F env σ H O Fp R r h => by
  refine A.thn r (post_imp h fun d e1 h v1 H1 O1 Fp1 r1 x1 q1 => ?_)
  obtain ⟨n, hn, hs, h⟩ := h
  obtain ⟨l, hl⟩ := Option.isSome_iff_exists.mp hs
  obtain ⟨M, p, xs, _, _, rfl, _, _, h4, _⟩ := cellL_at r1 q1 hn hl
  exact ⟨p, rfl, ⟨xs, .of h4⟩, h p H1 O1 Fp1 _ r1 x1 q1 diter_list⟩⟩
instance {te : TE} {a : Env Hm → Res Hm D} [A : SatE K W wx te a] : SatDI K W wx (iEnum K (tCons te tNil)) fEnum a := ⟨fun F env σ H O Fp R r h => by
  refine A.thn r (post_imp h fun d e1 h v1 H1 O1 Fp1 r1 x1 q1 => ?_)
  obtain ⟨n, hn, hs, h⟩ := h
  obtain ⟨l, hl⟩ := Option.isSome_iff_exists.mp hs
  obtain ⟨M, p, xs, _, _, rfl, _, _, h4, _⟩ := cellL_at r1 q1 hn hl
  exact ⟨p, xs, rfl, .of h4, h p H1 O1 Fp1 _ r1 x1 q1 diter_enum⟩⟩
instance (priority := high) {wi : TI} {f : Nat → D → D} {g : TG} {tb : TS} {a : Env Hm → Res Hm D} {m : D → Env Hm → Res Hm Unit} {body : Env Hm → Flow Hm} [A : SatDI K W wx wi f a] [G : SatG K W g m] [N : NoErr m] [B : SatS K W wx tb body] : SatS K W wx (tForN (tFor wi g tb)) (bForN f a m body) := ⟨fun F env σ H O Fp D0 r h => by
  refine A.go F env σ H O Fp _ r (post_imp (fl_post σ h) fun d e1 h => ?_)
  cases hn : refOf d with
  | none => rw [hn] at h; exact h.elim
  | some n =>
    rw [hn] at h
    dsimp only at h
    by_cases hs : (cellL n e1).isSome = true
    · rw [if_pos hs] at h
      refine ⟨n, rfl, hs, fun p H1 O1 Fp1 J r1 x1 q1 J1 => ?_⟩
      have h := FPost.mono h x1
      have hp1 : O1.nm p = some n := by
        obtain ⟨p', e, z⟩ := rp_refOf q1 hn
        cases e; exact vw_name z
      let Pv : Nat → Nat → L2.St → Hp → Prop := fun k i σ H => ∃ (e : Env Hm) (O : Ow) (Fp : Nat → List Addr), Rel K W F e (ups Hm σ) H O Fp ∧ Ex (vw O1 H1) (vw O H) ∧ FPost K W wx F H1 O1 D0 (loopN f m body n k i e)
      refine ⟨fun i k σ H => Pv k i σ H, ⟨2000, e1, O1, Fp1, by rw [r1.up]; exact r1, Ex.refl _, h⟩, ?_⟩
      rintro i k σ2 H2 ⟨e2, O2, Fp2, r2, x2, h2⟩
      cases k with
      | zero => exact h2.elim
      | succ k =>
        have qn : Rp K (vw O2 H2) (.ref p) d := q1.mono x2
        unfold loopN at h2
        cases e : cellL n e2 with
        | none => rw [e] at h2; exact h2.elim
        | some l2 =>
          rw [e] at h2
          dsimp only at h2
          obtain ⟨_, _, ys, _, _, e', _, _, g4, g5⟩ := cellL_at r2 qn hn e
          cases e'
          cases ei : l2[i]? with
          | none =>
            rw [ei] at h2
            have hge : l2.length ≤ i := List.getElem?_eq_none_iff.mp ei
            refine .inl ⟨J1.stop i H2 ys g4 (by rw [g5.length]; exact hge), ?_⟩
            have h3 := h2 (ups Hm σ2) H2 O2 Fp2 r2 x2
            rwa [vis_ups] at h3
          | some dd =>
            rw [ei] at h2
            dsimp only at h2
            have hlt : i < ys.length := by rw [g5.length]; exact (List.getElem?_eq_some_iff.mp ei).1
            refine .inr ⟨J1.go i H2 ys g4 hlt, Pv k (i + 1), fun σ' H' p => ⟨k, Nat.lt_succ_self _, p⟩, fun v H3 y => ?_⟩
            obtain ⟨x3, q3⟩ := J1.yld i H2 v H3 O2 ys l2 dd r2.all g4 g5 ei y
            have r3 := r2.grow x3
            rw [← vis_ups (Ω := Hm) (σ := σ2)]
            refine G.go F e2 (ups Hm σ2) H3 O2 Fp2 v _ _ r3 q3 ?_
            have h4 := fl_post0 h2 fun c p e => N.go _ e2 c p e
            cases q : m (f i dd) e2 with
            | err c p e => rw [q] at h4; exact h4.elim
            | bad => rw [q] at h4; exact h4.elim
            | ok u e3 =>
              rw [q] at h4
              have h4 : FPost K W wx F H1 O1 D0 (match body e3 with | .nx e2 => loopN f m body n k (i + 1) e2 | .ct e2 => loopN f m body n k (i + 1) e2 | .bk e2 => .nx e2 | f => f) := h4
              intro σ4 H4 O4 Fp4 r4 x4
              have x14 := (x2.trans (vw_ex x3)).trans x4
              refine B.go F e3 σ4 H4 O4 Fp4 _ r4 ?_
              cases qb : body e3 with
              | nx e5 => rw [qb] at h4; exact fun σ' H' O' Fp' r' x' => ⟨e5, O', Fp', by rw [r'.up]; exact r', x14.trans x', h4⟩
              | ct e5 => rw [qb] at h4; exact fun σ' H' O' Fp' r' x' => ⟨e5, O', Fp', by rw [r'.up]; exact r', x14.trans x', h4⟩
              | bk e5 => rw [qb] at h4; exact Nexts.mono h4 x14
              | rt rv e5 => rw [qb] at h4; exact FPost.mono (f := .rt rv e5) h4 x14
              | err c p e5 => rw [qb] at h4; exact FPost.mono (D0 := D0) (f := .err c p e5) h4 x14
              | bad => rw [qb] at h4; exact h4.elim
    · rw [if_neg hs] at h; exact h.elim⟩
instance {wi : TI} {f : Nat → D → D} {g : TG} {tt : TT} {te : TE} {vs0 vs : List Nat} {a : Env Hm → Res Hm D} {m : D → Env Hm → Res Hm Unit} {t : Env Hm → Res Hm Bool} {el : Env Hm → Res Hm D}
    [A : SatDI K W wx wi f a] [G : SatG K W g m] [N : GWipe g vs0] [T : SatT K W WX0 tt t] [E : SatE K W WX0 te el] [IX : Ixs Hm vs0 vs] [VW : WrAll W vs] : SatO K W wx (tLcN (tLc wi g tt te vs0)) (oLcN f a m t el vs) := ⟨fun F env σ H O Fp Q r h => by
  refine A.go F env σ H O Fp _ r (post_imp (post_bind h) fun d e1 h => ?_)
  cases hn : refOf d with
  | none => rw [hn] at h; exact h.elim
  | some n =>
  rw [hn] at h
  dsimp only at h
  by_cases hs : (cellL n e1).isSome = true
  rotate_left
  · rw [if_neg hs] at h; exact h.elim
  rw [if_pos hs] at h
  refine ⟨n, rfl, hs, fun p H1 O1 Fp1 J r1 x1 q1 J1 => ?_⟩
  intro Dp hn'
  have hsz : (1000000 : Nat) < sizeLine := by decide
  have h0 : F.H0 Dp = none := r1.fresh hn'
  have hP : ∀ i, Dp ∉ F.P i := fun i z => r1.base Dp (r1.pin i Dp z) h0
  let Fin : Res Hm (List D) → Prop := fun res => OPost K W wx F σ H O Q (res.bind fun l e' => .ok (.lst l) e')
  let Pv : Nat → Nat → Hp → Prop := fun k i H' => ∃ (e : Env Hm) (O' : Ow) (Fp' : Nat → List Addr) (acc : List D) (ys : List V), Rel K W F e (L2.wipe σ vs) H' O' Fp' ∧ O'.un Dp ∧ (∀ j, Dp ∉ Fp' j) ∧ H' Dp = some (.lst ys) ∧ RpAll K (vw O' H') ys acc ∧ acc.length ≤ i ∧ k + i ≤ 2000 ∧
    Ex (vw O1 H1) (vw O' H') ∧ Fin (lcN f m t el vs n k i acc e)
  have start : Pv 2000 0 (upd H1 Dp (.lst [])) := by
    refine ⟨wipeE vs e1, addO O1 Dp, Fp1, [], [], (r1.newO hn').wipe (wipe_wipe σ vs) VW.eq, addO_un (r1.notO hn'), fun j z => r1.all Dp (r1.own j Dp z) hn', upd_same, .nil, Nat.le_refl _, Nat.le_refl _, by rw [vw_add (r1.notO hn') hn']; exact Ex.refl _, h⟩
  refine ⟨fun i k H' => Pv k i H', ⟨2000, start⟩, ?_⟩
  rintro i k H2 ⟨e2, O2, Fp2, acc, ys, r2, hO2, hF2, hD2, ha2, hl2, hki, x2, h2⟩
  cases k with
  | zero => exact h2.elim
  | succ k =>
  have qn : Rp K (vw O2 H2) (.ref p) d := q1.mono x2
  have h2 : Fin (lcN f m t el vs n (k + 1) i acc e2) := h2
  unfold lcN at h2
  cases e : cellL n e2 with
  | none => rw [e] at h2; exact h2.elim
  | some l2 =>
  rw [e] at h2
  dsimp only at h2
  obtain ⟨_, _, zs, _, _, e', _, haF, g4, g5⟩ := cellL_at r2 qn hn e
  cases e'
  cases ei : l2[i]? with
  | none =>
    rw [ei] at h2
    have hge : l2.length ≤ i := List.getElem?_eq_none_iff.mp ei
    refine .inl ⟨J1.stop i H2 zs g4 (by rw [g5.length]; exact hge), ?_⟩
    have h2 : OPost K W wx F σ H O Q (.ok (.lst acc) (wipeE vs e2)) := h2
    exact h2 (.ref Dp) H2 O2 Fp2 [Dp] (r2.wipe (wipe_wipe σ vs).symm VW.eq) (x1.trans x2) ⟨Dp, ys, rfl, rfl, hD2, ha2⟩ fun a ha => by
      rw [List.mem_singleton.mp ha]
      exact ⟨hO2, h0, hF2⟩
  | some dd =>
    rw [ei] at h2
    dsimp only at h2
    have hlt : i < zs.length := by rw [g5.length]; exact (List.getElem?_eq_some_iff.mp ei).1
    refine .inr ⟨J1.go i H2 zs g4 hlt, Pv k (i + 1), fun H' p => ⟨k, Nat.lt_succ_self _, p⟩, fun v H3 y => ?_⟩
    obtain ⟨x3, q3⟩ := J1.yld i H2 v H3 O2 zs l2 dd r2.all g4 g5 ei y
    have r3 := (r2.adopt hO2.2 hO2.1 hF2 h0 hD2).grow x3
    have x23 : Ex (vw O2 H2) (vw O2 H3) := vw_ex x3
    have h3 : ∃ u e3, m (f i dd) e2 = .ok u e3 ∧ Fin ((t e3).ne.bind fun b e2 => if b = true then (el e2).ne.bind fun y e3 => lcN f m t el vs n k (i + 1) (acc ++ [y]) (wipeE vs e3) else lcN f m t el vs n k (i + 1) acc (wipeE vs e2)) := by
      cases q : m (f i dd) e2 with
      | ok u e3 => exact ⟨u, e3, rfl, by have z := h2; simp only [q, Res.ne, Res.bind] at z ⊢; exact z⟩
      | err c p e3 => have z := h2; simp only [Fin, q, Res.ne, Res.bind] at z; exact z.elim
      | bad => have z := h2; simp only [Fin, q, Res.ne, Res.bind] at z; exact z.elim
    obtain ⟨u, e3, hm, h3⟩ := h3
    refine N.go v _ H3 (fun σ' H' => L2.wipe σ' vs0 = L2.wipe (L2.wipe (vis Hm σ) vs0) vs0 ∧ (L2.wipe σ' vs0 = L2.wipe (vis Hm σ) vs0 → tt σ' H' _)) _ (fun σ' H' e q => ⟨by rw [e, wipe_wipe], q.2 (by rw [e, wipe_wipe])⟩) ?_
    refine N.go v _ H3 (fun σ' H' => (L2.wipe σ' vs0 = L2.wipe (vis Hm σ) vs0 → tt σ' H' _)) _ (fun σ' H' e q => ⟨e, q⟩) ?_
    rw [← vis_wipe IX r.up]
    refine G.go (F.add Dp (.lst ys)) e2 _ H3 O2 Fp2 v _ _ r3 q3 (post_raise0 hm ?_)
    intro σ4 H4 O4 Fp4 r4 x4 hw
    have hw : L2.wipe σ4 vs = L2.wipe σ vs := by
      have e1 := wipe_ups (Ω := Hm) (σ := vis Hm σ4) IX
      have e2 := wipe_ups (Ω := Hm) (σ := vis Hm σ) IX
      rw [r4.up] at e1; rw [r.up] at e2
      rw [e1, e2, hw, vis_wipe IX r.up]
    have h4 : ∃ b e4, t e3 = .ok b e4 ∧ Fin (if b = true then (el e4).ne.bind fun y e3 => lcN f m t el vs n k (i + 1) (acc ++ [y]) (wipeE vs e3) else lcN f m t el vs n k (i + 1) acc (wipeE vs e4)) := by
      cases q : t e3 with
      | ok b e4 => exact ⟨b, e4, rfl, by have z := h3; simp only [q, Res.ne, Res.bind] at z ⊢; exact z⟩
      | err c p e3 => have z := h3; simp only [Fin, q, Res.ne, Res.bind] at z; exact z.elim
      | bad => have z := h3; simp only [Fin, q, Res.ne, Res.bind] at z; exact z.elim
    obtain ⟨b, e4, ht, h4⟩ := h4
    refine T.go (F.add Dp (.lst ys)) e3 σ4 H4 O4 Fp4 _ r4 (post_raise0 ht ?_)
    intro H5 O5 Fp5 r5 x5
    cases b with
    | false =>
      refine iteF ?_
      obtain ⟨r6, hO6, hF6, hD6⟩ := Rel.unadopt h0 hP r.pin r.base r5
      have hO6 : O5.un Dp := ⟨hO6, unm_of r5 h0 r.base⟩
      have x25 := (x23.trans x4).trans x5
      exact ⟨wipeE vs e4, O5, Fp5, acc, ys, r6.wipe (by rw [wipe_wipe, hw]) VW.eq, hO6, hF6, hD6, ha2.mono x25, Nat.le_succ_of_le hl2, by omega, x2.trans x25, h4⟩
    | true =>
      refine iteT ?_
      have h5 : ∃ d e5, el e4 = .ok d e5 ∧ Fin (lcN f m t el vs n k (i + 1) (acc ++ [d]) (wipeE vs e5)) := by
        cases q : el e4 with
        | ok b e4 => exact ⟨b, e4, rfl, by have z := h4; simp only [q, Res.ne, Res.bind, if_true] at z ⊢; exact z⟩
        | err c p e3 => have z := h4; simp only [Fin, q, Res.ne, Res.bind, if_true] at z; exact z.elim
        | bad => have z := h4; simp only [Fin, q, Res.ne, Res.bind, if_true] at z; exact z.elim
      obtain ⟨d5, e5, he, h5⟩ := h5
      refine E.go (F.add Dp (.lst ys)) e4 σ4 H5 O5 Fp5 _ r5 (post_raise0 he ?_)
      intro v6 H6 O6 Fp6 r6 x6 q6
      obtain ⟨r7, hO7, hF7, hD7⟩ := Rel.unadopt h0 hP r.pin r.base r6
      have hO7' : O6.un Dp := ⟨hO7, unm_of r6 h0 r.base⟩
      have x26 := ((x23.trans x4).trans x5).trans x6
      have hyl : ys.length = acc.length := ha2.length
      refine ⟨ys, hD7, by omega, wipeE vs e5, O6, Fp6, acc ++ [d5], ys ++ [v6], (r7.updO hO7 hF7 h0).wipe (by rw [wipe_wipe, hw]) VW.eq, hO7', hF7, upd_same, ?_, by rw [List.length_append]; exact Nat.succ_le_succ hl2, by omega, ?_, h5⟩
      · rw [vw_upd_own hO7]
        exact (ha2.mono x26).append (.cons q6 .nil)
      · rw [vw_upd_own hO7]; exact x2.trans x26⟩
end
/-! ### a plain def called: named lists are lent, the answer holds none of them -/
def argP (env : Env Hm) (d : D) : Option D := match refOf d with
  | some k => (cellL k env).bind fun l => if pureDs l = true then some (.list l) else none
  | none => if pureD d = true then some d else none
def opnd (env : Env Hm) : List D → List (List D)
  | [] => []
  | d :: ds => match (refOf d).bind fun k => cellL k env with
    | some l => l :: opnd env ds
    | none => opnd env ds
def flatEq : D → D → Bool
  | .none, .none => true
  | .bool a, .bool b => a == b
  | .int a, .int b => decide (a = b)
  | .str a, .str b => decide (a = b)
  | _, _ => false
def listEq : List D → List D → Bool
  | [], [] => true
  | a :: l, b :: k => flatEq a b && listEq l k
  | _, _ => false
mutual
def apart (cs : List (List D)) : D → Bool
  | .list ds => cs.all (fun l => !listEq l ds) && aparts cs ds
  | .tuple ds => aparts cs ds
  | .dict es => apartE cs es
  | _ => true
def aparts (cs : List (List D)) : List D → Bool
  | [] => true
  | d :: ds => apart cs d && aparts cs ds
def apartE (cs : List (List D)) : List (D × D) → Bool
  | [] => true
  | p :: es => apartP cs p && apartE cs es
def apartP (cs : List (List D)) : D × D → Bool
  | (_, d) => apart cs d
end
def resOk (cs : List (List D)) (z : D) : Bool := flatD z || (pureD z && (cs.isEmpty || ((cs.all fun l => l.all flatD) && apart cs z)))
def goP (l : List Bool) (n : Nat) (m : List (SD Empty) → RetM Empty) (ds : List D) (e1 : Env Hm) : Res Hm (RV Hm) := match mapO (argP e1) ds with
  | none => .bad
  | some as => if as.length = n then (match m (as.map .val) with
    | .ok (.val z) _ => if resOk (opnd e1 ds) z = true then .ok (.val z) e1 else .bad
    | .ok (.own (.lst zs)) _ => if (zs.all fun z => resOk (opnd e1 ds) z) = true then .ok (.own (.lst zs)) e1 else .bad
    | .ok _ _ => .bad
    | .err c none _ => .err c none e1
    | .err c (some d) _ => if flatD d = true then .err c (some d) e1 else .bad
    | .bad => .bad) else .bad
def eCallP (l : List Bool) (n : Nat) (m : List (SD Empty) → RetM Empty) (a : Env Hm → Res Hm (List D)) (env : Env Hm) : Res Hm (RV Hm) := (a env).bind fun ds e1 => goP l n m ds e1
def layD (lay : List Src) (as bs : List D) : List D := lay.filterMap (Src.pick (fun _ d => d) as bs)
def eCallPK (lay : List Src) (n1 n2 : Nat) (l : List Bool) (n : Nat) (m : List (SD Empty) → RetM Empty) (a b : Env Hm → Res Hm (List D)) (env : Env Hm) : Res Hm (RV Hm) := (a env).bind fun as e1 => (b e1).bind fun bs e2 =>
  if as.length = n1 ∧ bs.length = n2 then goP l n m (layD lay as bs) e2 else .bad
def tPure (t : TE) : TE := t
theorem pe_pure {X : Cx} {e : Expr} {t : TE} (h : PE X e t) : PE X e (tPure t) := h
/-- some named things are read as what they hold -/
noncomputable def opO (O : Ow) (ks : List Nat) : Ow := ⟨fun a => O a ∧ ¬ ∃ k ∈ ks, O.nm a = some k, fun a => open Classical in if ∃ k ∈ ks, O.nm a = some k then none else O.nm a,
  fun a b n h1 h2 => by
    split at h1
    · cases h1
    · split at h2
      · cases h2
      · exact O.inj a b n h1 h2,
  fun a n h => by
    split at h
    · cases h
    · rename_i q; exact ⟨O.sub a n h, q⟩⟩
section
variable {K : PySem.W.Frag} {W : Wd} {wx : WX}
variable {F : Fr} {env : Env Hm} {σ : L2.St} {H H' : Hp} {O O' : Ow} {Fp : Nat → List Addr} {Hv Hv' : Hp}
theorem flatEq_of {v : V} {d e : D} (h : Rp K Hv v d) (f : flatD d = true) (g : Rp K Hv' v e) : flatEq d e = true := by
  cases h with
  | non => cases g; rfl
  | bl b => cases g; simp [flatEq]
  | int i => cases g; simp [flatEq]
  | str x => cases g; simp [flatEq]
  | _ => first | cases f | (simp [flatD, refD] at f)
theorem listEq_of : ∀ {vs : List V} {l k : List D}, RpAll K Hv vs l → (l.all flatD) = true → RpAll K Hv' vs k → listEq l k = true
  | _, _, _, .nil, _, h => by have := h.nil'; subst this; rfl
  | _, _, _, .cons h1 h2, f, h => by
    cases h with
    | cons g1 g2 =>
      rw [List.all_cons, Bool.and_eq_true] at f
      unfold listEq
      rw [flatEq_of h1 f.1 g1, listEq_of h2 f.2 g2]; rfl
/-- what is seen there is seen here, or is one of the lists -/
def SeenOr (K : PySem.W.Frag) (cs : List (List D)) (Hv Hv' : Hp) : Prop := ∀ a o, seenO o = true → Hv a = some o → Hv' a = some o ∨ ∃ l xs Hw, l ∈ cs ∧ o = .lst xs ∧ RpAll K Hw xs l
mutual
theorem Rp.back {cs : List (List D)} (hf : (cs.all fun l => l.all flatD) = true) (hx : SeenOr K cs Hv Hv') : ∀ {v : V} {d : D}, Rp K Hv v d → pureD d = true → apart cs d = true → Rp K Hv' v d
  | _, _, .non, _, _ => .non
  | _, _, .bl b, _, _ => .bl b
  | _, _, .int i, _, _ => .int i
  | _, _, .str x, _, _ => .str x
  | _, _, .lst (xs := xs) (ds := ds) h a, n, q => by
    unfold apart at q
    rw [Bool.and_eq_true] at q
    refine .lst ?_ (RpAll.back hf hx a (by simpa [pureD] using n) q.2)
    rcases h with (h | ⟨o, h⟩) | h
    · rcases hx _ _ rfl h with z | ⟨l, ys, Hw, hl, e, hr⟩
      · exact .inl (.inl z)
      · cases e
        have := List.all_eq_true.mp q.1 l hl
        rw [listEq_of hr (List.all_eq_true.mp hf l hl) a] at this
        cases this
    · rcases hx _ _ rfl h with z | ⟨l, ys, Hw, hl, e, hr⟩
      · exact .inl (.inr ⟨o, z⟩)
      · cases e
    · exact .inr h
  | _, _, .tup h a, n, q => by
    unfold apart at q
    refine .tup ?_ (RpAll.back hf hx a (by simpa [pureD] using n) q)
    rcases h with (h | ⟨o, h⟩) | h
    · rcases hx _ _ rfl h with z | ⟨l, ys, Hw, hl, e, hr⟩
      · exact .inl (.inl z)
      · cases e
    · rcases hx _ _ rfl h with z | ⟨l, ys, Hw, hl, e, hr⟩
      · exact .inl (.inr ⟨o, z⟩)
      · cases e
    · exact .inr h
  | _, _, .dct h k a, n, q => by
    unfold apart at q
    rcases hx _ _ rfl h with z | ⟨l, ys, Hw, hl, e, hr⟩
    · exact .dct z k (RpAll.back hf hx a (pureEs_map (by simp [pureD] at n; exact n.2)) (apartE_map q))
    · cases e
  | _, _, .ref h, n, _ => by simp [refD, pureD, refOf] at n
theorem RpAll.back {cs : List (List D)} (hf : (cs.all fun l => l.all flatD) = true) (hx : SeenOr K cs Hv Hv') : ∀ {vs : List V} {ds : List D}, RpAll K Hv vs ds → pureDs ds = true → aparts cs ds = true → RpAll K Hv' vs ds
  | _, _, .nil, _, _ => .nil
  | _, _, .cons h t, n, q => by
    simp [pureDs] at n
    unfold aparts at q
    rw [Bool.and_eq_true] at q
    exact .cons (Rp.back hf hx h n.1 q.1) (RpAll.back hf hx t n.2 q.2)
theorem apartE_map {cs : List (List D)} : ∀ {es : List (D × D)}, apartE cs es = true → aparts cs (es.map (·.2)) = true
  | [], _ => rfl
  | (k, d) :: es, h => by
    unfold apartE at h
    rw [Bool.and_eq_true] at h
    show (apart cs d && aparts cs (es.map (·.2))) = true
    rw [Bool.and_eq_true]
    exact ⟨h.1, apartE_map h.2⟩
end
theorem opO_sub {ks : List Nat} {a : Addr} (h : opO O ks a) : O a := h.1
theorem opO_nm {ks : List Nat} {a : Addr} {n : Nat} (h : (opO O ks).nm a = some n) : O.nm a = some n := by
  have h : (open Classical in if ∃ k ∈ ks, O.nm a = some k then none else O.nm a) = some n := h
  split at h
  · cases h
  · exact h
theorem args_in (r : Rel K W F env σ H O Fp) {ks : List Nat} : ∀ {vs : List V} {ds ds' : List D}, RpAll K (vw O H) vs ds → mapO (argP env) ds = some ds' → (∀ k, k ∈ ds.filterMap refOf → k ∈ ks) → RpAll K (vw (opO O ks) H) vs ds'
  | _, _, _, .nil, h, _ => by cases h; exact .nil
  | _, _, _, .cons (v := v) (d := d) (ds := ds) h1 h2, q, hk => by
    unfold mapO at q
    split at q
    · rename_i x xs e1 e2
      cases q
      refine .cons ?_ (args_in r h2 e2 fun k hk' => hk k ?_)
      · unfold argP at e1
        cases e : refOf d with
        | none =>
          rw [e] at e1
          obtain ⟨hp, rfl⟩ := ite_some e1
          exact h1.seen (seen_sub fun a z => opO_sub z) hp
        | some k =>
          rw [e] at e1
          obtain ⟨l, el, e1⟩ := Option.bind_eq_some_iff.mp e1
          obtain ⟨hp, rfl⟩ := ite_some e1
          obtain ⟨M, a, xs, hM, hl, rfl, hn, haF, h4, h5⟩ := cellL_at r h1 e el
          have hno : ¬ opO O ks a := fun z => z.2 ⟨k, hk k (by simp [e]), hn⟩
          exact .lst (.of (vw_outV hno h4 rfl)) (h5.seen (seen_sub fun a z => opO_sub z) hp)
      · rw [List.filterMap_cons]; split
        · exact hk'
        · exact List.mem_cons_of_mem _ hk'
    · cases q
theorem opnd_mem (r : Rel K W F env σ H O Fp) : ∀ {vs : List V} {ds ds' : List D}, RpAll K (vw O H) vs ds → mapO (argP env) ds = some ds' → ∀ k a, k ∈ ds.filterMap refOf → O.nm a = some k → ∃ l xs, l ∈ opnd env ds ∧ H a = some (.lst xs) ∧ RpAll K (vw O H) xs l
  | _, _, _, .nil, _, k, a, h, _ => by cases h
  | _, _, _, .cons (v := v) (d := d) (ds := ds) h1 h2, q, k, a, hk, hn => by
    unfold mapO at q
    split at q
    · rename_i x xs e1 e2
      cases q
      cases e : refOf d with
      | none =>
        rw [List.filterMap_cons, e] at hk
        obtain ⟨l, ys, g1, g2⟩ := opnd_mem r h2 e2 k a hk hn
        refine ⟨l, ys, ?_, g2⟩
        unfold opnd; rw [e]; exact g1
      | some k' =>
        rw [List.filterMap_cons, e] at hk
        unfold argP at e1
        rw [e] at e1
        obtain ⟨l', el, e1⟩ := Option.bind_eq_some_iff.mp e1
        have ho : opnd env (d :: ds) = l' :: opnd env ds := by
          show (match (refOf d).bind fun k => cellL k env with | some l => l :: opnd env ds | none => opnd env ds) = _
          rw [e]; simp only [Option.bind_some, el]
        rcases List.mem_cons.mp hk with rfl | hk
        · obtain ⟨M, b, ys, hM, hl, rfl, hb, haF, h4, h5⟩ := cellL_at r h1 e el
          obtain rfl := O.inj a b _ hn hb
          exact ⟨l', ys, by rw [ho]; exact List.mem_cons_self, h4, h5⟩
        · obtain ⟨l, ys, g1, g2⟩ := opnd_mem r h2 e2 k a hk hn
          exact ⟨l, ys, by rw [ho]; exact List.mem_cons_of_mem _ g1, g2⟩
    · cases q
theorem resOk_back {cs : List (List D)} (hx : SeenOr K cs Hv Hv') {v : V} {z : D} (h : Rp K Hv v z) (q : resOk cs z = true) : Rp K Hv' v z := by
  unfold resOk at q
  simp only [Bool.or_eq_true, Bool.and_eq_true] at q
  rcases q with q | ⟨q1, q2⟩
  · exact flat_rp h q
  · rcases q2 with q2 | ⟨q2, q3⟩
    · refine h.seen (fun a o hv e => ?_) q1
      rcases hx a o hv e with z | ⟨l, xs, Hw, hl, _⟩
      · exact z
      · rw [List.isEmpty_iff.mp q2] at hl; cases hl
    · exact h.back q2 hx q1 q3
theorem resOk_backs {cs : List (List D)} (hx : SeenOr K cs Hv Hv') : ∀ {vs : List V} {zs : List D}, RpAll K Hv vs zs → (zs.all fun z => resOk cs z) = true → RpAll K Hv' vs zs
  | _, _, .nil, _ => .nil
  | _, _, .cons h t, hz => by
    rw [List.all_cons, Bool.and_eq_true] at hz
    exact .cons (resOk_back hx h hz.1) (resOk_backs hx t hz.2)
theorem pure_in (r : Rel K W F env σ H O Fp) {ks : List Nat} {l : List Bool} {vs : List V} {as : List D} (hA : RpAll K (vw (opO O ks) H) vs as) :
    Rel (Ω := Empty) K (wOf l) (frOf H (opO O ks) (fun _ => []) vs) ((as.map SD.val).map some) (vs.map some) H (opO O ks) (fun _ => []) where
  nms := ⟨fun j a _ h => (by cases h), fun i h => (Nat.not_lt_zero _ h).elim, fun o => o.elim, fun a n h => .inl h, fun i h => (Nat.not_lt_zero _ h).elim⟩
  len := by simp only [List.length_map, hA.length]
  slot := fun j sd h => by
    simp only [List.getElem?_map] at h
    cases e : as[j]? with
    | none => rw [e] at h; cases h
    | some d =>
      rw [e] at h; cases h
      obtain ⟨v, h1, h2⟩ := hA.get' e
      exact ⟨v, by rw [List.getElem?_map, h1]; rfl, rfl, h2⟩
  own := fun j a z => by cases z
  dis := fun j k a z => by cases z
  mine := fun j a z => by cases z
  sub := fun a z => z
  new := fun a z => .inl z
  all := fun a z => r.all a (opO_sub z)
  keep := fun a o z _ => z
  fix := fun j z => rfl
  pinned := fun i a h => by cases h
  pin := fun j a z => by cases z
  base := fun a z => r.all a (opO_sub z)
  pw := fun j z => rfl
theorem pure_seen (r : Rel K W F env σ H O Fp) {vs : List V} {ds ds' : List D} (h1 : RpAll K (vw O H) vs ds) (h2 : mapO (argP env) ds = some ds') (hs : ∀ a, opO O (ds.filterMap refOf) a → O' a) (g : Ex H H') {O2 : Ow} (h02 : ∀ a, O2 a → O a ∨ O' a) : SeenOr K (opnd env ds) (vw O' H') (vw O2 H') := fun a o hv e => by
  obtain ⟨e1, e2⟩ := vw_someF e hv
  by_cases hO : O a
  · have hno : ¬ opO O (ds.filterMap refOf) a := fun z => e1 (hs a z)
    have hex : ∃ k ∈ ds.filterMap refOf, O.nm a = some k := Classical.byContradiction fun z => hno ⟨hO, z⟩
    obtain ⟨k, hk, hn⟩ := hex
    obtain ⟨l, xs, g1, g2, g3⟩ := opnd_mem r h1 h2 k a hk hn
    have := g a _ g2
    rw [(flt_some e2).1] at this
    cases this
    exact .inr ⟨l, xs, _, g1, rfl, g3⟩
  · refine .inl (vw_outF (fun z => ?_) e2)
    rcases h02 a z with z | z
    · exact hO z
    · exact e1 z
theorem goP_sat {l : List Bool} {n : Nat} {m : List (SD Empty) → RetM Empty} {e1 : Env Hm} {H1 : Hp} {O1 : Ow} {Fp1 : Nat → List Addr} {vs : List V} {ds : List D} {Q : VK} (r1 : Rel K W F e1 σ H1 O1 Fp1) (q1 : RpAll K (vw O1 H1) vs ds) (h : CPost K W wx F σ H1 O1 Q (goP l n m ds e1)) : spV (Ω := Empty) l n m K vs H1 Q (WE wx (vis Hm σ)) := by
  unfold goP at h
  cases em : mapO (argP e1) ds with
  | none => rw [em] at h; exact h.elim
  | some as =>
    rw [em] at h
    dsimp only at h
    by_cases hn : as.length = n
    rotate_left
    · rw [if_neg hn] at h; exact h.elim
    rw [if_pos hn] at h
    have hA := args_in r1 (ks := ds.filterMap refOf) q1 em fun _ z => z
    show spOf (Ω := Empty) l n m K vs H1 Q _
    refine ⟨opO O1 (ds.filterMap refOf), fun _ => [], as.map .val, by rw [hA.length, hn], by rw [List.length_map, hn], pure_in r1 hA, ?_⟩
    cases e : m (as.map .val) with
    | bad => rw [e] at h; exact h.elim
    | ok rv outs =>
      rw [e] at h
      intro v H' O' Fp' c x q
      have g : Ex H1 H' := fun a o z => c.keep a o z (fun j w => by cases w)
      cases rv with
      | val z =>
        have h : CPost K W wx F σ H1 O1 Q (if resOk (opnd e1 ds) z = true then .ok (.val z) e1 else .bad) := h
        by_cases hz : resOk (opnd e1 ds) z = true
        · rw [if_pos hz] at h
          exact h v H' O1 Fp1 (r1.grow g) (vw_ex g) (resOk_back (pure_seen r1 q1 em c.sub g fun a z => .inl z) q hz)
        · rw [if_neg hz] at h; exact h.elim
      | own sd =>
        cases sd with
        | lst zs =>
          have h : CPost K W wx F σ H1 O1 Q (if (zs.all fun z => resOk (opnd e1 ds) z) = true then .ok (.own (.lst zs)) e1 else .bad) := h
          by_cases hz : (zs.all fun z => resOk (opnd e1 ds) z) = true
          · rw [if_pos hz] at h
            obtain ⟨G, ⟨p, xs, rfl, rfl, k1, k2⟩, kG⟩ := q
            obtain ⟨g1, g2, g3⟩ := kG p List.mem_cons_self
            have hp : H1 p = none := g2
            obtain ⟨r', x'⟩ := r1.growO g hp (by rw [k1]; intro z; cases z)
            refine h (.ref p) H' (addO O1 p) Fp1 r' x' ⟨[p], ⟨p, xs, rfl, rfl, k1, ?_⟩, fun b hb => ?_⟩
            · have sn := pure_seen r1 q1 em (O2 := addO O1 p) c.sub g (fun a z => z.elim .inl fun z => .inr (by rw [z]; exact g1.1))
              exact resOk_backs sn k2 hz
            · rw [List.mem_singleton.mp hb]
              exact ⟨addO_un (r1.notO hp), r1.fresh hp, fun j z => r1.all p (r1.own j p z) hp⟩
          · rw [if_neg hz] at h; exact h.elim
        | val d => exact h.elim
        | dct es => exact h.elim
        | ob o => exact h.elim
    | err cl p outs =>
      rw [e] at h
      intro cls dx H' O' Fp' c x q
      have g : Ex H1 H' := fun a o z => c.keep a o z (fun j w => by cases w)
      cases p with
      | none => exact h cls dx H' O1 Fp1 (r1.grow g) (vw_ex g) q
      | some d =>
        have h : CPost K W wx F σ H1 O1 Q (if flatD d = true then .err cl (some d) e1 else .bad) := h
        by_cases hd : flatD d = true
        · rw [if_pos hd] at h
          obtain ⟨q1, a, w, q2, q3, q4⟩ := q
          exact h cls dx H' O1 Fp1 (r1.grow g) (vw_ex g) ⟨q1, a, w, q2, q3, flat_rp q4 hd⟩
        · rw [if_neg hd] at h; exact h.elim
instance {l : List Bool} {n : Nat} {m : List (SD Empty) → RetM Empty} {ta : TA} {a : Env Hm → Res Hm (List D)} [A : SatL K W wx ta a] : SatR K W wx (tPure (tCallS (spV (Ω := Empty) l n m K) (WE wx) ta)) (eCallP l n m a) := ⟨fun F env σ H O Fp Q r h => by
  refine A.go F env σ H O Fp _ r ((post_bind h).mono (Ex.refl _) fun ds e1 h vs H1 O1 Fp1 r1 x1 q1 => ?_)
  exact goP_sat r1 q1 (CPost.mono h x1)⟩
theorem lay_rp {Hv : Hp} {vs zs : List V} {as bs : List D} (h1 : RpAll K Hv vs as) (h2 : RpAll K Hv zs bs) : ∀ {lay : List Src}, (∀ v d, Src.dfl v d ∈ lay → ∀ K H, Rp K H v d) → RpAll K Hv (layV lay vs zs) (layD lay as bs)
  | [], _ => .nil
  | s :: lay, h => by
    have ih := lay_rp h1 h2 (lay := lay) fun v d q => h v d (List.mem_cons_of_mem _ q)
    have pick : ∀ {vs : List V} {as : List D} (i : Nat), RpAll K Hv vs as → (∃ v a, vs[i]? = some v ∧ as[i]? = some a ∧ Rp K Hv v a) ∨ (vs[i]? = none ∧ as[i]? = none) := fun {vs as} i q => by
      cases e : as[i]? with
      | some a =>
        obtain ⟨v, e2, r⟩ := q.get' e
        exact .inl ⟨v, a, e2, rfl, r⟩
      | none =>
        refine .inr ⟨?_, rfl⟩
        rw [List.getElem?_eq_none_iff] at e ⊢
        rw [q.length]; exact e
    cases s with
    | pos i =>
      rcases pick i h1 with ⟨v, a, e1, e2, r⟩ | ⟨e1, e2⟩
      · show RpAll K Hv (List.filterMap _ _) (List.filterMap _ _)
        rw [List.filterMap_cons_some (b := v) (by exact e1), List.filterMap_cons_some (b := a) (by exact e2)]
        exact .cons r ih
      · show RpAll K Hv (List.filterMap _ _) (List.filterMap _ _)
        rw [List.filterMap_cons_none (by exact e1), List.filterMap_cons_none (by exact e2)]
        exact ih
    | kw i =>
      rcases pick i h2 with ⟨v, a, e1, e2, r⟩ | ⟨e1, e2⟩
      · show RpAll K Hv (List.filterMap _ _) (List.filterMap _ _)
        rw [List.filterMap_cons_some (b := v) (by exact e1), List.filterMap_cons_some (b := a) (by exact e2)]
        exact .cons r ih
      · show RpAll K Hv (List.filterMap _ _) (List.filterMap _ _)
        rw [List.filterMap_cons_none (by exact e1), List.filterMap_cons_none (by exact e2)]
        exact ih
    | dfl v d =>
      show RpAll K Hv (v :: layV lay vs zs) (d :: layD lay as bs)
      exact .cons (h v d List.mem_cons_self K Hv) ih
instance {lay : List Src} {n1 n2 : Nat} {l : List Bool} {n : Nat} {m : List (SD Empty) → RetM Empty} {ta tb : TA} {a b : Env Hm → Res Hm (List D)} [L : LayOk lay] [A : SatL K W wx ta a] [B : SatL K W wx tb b] : SatR K W wx (tPure (tCallKS lay n1 n2 (spV (Ω := Empty) l n m K) (WE wx) ta tb)) (eCallPK lay n1 n2 l n m a b) := ⟨fun F env σ H O Fp Q r h => by
  refine A.go F env σ H O Fp _ r ((post_bind h).mono (Ex.refl _) fun as e1 h vs H1 O1 Fp1 r1 x1 q1 => ?_)
  have h := CPost.mono h x1
  refine B.go F e1 σ H1 O1 Fp1 _ r1 ((post_bind h).mono (Ex.refl _) fun bs e2 h zs H2 O2 Fp2 r2 x2 q2 => ?_)
  have h := CPost.mono h x2
  by_cases q : as.length = n1 ∧ bs.length = n2
  · rw [if_pos q] at h
    exact ⟨by rw [q1.length, q.1], by rw [q2.length, q.2], goP_sat r2 (lay_rp (q1.mono x2) q2 L.ok) h⟩
  · rw [if_neg q] at h; exact h.elim⟩
end
end Ve

set_option Elab.async false
set_option linter.all false
set_option maxRecDepth 100000
set_option maxHeartbeats 4000000
/-! while, names counted up, defs read off a class, slices and sums of anything. -/
namespace Ve
open PySem PySem.Spec PyProof.Rows L2 Evl Ny
/-! ### C.m(self, ..) -/
structure UnB (K : PySem.W.Frag) (C : Addr) (m : Str) (f : Addr) : Prop where
  rd : ClX.CRead K C (.type "type")
  at_ : PySem.W.findCls K (.ref C) (.type "type") m = some (.val (.ref f))
  kp : PySem.W.keepIn K (.ref f) = true
def unbB (K : PySem.W.Frag) (c m : Str) : Bool := PySem.W.readsIn K (He.ga K c) (.type "type") && (decide (PySem.W.specialIn K (.ref (He.ga K c)) "__getattribute__" = some (some (.builtin "type.__getattribute__"))) &&
  ((match PySem.W.findCls K (.ref (He.ga K c)) (.type "type") m with
    | some (.val u) => decide (u = .ref (He.ma K (He.ga K c) m))
    | _ => false) && PySem.W.keepIn K (.ref (He.ma K (He.ga K c) m))))
theorem unb_ok {K : PySem.W.Frag} {c m : Str} (h : unbB K c m = true) : UnB K (He.ga K c) m (He.ma K (He.ga K c) m) := by
  unfold unbB at h
  simp only [Bool.and_eq_true, decide_eq_true_eq] at h
  obtain ⟨h1, h2, h3, h4⟩ := h
  refine ⟨⟨h1, h2⟩, ?_, h4⟩
  split at h3
  · rename_i u e; rw [decide_eq_true_eq] at h3; rw [e, h3]
  · cases h3
structure UnOk (P : Program) (w : World) (K : PySem.W.Frag) (mg : Str → Option Value) (base : Heap) (CX : CXT) (k : Nat) (c m : Str) (sp : Sp) : Prop where
  ex : ∃ f fd ps, mg c = some (.ref (He.ga K c)) ∧ UnB K (He.ga K c) m f ∧ Binds K fd ps [] ∧ FnOk P w K mg base CX k f fd ps sp
def tUnM (sp : Sp) (E : L2.St → XK) (t : TA) : TE := fun σ H Q => t σ H fun vs H1 => sp vs H1 Q (E σ)
section
variable {X : Cx} {k : Nat} {c m : Str} {sp : Sp} {Wx : L2.WX} {e : Expr} {es : List Expr} {t : TA} {p apos pos : Pos} {pl : Sem Bool}
theorem pe_un (N : UnOk X.prog X.w X.K X.mg X.base (L2.CX X.prog X.w) k c m sp) (hr : Room k X.A) (tk : Takes X Wx) (ha : PA X (e :: es) t) (hg : Gl X c := by rfl) (hdb : (c == ("__debug__" : Str)) = false := by decide)
    (hst : starEach (e :: es) X.env = (false, eval e X.env) :: starEach es X.env := by rfl) (hpl : (backTo pos (starEach es X.env)).any (·.1) = false := by rfl)
    (ht : eval (.Call (.Attribute (.Name c p) m apos) (e :: es) [] pos) X.env = (do
      let ov ← eval (.Name c p) X.env
      standAt apos.atName
      let (f, first) ← holding [ov] (getMethod ov m pl)
      callWith pos f first (backTo pos (starEach (e :: es) X.env)) (backToKw pos (keywordEach [] X.env))) := by rfl) :
    PE X (.Call (.Attribute (.Name c p) m apos) (e :: es) [] pos) (tUnM sp (WE Wx) t) := by
  obtain ⟨f, fd, ps, hm, U, hb, F⟩ := N.ex
  have hn : PE X (.Name c p) (tC (.ref (He.ga X.K c))) := pe_glob hg hm rfl hdb
  refine ⟨fun pins s σ H Q I h => ?_⟩
  refine PySem.W.methodCall_KW (pl := pl) (thn (hn.run pins s σ H (fun x H1 => x = .ref (He.ga X.K c) ∧ t σ H1 fun vs H2 => sp vs H2 Q (WE Wx σ)) I ⟨rfl, h⟩) fun u s1 ⟨x, H1, I1, rx, ex, q⟩ => ?_) ht
  subst ex
  obtain rfl : u = Value.ref (He.ga X.K c) := rx
  refine PySem.W.method_cls I1.kIn U.rd.ga (PySem.W.cls_value I1.kIn U.rd.rd U.at_ (handed_of (v := .ref f) rfl) ?_)
  have I2 := I1.tok (s1.toks + 1)
  refine PySem.W.callWith_K (first := []) (h₀ := X.base) I.ok.mod.kin U.kp (thn (ha.run pos pins _ σ H1 _ I2 q) fun us s2 ⟨vs, H2, I3, r, q2⟩ => ⟨I3.kIn, ?_⟩) hst hpl
  exact run_fnS F hr hb (passAt tk σ) I3 r q2
end
def tUnMk (t : TE) : TE := t
def eUnM [ObS Hm] (l : List Bool) (n : Nat) (m : MFun) (a : Env Hm → Res Hm (List AD)) (env : Env Hm) : Res Hm (RV Hm) := (a env).bind fun ads e1 => goCall l n m ads e1
section
variable {K : PySem.W.Frag} {W : Wd} {wx : WX}
instance {l : List Bool} {n : Nat} {m : MFun} {ta : TA} {a : Env Hm → Res Hm (List AD)} [A : SatA K W wx ta a] : SatR K W wx (tUnM (spV l n m K) (WE wx) ta) (eUnM l n m a) := ⟨fun F env σ H O Fp Q r h => by
  refine A.go F env σ H O Fp _ r ((post_bind h).mono (Ex.refl _) fun ads e2 h us H2 O2 Fp2 r2 x2 hA => ?_)
  exact go_sat r2 hA (CPost.mono h x2)⟩
end
/-! ### slices, sums of anything -/
def slR (x : D) (lo hi : Option Int) (env : Env Hm) : Option D := match refOf x with
  | some n => (cellL n env).map fun l => .list (cutD l lo hi)
  | none => dSl x lo hi
def eSlR (a : Env Hm → Res Hm D) (p q : Env Hm → Res Hm (Option Int)) (env : Env Hm) : Res Hm D := (a env).bind fun d e1 => (p e1).bind fun lo e2 => (q e2).bind fun hi e3 => match slR d lo hi e3 with
  | some z => .ok z e3
  | none => .bad
section
variable {K : PySem.W.Frag} {W : Wd} {wx : WX}
instance {ta : TE} {tl th : TO} {a : Env Hm → Res Hm D} {p q : Env Hm → Res Hm (Option Int)} [A : SatE K W wx ta a] [P : SatP K W wx tl p] [P' : SatP K W wx th q] : SatE K W wx (tRefM (tSl (vSl K) ta tl th)) (eSlR a p q) := ⟨fun F env σ H O Fp Q r h => by
  refine A.thn r ((post_bind h).mono (Ex.refl _) fun d e1 h v1 H1 O1 Fp1 r1 x1 q1 => ?_)
  refine P.go F e1 σ H1 O1 Fp1 _ r1 ((post_bind h).mono x1 fun lo e2 h H2 O2 Fp2 r2 x2 => ?_)
  refine P'.go F e2 σ H2 O2 Fp2 _ r2 ((post_bind h).mono (x1.trans x2) fun hi e3 h H3 O3 Fp3 r3 x3 => ?_)
  have h2 := EPost.mono (O1 := O3) (H1 := H3) h ((x1.trans x2).trans x3)
  obtain ⟨z, hz, hq⟩ := epost_opt (wx := wx) r3 h2
  unfold slR at hz
  cases e : refOf d with
  | none => rw [e] at hz; exact sl_ok r3.all (q1.mono (x2.trans x3)) hz hq
  | some n =>
    rw [e] at hz
    obtain ⟨l, hl, rfl⟩ := Option.map_eq_some_iff.mp hz
    obtain ⟨M, a, xs, hM, _, rfl, hn, haF, h4, h5⟩ := cellL_at r3 (q1.mono (x2.trans x3)) e hl
    refine .inl (w_slL (.of h4) fun p H4 hp x hat => ?_)
    exact hq _ H4 x (.lst (.of (vw_outV (fun z => r3.all p z hp) hat rfl)) ((cut_rp h5 _ _).mono (vw_ex x)))⟩
end
def tAddR (t : TE) : TE := t
theorem pe_addr {X : Cx} {e : Expr} {t : TE} (h : PE X e t) : PE X e (tAddR t) := h
section
variable {K : PySem.W.Frag} {W : Wd} {wx : WX}
instance {ta tb : TE} {a b : Env Hm → Res Hm D} [A : SatO K W wx (tRefM (tOp (uAdd K) ta tb)) (oAddR a b)] : SatE K W wx (tAddR (tOp (uAdd K) ta tb)) (eFrz (oAddR a b)) := sat_frz A
instance {ta tb : TE} {a b : Env Hm → Res Hm D} [A : SatO K W wx (tRefM (tOp (uAdd K) ta tb)) (oAddR a b)] : SatO K W wx (tAddR (tOp (uAdd K) ta tb)) (oAddR a b) := A
end
/-! ### while -/
section
variable {Ω : Type}
def whM (t : Env Ω → Res Ω Bool) (body : Env Ω → Flow Ω) : Nat → Env Ω → Flow Ω
  | 0, _ => .bad
  | k + 1, env => (t env).fl fun b e => if b = true then (match body e with
    | .nx e2 => whM t body k e2
    | .ct e2 => whM t body k e2
    | .bk e2 => .nx e2
    | f => f) else .nx e
def bWhile (N : Nat) (t : Env Ω → Res Ω Bool) (body : Env Ω → Flow Ω) (env : Env Ω) : Flow Ω := whM t body N env
/-- i += e -/
def bAug (op : D → D → Option D) (i : Nat) (a : Env Ω → Res Ω D) (env : Env Ω) : Flow Ω := match env[i]? with
  | some (some (.val d)) => (a env).fl fun y e => match op d y with
    | some z => if i < e.length then .nx (e.set i (some (.val z))) else .bad
    | none => .bad
  | _ => .bad
end
def tWhN (N : Nat) (t : TS) : TS := t
theorem ps_whN {X : Cx} {st : Stmt} {ts : TS} (N : Nat) (h : PS X st ts) : PS X st (tWhN N ts) := h
section
variable {Ω : Type} [ObS Ω] {K : PySem.W.Frag} {W : Wd} {wx : WX}
instance {N : Nat} {c : TT} {tb : TS} {t : Env Ω → Res Ω Bool} {body : Env Ω → Flow Ω} [C : SatT K W wx c t] [B : SatS K W wx tb body] : SatS K W wx (tWhN N (tWhile c tb)) (bWhile N t body) := ⟨fun F env σ H O Fp D0 r h => by
  let Pv : Nat → L2.St → Hp → Prop := fun k σ2 H2 => ∃ (e : Env Ω) (O2 : Ow) (Fp2 : Nat → List Addr), Rel K W F e (ups Ω σ2) H2 O2 Fp2 ∧ Ex (vw O H) (vw O2 H2) ∧ FPost K W wx F H O D0 (whM t body k e)
  refine ⟨fun k σ H => Pv k σ H, ⟨N, env, O, Fp, by rw [r.up]; exact r, Ex.refl _, h⟩, ?_⟩
  rintro k σ2 H2 ⟨e2, O2, Fp2, r2, x2, h2⟩
  cases k with
  | zero => exact h2.elim
  | succ k =>
    unfold whM at h2
    rw [← vis_ups (Ω := Ω) (σ := σ2)]
    cases qt : t e2 with
    | bad => rw [qt] at h2; exact h2.elim
    | err c p e3 =>
      rw [qt] at h2
      exact C.go F e2 (ups Ω σ2) H2 O2 Fp2 _ r2 (by rw [qt]; exact fun cls dx H' O' Fp' r' x' k => h2 cls dx _ H' O' Fp' r' (x2.trans x') k)
    | ok b e3 =>
      rw [qt] at h2
      refine C.go F e2 (ups Ω σ2) H2 O2 Fp2 _ r2 ?_
      rw [qt]
      intro H3 O3 Fp3 r3 x3
      have x13 := x2.trans x3
      cases b with
      | false =>
        have h3 : FPost K W wx F H O D0 (.nx e3) := h2
        exact iteF (h3 (ups Ω σ2) H3 O3 Fp3 r3 x13)
      | true =>
        refine iteT ⟨fun σ' H' => ∃ m', m' < k + 1 ∧ Pv m' σ' H', fun σ' H' p => p, ?_⟩
        have h3 : FPost K W wx F H O D0 (match body e3 with
          | .nx e2 => whM t body k e2
          | .ct e2 => whM t body k e2
          | .bk e2 => .nx e2
          | f => f) := h2
        refine B.go F e3 (ups Ω σ2) H3 O3 Fp3 _ r3 ?_
        cases qb : body e3 with
        | nx e5 => rw [qb] at h3; exact fun σ' H' O' Fp' r' x' => ⟨k, Nat.lt_succ_self _, e5, O', Fp', by rw [r'.up]; exact r', x13.trans x', h3⟩
        | ct e5 => rw [qb] at h3; exact fun σ' H' O' Fp' r' x' => ⟨k, Nat.lt_succ_self _, e5, O', Fp', by rw [r'.up]; exact r', x13.trans x', h3⟩
        | bk e5 => rw [qb] at h3; exact Nexts.mono h3 x13
        | rt rv e5 => rw [qb] at h3; exact FPost.mono (f := .rt rv e5) h3 x13
        | err c p e5 => rw [qb] at h3; exact FPost.mono (D0 := D0) (f := .err c p e5) h3 x13
        | bad => rw [qb] at h3; exact h3.elim⟩
/-! ### i += e -/
def ipU : V → V → Hp → VK → Prop := rInc
theorem ip_inc {X : Cx} : PIp X .Add rInc := fun pins s σ H x y u v Q I r1 r2 h => in_inc pins s σ H x y u v Q I r1 r2 h
theorem ip_dec {X : Cx} : PIp X .Sub rSub := fun pins s σ H x y u v Q I r1 r2 h => in_sub pins s σ H x y u v Q I r1 r2 h
instance {i' i : Nat} [ix : Ix Ω i' i] [w : Wr W i] {te : TE} {rd : R2} {op : D → D → Option D} {a : Env Ω → Res Ω D} [S : SatR2 K rd op] [A : SatE K W wx te a] : SatS K W wx (tAug i' te rd) (bAug op i a) := ⟨fun F env σ H O Fp D0 r h => by
  unfold bAug at h
  split at h
  · rename_i d e
    obtain ⟨v, hv, _, qv⟩ := r.slot i _ e
    refine ⟨v, (vis_get ix).trans hv, A.thn r (post_imp (fl_post σ h) fun y e1 h u H1 O1 Fp1 r1 x1 q1 => ?_)⟩
    have h := FPost.mono h x1
    cases ez : op d y with
    | none => rw [ez] at h; exact h.elim
    | some z =>
      rw [ez] at h
      have h : FPost K W wx F H1 O1 D0 (if i < e1.length then .nx (e1.set i (some (.val z))) else .bad) := h
      refine S.go O1 v u d y z H1 _ r1.all (qv.mono x1) q1 ez fun w' H2 x2 q2 => ?_
      by_cases hl : i < e1.length
      · rw [if_pos hl] at h
        have r2 := r1.grow x2
        rw [vis_set ix]
        exact h _ H2 O1 _ (r2.setV (by rw [r2.len]; exact hl) w.eq q2) (vw_ex x2)
      · rw [if_neg hl] at h; exact h.elim
  · exact h.elim⟩
end
/-! ### len(o), o an instance with its own __len__ -/
def tLenO (K : PySem.W.Frag) (tab : MTab) (E : L2.St → XK) (ta : TE) : TE := fun σ H Q => ta σ H fun x H1 => ∃ a c n m dx fs, x = .ref a ∧ (c, n, m) ∈ tab ∧ H1 a = some (.ins (He.ga K c) dx fs) ∧
  spV [false] n m K [x] H1 (fun v H2 => ∃ i : Int, v = .int i ∧ 0 ≤ i ∧ i < 2 ^ 63 ∧ Q (.int i) H2) (E σ)
theorem _root_.L2.Inv.look {X : Cx} {pins : List (Addr × Obj)} {σ : L2.St} {H : Hp} {s : Shared} {a C dx : Addr} {fs : List (Str × V)} (I : Inv X pins σ H s) (e : H a = some (.ins C dx fs)) : ∃ ox od, PySem.W.InstAt s.heap a ox C (some od) := by
  obtain ⟨mA, O, r, _, _, _⟩ := ins_get I.hok e
  obtain ⟨od, J, _⟩ := O.look
  exact ⟨_, od, J⟩
section
open PySem.W Builtin PySem.Calls
theorem len_own {prog : Program} {w : World} {A : Around} {E : Value → Shared → Prop} {s : Shared} {K : PySem.W.Frag} {x C f : Addr} {ox : Obj} {od : Option Obj} {Q : Value → Shared → Prop} (X : K.In s.heap) (I : InstAt s.heap x ox C od) (hs : findIn K (.ref C) "__len__" = some (some (.ref f))) (hf : isFn K (.ref f) = true)
    (h : wpAny (model prog w) A.in1 (call (.ref f) [.ref x]) (PySem.W.LenBack Q) E s) : wpAny (model prog w) A (call (.builtin "len") [.ref x]) Q E s := by
  refine Calls.call_function_entry kind_len plain_len entry_len (args_len1 _) ?_
  unfold Builtin.«len»
  refine wpAny_bind (m := oneArg "len" _) (wpAny_pure ?_)
  refine wpAny_bind (m := callSpecial? (.ref x) (Str.ofString "__len__")) (special_fn X I hs (beq_iff_eq.mp hf) (wpAny_mono h (fun r s' hr => ?_) fun _ _ y => y))
  cases r <;> first | exact hr.elim | skip
  rename_i n u
  obtain ⟨⟨h0, h1⟩, hq⟩ := hr
  refine wpAny_bind (wpAny_holding (wpAny_pure ?_))
  refine wpAny_bind (wpAny_letGo ?_)
  show wpAny _ _ (if n < 0 then _ else _) _ _ _
  rw [if_neg (by omega)]
  show wpAny _ _ (if n ≥ 2 ^ 63 then _ else _) _ _ _
  rw [if_neg (by omega)]
  exact wpAny_bind (wpAny_mkInt (wpAny_pure ⟨_, rfl, hq⟩))
end
section
variable {X : Cx} {k : Nat} {tab : MTab} {Wx : L2.WX} {e : Expr} {ta : TE} {p pos : Pos}
theorem pe_lenO (he : PE X e ta) (MT : MethOk X.prog X.w X.K X.mg X.base (L2.CX X.prog X.w) k "__len__" tab) (hr : Room (k + 1) X.A) (tk : Takes X Wx) (hg : Gl X "len") (hm : X.mg "len" = none)
    (hs : starEach [e] X.env = (false, eval e X.env) :: starEach [] X.env := by rfl) (hpl : (backTo pos (starEach [] X.env)).any (·.1) = false := by rfl) :
    PE X (.Call (.Name "len" p) [e] [] pos) (tLenO X.K tab (WE Wx) ta) := by
  refine ⟨fun pins s σ H Q I h => ?_⟩
  refine wpAny_Call_Name_kw (ld_blt I hg hm PySem.boot_len ?_ (by decide) (by decide))
  refine PyProof.Rows.callWith_builtin1 (thn ((pa_cons he pa_nil (hs := hs)).run pos pins s σ H (fun vs H1 => match vs with
    | [x] => ∃ a c n m dx fs, x = .ref a ∧ (c, n, m) ∈ tab ∧ H1 a = some (.ins (He.ga X.K c) dx fs) ∧ spV [false] n m X.K [x] H1 (fun v H2 => ∃ i : Int, v = .int i ∧ 0 ≤ i ∧ i < 2 ^ 63 ∧ Q (.int i) H2) (WE Wx σ)
    | _ => False) I h) fun us s1 ⟨vs, H1, I1, r1, q1⟩ => ?_) hs hpl
  · obtain ⟨x, rfl⟩ : ∃ x, vs = [x] := by
      match vs, q1 with
      | [x], _ => exact ⟨x, rfl⟩
    obtain ⟨a, c, n, m, dx, fs, rfl, hmem, hx, hsp⟩ := q1
    obtain ⟨u, rfl, ru⟩ := vals1 r1
    obtain rfl : u = Value.ref a := ru
    obtain ⟨hc, f, fd, ps, hme, hb, F⟩ := MT.ex c n m hmem
    obtain ⟨ox, od, J⟩ := I1.look hx
    refine len_own I1.kIn J hme.at_ hme.fn ?_
    have hl : ([Value.ref a] : List Value).length = ps.length := F.len _ _ _ _ hsp
    have b := hb s1 [.ref a] I1.kIn (by rw [List.append_nil]; exact hl)
    rw [List.append_nil] at b
    refine wpAny_call (codeAny_mono (F.run X.A.in1 X.stack s1 H1 ⟨[.ref a], []⟩ [.ref a] [.ref a] _ (WE Wx σ) hr.in1 I1.env0.in1 b (.cons rfl .nil) hsp) fun r s' hq => ?_)
    cases r with
    | error e => exact passAt tk σ pins H1 s1 e s' I1 hq
    | ok fl =>
      cases fl with
      | ret u =>
        obtain ⟨v, H', I3, rv, i, rfl, h0, h1, q⟩ := I1.after hq
        obtain ⟨t, rfl⟩ := rv
        exact ⟨⟨h0, h1⟩, ⟨.int i, H', I3.tok _, ⟨_, rfl⟩, q⟩⟩
      | next => exact False.elim hq
      | brk => exact False.elim hq
      | cont => exact False.elim hq
end
def eLenO (tab : MTab) (o : Env Hm → Res Hm D) (env : Env Hm) : Res Hm D := (o env).bind fun d e1 => match obD d e1 with
  | some (_, c, _) => (match mLook tab c with
    | some (n, m) => (goCall [false] n m [.val d] e1).bind fun rv e2 => match rv with
      | .val (.int i) => if 0 ≤ i ∧ i < 2 ^ 63 then .ok (.int i) e2 else .bad
      | _ => .bad
    | none => .bad)
  | none => .bad
section
variable {K : PySem.W.Frag} {W : Wd} {wx : WX}
instance {tab : MTab} {te : TE} {o : Env Hm → Res Hm D} [E : SatE K W wx te o] : SatE K W wx (tLenO K tab (WE wx) te) (eLenO tab o) := ⟨fun F env σ H O Fp Q r h => by
  refine E.thn r ((post_bind h).mono (Ex.refl _) fun d e1 h v1 H1 O1 Fp1 r1 x1 q1 => ?_)
  have h := EPost.mono h x1
  split at h
  · rename_i k c fs ho
    split at h
    · rename_i n m hm
      obtain ⟨M, p, dx, vs, hM, hc, rfl, hn, haF, h4, h5, h6, h7⟩ := ob_at r1 q1 ho
      refine ⟨p, c, n, m, dx, _, rfl, mLook_mem hm, h4, ?_⟩
      refine go_sat r1 (.cons (a := .val d) q1 .nil) (post_imp (post_bind h) fun rv e2 h v H' O' Fp' r' x' q => ?_)
      cases rv with
      | own sd => exact h.elim
      | val z =>
        cases z with
        | int i =>
          have h' : EPost K W wx F σ H1 O1 Q (if 0 ≤ i ∧ i < 2 ^ 63 then .ok (.int i) e2 else .bad) := h
          by_cases hi : 0 ≤ i ∧ i < 2 ^ 63
          · rw [if_pos hi] at h'
            exact ⟨i, Rp.int' q, hi.1, hi.2, h' _ H' O' Fp' r' x' (.int i)⟩
          · rw [if_neg hi] at h'; exact h'.elim
        | _ => exact h.elim
    · exact h.elim
  · exact h.elim⟩
end
end Ve

set_option Elab.async false
set_option linter.all false
set_option maxRecDepth 100000
set_option maxHeartbeats 4000000
/-! Dict comprehensions; the items of a dict walked. -/
namespace Ve
open PySem PySem.Spec PyProof.Rows L2 Evl Ny
section
variable {X : Cx}
theorem ps_setDc {i : Nat} {y : Str} {py : Pos} {kx vx tg iter : Expr} {ifs : List Expr} {scope : Scope} {own : List (Str × Nat)} {pos spos : Pos} {wi : TI} {g : TG} {tt : TT} {tk tv : TE} (hc : X.calm = true) (hN : X.N.Nodup) (hy : X.N[i]? = some y) (hyl : X.env.scope.names.lookup y = some .local)
    (hsw : swapsWith (.DictComp kx vx [⟨tg, iter, ifs, 0⟩] scope pos) (some (.Name y py)) spos.line X.env = pure true) (hi : PI X tg iter wi) (ok : BlkOk X.N X.env.scope scope own)
    (hg : ∀ (s : Shared) (H : Hp) (C : Addr) (cl : List (Str × Addr)) (fp : List Addr), PG (X.blk s H scope (compEnvC scope cl C X.env) fp) tg g) (ht : ∀ (s : Shared) (H : Hp) (C : Addr) (cl : List (Str × Addr)) (fp : List Addr), PTs (X.blk s H scope (compEnvC scope cl C X.env) fp) ifs tt)
    (hk : ∀ (s : Shared) (H : Hp) (C : Addr) (cl : List (Str × Addr)) (fp : List Addr), PE (X.blk s H scope (compEnvC scope cl C X.env) fp) kx tk)
    (he : ∀ (s : Shared) (H : Hp) (C : Addr) (cl : List (Str × Addr)) (fp : List Addr), PE (X.blk s H scope (compEnvC scope cl C X.env) fp) vx tv) (hs : ∀ x, foldedSetIterable iter X.env x = pure x := by intro _; rfl) :
    PS X (.Assign [.Name y py] (.DictComp kx vx [⟨tg, iter, ifs, 0⟩] scope pos) spos) (tAsg (tDc wi g tt tk tv (own.map (·.2))) (gName i)) := by
  refine ⟨fun pins s σ H D I h => ?_⟩
  rw [exec_Assign_Name_used _ _ _ _ hsw]
  refine wpAny_bind (wpAny_standAt (wpAny_bind ?_))
  show wpAny _ X.A (do let _ ← comprehension (.DictComp kx vx [⟨tg, iter, ifs, 0⟩] scope pos) scope X.env (firstIterPos [⟨tg, iter, ifs, 0⟩] pos) newDict false (eval iter X.env) (some (assign (.Name y py) X.env))) _ _ s
  have h : tDc wi g tt tk tv (own.map (·.2)) σ H (fun x H1 => gName i x σ H1 D.nx) := h
  refine wpAny_bind (thn (dc_core (Qf := fun _ s' => SP X pins D .next s') hc hN I hi ok hg ht hk he hs h fun L C s' m H' I' q hn f => ?_) fun _ s' hq => wpAny_pure (wpAny_pure hq))
  show wpAny _ _ (assign (.Name y py) X.env (.ref L)) _ _ _
  refine wpAny_assign_Name (store_ok2 (v := V.ref L) I' hN hy (.inl hyl) rfl (fun s2 I2 ⟨a, sb, ha⟩ => ?_) (.inr hyl))
  obtain ⟨f0, f1, f2, f3, f4, f5⟩ := f
  have haC : C ≠ a := by
    rcases ha with z | z
    · rw [z]; exact f1
    · exact fun e => f4 y a z e.symm
  refine ⟨m, hn.sameBut sb haC, fun h3 sb3 => ?_⟩
  exact ⟨_, H', I2.turned (t' := s2.toks) (fun b o hb e => (sb3.2 b hb).trans e) f0 f1 f3 f4 f5, q⟩
theorem sw_trueD {kx vx : Expr} {gs : List Comprehension} {scope : Scope} {pos py : Pos} {y : Str} {l : Nat} {env : PySem.Env} (hk : env.scope.kind = .function) (hy : env.scope.names.lookup y = some .local) (hl : (py.line == pos.line) = true)
    (ha : (scope.names.any fun (n, k) => n == y && (k == .local || k == .cell)) = false) : swapsWith (.DictComp kx vx gs scope pos) (some (.Name y py)) l env = pure true := by
  have ky : env.kindOf y = some .local := hy
  have hb : env.blockKind = .function := by unfold Env.blockKind; rw [hk]; rfl
  unfold swapsWith
  simp only [hb, ky, ha, Expr.pos, hl]
  rfl
end
section
variable {Ω : Type}
def dcM (g : D → Env Ω → Res Ω Unit) (t : Env Ω → Res Ω Bool) (ek ev : Env Ω → Res Ω D) (vs : List Nat) : List D → List (D × D) → Env Ω → Res Ω (List (D × D))
  | [], acc, env => .ok acc (wipeE vs env)
  | d :: items, acc, env => (g d env).ne.bind fun _ e => (t e).ne.bind fun b e2 => if b = true then (ek e2).ne.bind fun y e3 => (ev e3).ne.bind fun z e4 => match keyD y with
    | some k => dcM g t ek ev vs items (putE acc k z) (wipeE vs e4)
    | none => .bad else dcM g t ek ev vs items acc (wipeE vs e2)
def oDc (it : Env Ω → Res Ω (List D)) (g : D → Env Ω → Res Ω Unit) (t : Env Ω → Res Ω Bool) (ek ev : Env Ω → Res Ω D) (vs : List Nat) (env : Env Ω) : Res Ω (SD Ω) := (it env).bind fun items e =>
  if items.length ≤ 1000000 then (dcM g t ek ev vs items [] (wipeE vs e)).bind fun l e' => .ok (.dct l) e' else .bad
/-- the items of a datum that is a dict -/
def iItM (a : Env Ω → Res Ω D) (env : Env Ω) : Res Ω (List D) := (a env).bind fun d e => match asE d with
  | some es => .ok (es.map fun p => .tuple [p.1, p.2]) e
  | none => .bad
def iVaM (a : Env Ω → Res Ω D) (env : Env Ω) : Res Ω (List D) := (a env).bind fun d e => match asE d with
  | some es => .ok (es.map (·.2)) e
  | none => .bad
end
section
variable {Ω : Type} [ObS Ω] {K : PySem.W.Frag} {W : Wd} {wx : WX}
theorem putE_len {es : List (D × D)} {k : Key} {d : D} : (putE es k d).length ≤ es.length + 1 := by
  unfold putE
  split
  · rw [List.length_map]; omega
  · rw [List.length_append]; simp
instance {wi : TI} {g : TG} {tt : TT} {tk tv : TE} {vs0 vs : List Nat} {it : Env Ω → Res Ω (List D)} {m : D → Env Ω → Res Ω Unit} {t : Env Ω → Res Ω Bool} {ek ev : Env Ω → Res Ω D}
    [I : SatI K W wx wi it] [G : SatG K W g m] [N : GWipe g vs0] [T : SatT K W WX0 tt t] [E1 : SatE K W WX0 tk ek] [E2 : SatE K W WX0 tv ev] [IX : Ixs Ω vs0 vs] [VW : WrAll W vs] : SatO K W wx (tDc wi g tt tk tv vs0) (oDc it m t ek ev vs) := ⟨fun F env σ H O Fp Q r h => by
  refine I.go F env σ H O Fp _ r ((post_bind h).mono (Ex.refl _) fun items e1 h J H1 O1 Fp1 r1 x1 it => ?_)
  by_cases hlen : items.length ≤ 1000000
  rotate_left
  · simp only [hlen, if_false] at h; exact h.elim
  simp only [hlen, if_true] at h
  intro Dp hn
  have hsz : (1000000 : Nat) < sizeLine := by decide
  have h0 : F.H0 Dp = none := r1.fresh hn
  have hP : ∀ i, Dp ∉ F.P i := fun i z => r1.base Dp (r1.pin i Dp z) h0
  let Fin : Res Ω (List (D × D)) → Prop := fun res => OPost K W wx F σ H O Q (res.bind fun l e' => .ok (.dct l) e')
  let Pv : Nat → Hp → Prop := fun i H' => ∃ (e : Env Ω) (O' : Ow) (Fp' : Nat → List Addr) (acc : List (D × D)) (ys : List (Key × V)), Rel K W F e (L2.wipe σ vs) H' O' Fp' ∧ O'.un Dp ∧ (∀ j, Dp ∉ Fp' j) ∧ H' Dp = some (.dK ys) ∧ acc.map (·.1) = ys.map (fun q => kD q.1) ∧ RpAll K (vw O' H') (ys.map (·.2)) (acc.map (·.2)) ∧ acc.length ≤ i ∧
    Ex (vw O1 H1) (vw O' H') ∧ Fin (dcM m t ek ev vs (items.drop i) acc e)
  have start : Pv 0 (upd H1 Dp (.dK [])) := by
    refine ⟨wipeE vs e1, addO O1 Dp, Fp1, [], [], (r1.newO hn).wipe (wipe_wipe σ vs) VW.eq, addO_un (r1.notO hn), fun j z => r1.all Dp (r1.own j Dp z) hn, upd_same, rfl, .nil, Nat.le_refl _, by rw [vw_add (r1.notO hn) hn]; exact Ex.refl _, h⟩
  refine ⟨fun i k H' => k = items.length - i ∧ i ≤ items.length ∧ Pv i H', ⟨_, rfl, Nat.zero_le _, start⟩, ?_⟩
  rintro i k H2 ⟨rfl, hi, e2, O2, Fp2, acc, ys, r2, hO2, hF2, hD2, hk2, ha2, hl2, x2, h2⟩
  rcases Nat.lt_or_ge i items.length with hlt | hge
  · refine .inr ⟨it.go i H2 O2 x2 r2.all hlt, Pv (i + 1), fun H' p => ⟨items.length - (i + 1), by omega, rfl, hlt, p⟩, fun v H3 y => ?_⟩
    have hd : items[i]? = some items[i] := List.getElem?_eq_getElem hlt
    obtain ⟨x3, q3⟩ := it.yld i H2 v H3 O2 x2 r2.all y _ hd
    have hdrop : items.drop i = items[i] :: items.drop (i + 1) := List.drop_eq_getElem_cons hlt
    have h2 : Fin (dcM m t ek ev vs (items[i] :: items.drop (i + 1)) acc e2) := by rw [← hdrop]; exact h2
    have r3 := (r2.adopt hO2.2 hO2.1 hF2 h0 hD2).grow x3
    have x23 : Ex (vw O2 H2) (vw O2 H3) := vw_ex x3
    have h3 : ∃ u e3, m items[i] e2 = .ok u e3 ∧ Fin ((t e3).ne.bind fun b e2 => if b = true then (ek e2).ne.bind fun y e3 => (ev e3).ne.bind fun z e4 => match keyD y with
        | some k => dcM m t ek ev vs (items.drop (i + 1)) (putE acc k z) (wipeE vs e4)
        | none => .bad else dcM m t ek ev vs (items.drop (i + 1)) acc (wipeE vs e2)) := by
      cases q : m items[i] e2 with
      | ok u e3 => exact ⟨u, e3, rfl, by have z := h2; simp only [Fin, dcM, q, Res.ne, Res.bind] at z ⊢; exact z⟩
      | err c p e3 => have z := h2; simp only [Fin, dcM, q, Res.ne, Res.bind] at z; exact z.elim
      | bad => have z := h2; simp only [Fin, dcM, q, Res.ne, Res.bind] at z; exact z.elim
    obtain ⟨u, e3, hm, h3⟩ := h3
    refine N.go v _ H3 (fun σ' H' => L2.wipe σ' vs0 = L2.wipe (L2.wipe (vis Ω σ) vs0) vs0 ∧ (L2.wipe σ' vs0 = L2.wipe (vis Ω σ) vs0 → tt σ' H' _)) _ (fun σ' H' e q => ⟨by rw [e, wipe_wipe], q.2 (by rw [e, wipe_wipe])⟩) ?_
    refine N.go v _ H3 (fun σ' H' => (L2.wipe σ' vs0 = L2.wipe (vis Ω σ) vs0 → tt σ' H' _)) _ (fun σ' H' e q => ⟨e, q⟩) ?_
    rw [← vis_wipe IX r.up]
    refine G.go (F.add Dp (.dK ys)) e2 _ H3 O2 Fp2 v _ _ r3 q3 (post_raise0 hm ?_)
    intro σ4 H4 O4 Fp4 r4 x4 hw
    have hw : L2.wipe σ4 vs = L2.wipe σ vs := by
      have e1 := wipe_ups (Ω := Ω) (σ := vis Ω σ4) IX
      have e2 := wipe_ups (Ω := Ω) (σ := vis Ω σ) IX
      rw [r4.up] at e1; rw [r.up] at e2
      rw [e1, e2, hw, vis_wipe IX r.up]
    have h4 : ∃ b e4, t e3 = .ok b e4 ∧ Fin (if b = true then (ek e4).ne.bind fun y e3 => (ev e3).ne.bind fun z e4 => match keyD y with
        | some k => dcM m t ek ev vs (items.drop (i + 1)) (putE acc k z) (wipeE vs e4)
        | none => .bad else dcM m t ek ev vs (items.drop (i + 1)) acc (wipeE vs e4)) := by
      cases q : t e3 with
      | ok b e4 => exact ⟨b, e4, rfl, by have z := h3; simp only [Fin, q, Res.ne, Res.bind] at z ⊢; exact z⟩
      | err c p e3 => have z := h3; simp only [Fin, q, Res.ne, Res.bind] at z; exact z.elim
      | bad => have z := h3; simp only [Fin, q, Res.ne, Res.bind] at z; exact z.elim
    obtain ⟨b, e4, ht, h4⟩ := h4
    refine T.go (F.add Dp (.dK ys)) e3 σ4 H4 O4 Fp4 _ r4 (post_raise0 ht ?_)
    intro H5 O5 Fp5 r5 x5
    cases b with
    | false =>
      refine iteF ?_
      obtain ⟨r6, hO6, hF6, hD6⟩ := Rel.unadopt h0 hP r.pin r.base r5
      have hO6 : O5.un Dp := ⟨hO6, unm_of r5 h0 r.base⟩
      have x25 := (x23.trans x4).trans x5
      exact ⟨wipeE vs e4, O5, Fp5, acc, ys, r6.wipe (by rw [wipe_wipe, hw]) VW.eq, hO6, hF6, hD6, hk2, ha2.mono x25, Nat.le_succ_of_le hl2, x2.trans x25, h4⟩
    | true =>
      refine iteT ?_
      have h5 : ∃ d e5, ek e4 = .ok d e5 ∧ Fin ((ev e5).ne.bind fun z e4 => match keyD d with
        | some k => dcM m t ek ev vs (items.drop (i + 1)) (putE acc k z) (wipeE vs e4)
        | none => .bad) := by
        cases q : ek e4 with
        | ok b e4 => exact ⟨b, e4, rfl, by have z := h4; simp only [Fin, q, Res.ne, Res.bind, if_true] at z ⊢; exact z⟩
        | err c p e3 => have z := h4; simp only [Fin, q, Res.ne, Res.bind, if_true] at z; exact z.elim
        | bad => have z := h4; simp only [Fin, q, Res.ne, Res.bind, if_true] at z; exact z.elim
      obtain ⟨d, e5, he, h5⟩ := h5
      refine E1.go (F.add Dp (.dK ys)) e4 σ4 H5 O5 Fp5 _ r5 (post_raise0 he ?_)
      intro v6 H6 O6 Fp6 r6 x6 q6
      have h6 : ∃ z e6, ev e5 = .ok z e6 ∧ Fin (match keyD d with
        | some k => dcM m t ek ev vs (items.drop (i + 1)) (putE acc k z) (wipeE vs e6)
        | none => .bad) := by
        cases q : ev e5 with
        | ok b e4 => exact ⟨b, e4, rfl, by have z := h5; simp only [Fin, q, Res.ne, Res.bind, if_true] at z ⊢; exact z⟩
        | err c p e3 => have z := h5; simp only [Fin, q, Res.ne, Res.bind, if_true] at z; exact z.elim
        | bad => have z := h5; simp only [Fin, q, Res.ne, Res.bind, if_true] at z; exact z.elim
      obtain ⟨z, e6, he6, h6⟩ := h6
      refine E2.go (F.add Dp (.dK ys)) e5 σ4 H6 O6 Fp6 _ r6 (post_raise0 he6 ?_)
      intro v7 H7 O7 Fp7 r7 x7 q7
      cases ekk : keyD d with
      | none => rw [ekk] at h6; exact h6.elim
      | some kk =>
        rw [ekk] at h6
        obtain rfl := keyD_v ekk q6
        obtain ⟨r8, hO8, hF8, hD8⟩ := Rel.unadopt h0 hP r.pin r.base r7
        have hO8' : O7.un Dp := ⟨hO8, unm_of r7 h0 r.base⟩
        have x27 := (((x23.trans x4).trans x5).trans x6).trans x7
        have hyl : ys.length = acc.length := keys_len hk2
        obtain ⟨g1, g2⟩ := put_ok kk hk2 (ha2.mono x27) q7
        refine ⟨ys, kk, rfl, hD8, by omega, wipeE vs e6, O7, Fp7, putE acc kk z, putK ys kk v7, (r8.updO hO8 hF8 h0).wipe (by rw [wipe_wipe, hw]) VW.eq, hO8', hF8, upd_same, g1, ?_, Nat.le_trans putE_len (Nat.succ_le_succ hl2), ?_, h6⟩
        · rw [vw_upd_own hO8]; exact g2
        · rw [vw_upd_own hO8]; exact x2.trans x27
  · refine .inl ⟨it.stop i H2 O2 x2 r2.all hge, ?_⟩
    rw [List.drop_eq_nil_of_le hge] at h2
    have h2 : OPost K W wx F σ H O Q (.ok (.dct acc) (wipeE vs e2)) := h2
    exact h2 (.ref Dp) H2 O2 Fp2 [Dp] (r2.wipe (wipe_wipe σ vs).symm VW.eq) (x1.trans x2) ⟨Dp, ys, rfl, rfl, hD2, hk2, ha2⟩ fun a ha => by
      rw [List.mem_singleton.mp ha]
      exact ⟨hO2, h0, hF2⟩⟩
/-! ### for k, v in d.items() -/
theorem iter_items {Hv : Hp} {d : Addr} {o : Obj} {kvs : List (Key × V)} {es : List (D × D)} (h : Hv d = some (.frz o (.dK kvs))) (hk : es.map (·.1) = kvs.map (fun q => kD q.1)) (ha : RpAll K Hv (kvs.map (·.2)) (es.map (·.2))) : Iter K Hv (Iti d o kvs) (es.map fun p => .tuple [p.1, p.2]) where
  go := fun i H O e _ hi => ⟨(vw_some (e _ _ h) rfl).2, by rw [List.length_map] at hi; rw [keys_len hk]; exact hi⟩
  yld := fun i H v H' O e hO y z hz => by
    obtain ⟨T, k, w, hi, rfl, hT, rfl⟩ := y
    rw [List.getElem?_map] at hz
    obtain ⟨p, hp, rfl⟩ := Option.map_eq_some_iff.mp hz
    have x1 : Ex H _ := Ex.new (o := HO.tup [kV k, w]) hT
    have hk' : p.1 = kD k := by
      have := congrArg (fun l => l[i]?) hk
      simp only [List.getElem?_map, hp, hi, Option.map_some] at this
      exact Option.some.inj this
    obtain ⟨w', h1, h2⟩ := ha.get' (i := i) (d := p.2) (by rw [List.getElem?_map, hp]; rfl)
    rw [List.getElem?_map, hi] at h1
    obtain rfl := Option.some.inj h1
    refine ⟨x1, .tup (.of (vw_new (fun z => hO T z hT) hT)) (.cons ?_ (.cons ((h2.mono e).mono (vw_ex x1)) .nil))⟩
    rw [hk']
    cases k <;> first | exact .int _ | exact .str _
  stop := fun i H O e _ hi => ⟨(vw_some (e _ _ h) rfl).2, by rw [List.length_map] at hi; rw [keys_len hk]; exact hi⟩
theorem iter_vals {Hv : Hp} {d : Addr} {o : Obj} {kvs : List (Key × V)} {es : List (D × D)} (h : Hv d = some (.frz o (.dK kvs))) (hk : es.map (·.1) = kvs.map (fun q => kD q.1)) (ha : RpAll K Hv (kvs.map (·.2)) (es.map (·.2))) : Iter K Hv (Itd d o kvs) (es.map (·.2)) where
  go := fun i H O e _ hi => ⟨(vw_some (e _ _ h) rfl).2, by rw [List.length_map] at hi; rw [keys_len hk]; exact hi⟩
  yld := fun i H v H' O e hO y z hz => by
    obtain ⟨rfl, k, hi⟩ := y
    obtain ⟨w', h1, h2⟩ := ha.get' hz
    rw [List.getElem?_map, hi] at h1
    obtain rfl := Option.some.inj h1
    exact ⟨Ex.refl _, h2.mono e⟩
  stop := fun i H O e _ hi => ⟨(vw_some (e _ _ h) rfl).2, by rw [List.length_map] at hi; rw [keys_len hk]; exact hi⟩
instance {ta : TE} {a : Env Ω → Res Ω D} [A : SatE K W wx ta a] : SatI K W wx (iItems ta) (iItM a) := ⟨fun F env σ H O Fp R r h => by
  refine A.thn r ((post_bind h).mono (Ex.refl _) fun d e1 h v1 H1 O1 Fp1 r1 x1 q1 => ?_)
  cases e : asE d with
  | none => rw [e] at h; exact h.elim
  | some es =>
    rw [e] at h
    obtain ⟨rfl, hn⟩ := asE_some e
    obtain ⟨a', o, kvs, rfl, h1, h2, h3⟩ := q1.dct' hn
    exact ⟨a', o, kvs, rfl, (vw_some h1 rfl).2, h _ H1 O1 Fp1 r1 x1 (iter_items h1 h2 h3)⟩⟩
instance {ta : TE} {a : Env Ω → Res Ω D} [A : SatE K W wx ta a] : SatI K W wx (iVals ta) (iVaM a) := ⟨fun F env σ H O Fp R r h => by
  refine A.thn r ((post_bind h).mono (Ex.refl _) fun d e1 h v1 H1 O1 Fp1 r1 x1 q1 => ?_)
  cases e : asE d with
  | none => rw [e] at h; exact h.elim
  | some es =>
    rw [e] at h
    obtain ⟨rfl, hn⟩ := asE_some e
    obtain ⟨a', o, kvs, rfl, h1, h2, h3⟩ := q1.dct' hn
    exact ⟨a', o, kvs, rfl, (vw_some h1 rfl).2, h _ H1 O1 Fp1 r1 x1 (iter_vals h1 h2 h3)⟩⟩
end
/-! ### layouts with defaults of places -/
def pkG4 {α : Type} (us iv mv ws : List α) : Nat × Nat → Option α
  | (0, i) => us[i]?
  | (1, i) => ws[i]?
  | (2, i) => mv[i]?
  | (_, i) => iv[i]?
def layG4 {α : Type} (lay : List (Nat × Nat)) (us iv mv ws : List α) : List α := lay.filterMap (pkG4 us iv mv ws)
theorem vals_layG4 {vs iz mz zs : List V} {us iv mv ws : List Value} (h1 : Vals vs us) (h4 : Vals iz iv) (h2 : Vals mz mv) (h3 : Vals zs ws) : ∀ (lay : List (Nat × Nat)), Vals (layG4 lay vs iz mz zs) (layG4 lay us iv mv ws)
  | [] => .nil
  | q :: lay => by
    have ih := vals_layG4 h1 h4 h2 h3 lay
    have pk : (pkG4 vs iz mz zs q = none ∧ pkG4 us iv mv ws q = none) ∨ ∃ v u, pkG4 vs iz mz zs q = some v ∧ pkG4 us iv mv ws q = some u ∧ RelV v u := by
      rcases q with ⟨a, i⟩
      rcases a with _ | _ | _ | a
      · exact vals_pick h1 h1 i
      · exact vals_pick h3 h3 i
      · exact vals_pick h2 h2 i
      · exact vals_pick h4 h4 i
    rcases pk with ⟨e1, e2⟩ | ⟨v, u, e1, e2, r⟩
    · unfold layG4; rw [List.filterMap_cons_none e1, List.filterMap_cons_none e2]; exact ih
    · unfold layG4; rw [List.filterMap_cons_some e1, List.filterMap_cons_some e2]; exact .cons r ih
end Ve

set_option Elab.async false
set_option linter.all false
set_option maxRecDepth 100000
set_option maxHeartbeats 4000000
/-! The rules with the text's facts said ahead: within comprehensions and tries. -/
namespace Ve
open PySem PySem.Spec PyProof.Rows L2 Evl Ny
section
variable {X : Cx} {k n1 : Nat} {c mn f : Str} {sp : Sp} {Wx : L2.WX} {tab : MTab} {ks : List Str} {lay : List Src} {e o value : Expr} {es : List Expr} {kws : List Keyword} {ta tv : TE} {t tk : TA} {p apos pos pos' tpos : Pos} {pl : Sem Bool}
theorem pt_refC {t : TE} (h : PT X e (tTest t)) : PT X e (tTest (tRefM t)) := h
theorem pt_dctC {t : TE} (h : PT X e (tTest t)) : PT X e (tTest (tDctI t)) := h
theorem pe_fldK (K : PySem.W.Frag) (he : PE X e ta) (hb : attributeBase e f X.env (eval e X.env) = eval e X.env) (hK : X.K = K := by rfl) : PE X (.Attribute e f pos) (tFld K ta f) := by subst hK; exact pe_fld he hb
theorem ps_fldK (K : PySem.W.Frag) (ha : PE X o ta) (hv : PE X value tv) (hs : swapsWith value (some (.Attribute o f pos')) pos.line X.env = pure false) (hK : X.K = K := by rfl) : PS X (.Assign [.Attribute o f pos'] value pos) (sFld K ta tv f) := by subst hK; exact ps_fld ha hv hs
theorem ps_fldaugK (K : PySem.W.Frag) {op : Operator} {rd : V → V → Hp → VK → Prop} (ha : PE X o ta) (hv : PE X value tv) (hop : InOp X op rd) (hK : X.K = K := by rfl) : PS X (.AugAssign (.Attribute o f tpos) op value pos) (sFldAug K ta tv rd f) := by subst hK; exact ps_fldaug ha hv hop
theorem pe_mkK (K : PySem.W.Frag) (N : NewOk X.prog X.w K X.mg X.base (L2.CX X.prog X.w) k c sp) (hr : Room (k + 1) X.A) (tk : Takes X Wx) (ha : PA X (e :: es) t) (hg : Gl X c := by rfl) (hdb : (c == ("__debug__" : Str)) = false := by decide)
    (he : starEach (e :: es) X.env = (false, eval e X.env) :: starEach es X.env := by rfl) (hpl : (backTo pos (starEach es X.env)).any (·.1) = false := by rfl) (hK : X.K = K := by rfl) :
    PE X (.Call (.Name c p) (e :: es) [] pos) (tMakeS K c sp (WE Wx) t) := by subst hK; exact pe_mk N hr tk ha hg hdb he hpl
theorem pe_mk0K (K : PySem.W.Frag) (N : NewOk X.prog X.w K X.mg X.base (L2.CX X.prog X.w) k c sp) (hr : Room (k + 1) X.A) (tk : Takes X Wx) (hg : Gl X c := by rfl) (hdb : (c == ("__debug__" : Str)) = false := by decide) (hK : X.K = K := by rfl) :
    PE X (.Call (.Name c p) [] [] pos) (tMakeS K c sp (WE Wx) tNil) := by subst hK; exact pe_mk0 N hr tk hg hdb
theorem pe_mKK (K : PySem.W.Frag) (he : PE X o ta) (MT : MethOk X.prog X.w K X.mg X.base (L2.CX X.prog X.w) k mn tab) (hr : Room k X.A) (tk : Takes X Wx) (ha : PA X (e :: es) t)
    (hst : starEach (e :: es) X.env = (false, eval e X.env) :: starEach es X.env := by rfl) (hpl : (backTo pos (starEach es X.env)).any (·.1) = false := by rfl)
    (ht : eval (.Call (.Attribute o mn apos) (e :: es) [] pos) X.env = (do
      let ov ← eval o X.env
      standAt apos.atName
      let (f, first) ← holding [ov] (getMethod ov mn pl)
      callWith pos f first (backTo pos (starEach (e :: es) X.env)) (backToKw pos (keywordEach [] X.env))) := by rfl) (hK : X.K = K := by rfl) :
    PE X (.Call (.Attribute o mn apos) (e :: es) [] pos) (tMethS K mn tab (WE Wx) ta t) := by subst hK; exact pe_m he MT hr tk ha hst hpl ht
theorem pe_m0K (K : PySem.W.Frag) (he : PE X o ta) (MT : MethOk X.prog X.w K X.mg X.base (L2.CX X.prog X.w) k mn tab) (hr : Room k X.A) (tk : Takes X Wx)
    (ht : eval (.Call (.Attribute o mn apos) [] [] pos) X.env = (do
      let ov ← eval o X.env
      standAt apos.atName
      let (f, first) ← holding [ov] (getMethod ov mn pl)
      callWith pos f first (backTo pos (starEach [] X.env)) (backToKw pos (keywordEach [] X.env))) := by rfl) (hK : X.K = K := by rfl) :
    PE X (.Call (.Attribute o mn apos) [] [] pos) (tMethS K mn tab (WE Wx) ta tNil) := by subst hK; exact pe_m0 he MT hr tk ht
theorem pe_mkwK (K : PySem.W.Frag) (he : PE X o ta) (MT : MethK X.prog X.w K X.mg X.base (L2.CX X.prog X.w) k mn n1 ks lay tab) (hr : Room k X.A) (tk' : Takes X Wx) (ha : PA X (e :: es) t) (hkw : PK X kws tk)
    (hall : (backToKw pos (keywordEach kws X.env)).all (·.1.isSome) = true := by rfl) (hks : (backToKw pos (keywordEach kws X.env)).filterMap (·.1) = ks := by rfl)
    (hst : starEach (e :: es) X.env = (false, eval e X.env) :: starEach es X.env := by rfl)
    (hpl : ((backTo pos (starEach (e :: es) X.env)).any (·.1) || (backToKw pos (keywordEach kws X.env)).any (·.1.isNone)) = false := by rfl)
    (ht : eval (.Call (.Attribute o mn apos) (e :: es) kws pos) X.env = (do
      let ov ← eval o X.env
      standAt apos.atName
      let (f, first) ← holding [ov] (getMethod ov mn pl)
      callWith pos f first (backTo pos (starEach (e :: es) X.env)) (backToKw pos (keywordEach kws X.env))) := by rfl) (hK : X.K = K := by rfl) :
    PE X (.Call (.Attribute o mn apos) (e :: es) kws pos) (tMethK K mn tab lay n1 ks.length (WE Wx) ta t tk) := by subst hK; exact pe_mK he MT hr tk' ha hkw hall hks hst hpl ht
theorem pe_mkw0K (K : PySem.W.Frag) (he : PE X o ta) (MT : MethK X.prog X.w K X.mg X.base (L2.CX X.prog X.w) k mn n1 ks lay tab) (hr : Room k X.A) (tk' : Takes X Wx) (hkw : PK X kws tk)
    (hall : (backToKw pos (keywordEach kws X.env)).all (·.1.isSome) = true := by rfl) (hks : (backToKw pos (keywordEach kws X.env)).filterMap (·.1) = ks := by rfl)
    (hpl : ((backTo pos (starEach [] X.env)).any (·.1) || (backToKw pos (keywordEach kws X.env)).any (·.1.isNone)) = false := by rfl)
    (ht : eval (.Call (.Attribute o mn apos) [] kws pos) X.env = (do
      let ov ← eval o X.env
      standAt apos.atName
      let (f, first) ← holding [ov] (getMethod ov mn pl)
      callWith pos f first (backTo pos (starEach [] X.env)) (backToKw pos (keywordEach kws X.env))) := by rfl) (hK : X.K = K := by rfl) :
    PE X (.Call (.Attribute o mn apos) [] kws pos) (tMethK K mn tab lay n1 ks.length (WE Wx) ta tNil tk) := by subst hK; exact pe_mK0 he MT hr tk' hkw hall hks hpl ht
theorem pe_lenOK (K : PySem.W.Frag) (he : PE X e ta) (MT : MethOk X.prog X.w K X.mg X.base (L2.CX X.prog X.w) k "__len__" tab) (hr : Room (k + 1) X.A) (tk : Takes X Wx) (hg : Gl X "len") (hm : X.mg "len" = none)
    (hs : starEach [e] X.env = (false, eval e X.env) :: starEach [] X.env := by rfl) (hpl : (backTo pos (starEach [] X.env)).any (·.1) = false := by rfl) (hK : X.K = K := by rfl) :
    PE X (.Call (.Name "len" p) [e] [] pos) (tLenO K tab (WE Wx) ta) := by subst hK; exact pe_lenO he MT hr tk hg hm hs hpl
theorem isR_peK (K : PySem.W.Frag) {C : Str} {p : Pos} (hg : Gl X C) (hm : X.mg C = some (.ref (He.ga K C))) (hd : (C == ("__debug__" : Str)) = false := by decide) (hK : X.K = K := by rfl) : PE X (.Name C p) (tC (.ref (He.ga K C))) := by subst hK; exact isR_pe hg hm hd
theorem ky_isi (K : PySem.W.Frag) (h : X.K = K := by rfl) : CallR X (.builtin "isinstance") (uIsi K) := by subst h; exact cu_isi
theorem ky_sortX (K : PySem.W.Frag) (hc : X.calm = true) (h : X.K = K := by rfl) : CallR X (.builtin "sorted") (uSortX K) := by subst h; exact cu_sortX hc
theorem mt_indexKK (K : PySem.W.Frag) (h : X.K = K := by rfl) : MtR X "list.index" (rIndexK K) := by subst h; exact mt_indexK
end
section
variable {X : Cx} {o e : Expr} {es : List Expr} {to : TE} {t : TA} {name : Str} {apos cpos : Pos} {T id : String} {r : V → List V → Hp → VK → Prop}
theorem pe_bm0K (K : PySem.W.Frag) (pa : PlainAttrs T) (slot : Slot T name id) (hty : typeOf (.builtin id) = pure (.type "method_descriptor")) (hm : MtR X id r) (ho : PE X o to)
    (hbase : attributeBase o name X.env (eval o X.env) = eval o X.env := by rfl) (hline : (apos.endLine == cpos.line) = true := by rfl) (hK : X.K = K := by rfl) : PE X (.Call (.Attribute o name apos) [] [] cpos) (tBM0 K T r to) := by subst hK; exact pe_bm0 pa slot hty hm ho hbase hline
theorem pe_bmK (K : PySem.W.Frag) (pa : PlainAttrs T) (slot : Slot T name id) (hty : typeOf (.builtin id) = pure (.type "method_descriptor")) (hm : MtR X id r) (ho : PE X o to) (ha : PA X (e :: es) t)
    (hbase : attributeBase o name X.env (eval o X.env) = eval o X.env := by rfl)
    (hfew : ((backTo cpos (starEach (e :: es) X.env)).all (fun x => !x.1) && (backToKw cpos (keywordEach [] X.env)).all (fun x => x.1.isSome)
      && decide ((e :: es).length + ([] : List Keyword).length + (if ([] : List Keyword).isEmpty then 0 else 1) < 30)) = true := by rfl)
    (hline : (apos.endLine == cpos.line) = true := by rfl) (hs : starEach (e :: es) X.env = (false, eval e X.env) :: starEach es X.env := by rfl) (hplain : (backTo cpos (starEach es X.env)).any (·.1) = false := by rfl) (hK : X.K = K := by rfl) :
    PE X (.Call (.Attribute o name apos) (e :: es) [] cpos) (tBM K T r to t) := by subst hK; exact pe_bm pa slot hty hm ho ha hbase hfew hline hs hplain
end
end Ve

set_option Elab.async false
set_option linter.all false
set_option maxRecDepth 100000
set_option maxHeartbeats 4000000
/-! The head's Hook, with the interpreter's statics in the fragment. -/
namespace Ve
open PySem PySem.Spec PyProof.Rows L2 Evl Ny
def obsY (n : Nat) (fa : List He.Fa) (fn : List He.DefD) (ex : PySem.W.Frag → Bool) (g : Addr → Option Obj) : He.AlX := (He.obsT fa fn [] (He.frG g (He5.asA g n)), ex (He.frG g (He5.asA g n)))
def hookY (n : Nat) (fa : List He.Fa) (fn : List He.DefD) (ex : PySem.W.Frag → Bool) : PySem.W.Hook where
  α := He.AlX
  obs := fun s => obsY n fa fn ex s.heap.get?
  val := fun w => He.valX fn [] w
  says := fun w h => ∃ K : PySem.W.Frag, K.In h ∧ He.SaysX fa fn [] [] ex w h K
  of := fun _ _ e => ⟨_, He.frG_in, ⟨congrArg (fun z : He.AlX => z.1) e, congrArg (fun z : He.AlX => z.2) e, nofun, nofun, nofun⟩⟩
  keeps := fun _ _ _ ⟨K, hK, c⟩ k => ⟨K, PySem.W.Frag.In.keeps hK k, ⟨c.t, c.more, c.hd, c.out, nofun⟩⟩
theorem obsY_eq {n : Nat} {fa : List He.Fa} {fn : List He.DefD} {ex : PySem.W.Frag → Bool} {g : Addr → Option Obj} {s : Shared} (h : ∀ a, g a = s.heap.get? a) : obsY n fa fn ex g = (hookY n fa fn ex).obs s := by
  have e : g = s.heap.get? := funext h
  rw [e] <;> rfl
end Ve

set_option Elab.async false
set_option linter.all false
set_option maxRecDepth 100000
set_option maxHeartbeats 4000000
namespace Ve
open PySem PySem.Spec PyProof.Rows L2 Evl Ny
theorem bo_divmod : bootBuiltins "divmod" = some (.builtin "divmod") := by decide +kernel
theorem bo_abs : bootBuiltins "abs" = some (.builtin "abs") := by decide +kernel
end Ve
namespace Ve
open PySem PySem.Spec PyProof.Rows L2 Evl Ny
/-! ### for finding the place at which an instance lacks -/
section
variable {Ω : Type} [ObS Ω] {K : PySem.W.Frag} {W : Wd} {wx : WX}
theorem dbg_seq {t u : TS} {m n : Env Ω → Flow Ω} (T : SatS K W wx t m) (U : SatS K W wx u n) : SatS K W wx (tSeq t u) (bSeq m n) := inferInstance
theorem dbg_if {c : TT} {t u : TS} {k : Env Ω → Res Ω Bool} {m n : Env Ω → Flow Ω} (C : SatT K W wx c k) (T : SatS K W wx t m) (U : SatS K W wx u n) : SatS K W wx (tIfS c t u) (bIf k m n) := inferInstance
theorem dbg_for {wi : TI} {g : TG} {tb : TS} {it : Env Ω → Res Ω (List D)} {m : D → Env Ω → Res Ω Unit} {body : Env Ω → Flow Ω} (I : SatI K W wx wi it) (G : SatG K W g m) (N : NoErr m) (B : SatS K W wx tb body) : SatS K W wx (tFor wi g tb) (bFor it m body) := inferInstance
theorem dbg_end {vs : List Nat} {t : TS} {m : Env Ω → Flow Ω} (T : SatS K W wx t m) : SatS K W wx (tEnd vs t) (bEnd vs m) := inferInstance
theorem dbg_asg {te : TE} {g : TG} {a : Env Ω → Res Ω D} {m : D → Env Ω → Res Ω Unit} (A : SatE K W wx te a) (G : SatG K W g m) (N : NoErr m) : SatS K W wx (tAsg te g) (bAsg a m) := inferInstance
theorem dbg_own {te : TE} {i' i : Nat} [ix : Ix Ω i' i] {a : Env Ω → Res Ω (SD Ω)} (A : SatO K W wx te a) (w : Wr W i) : SatS K W wx (tOwnS te i') (bOwn i a) := inferInstance
theorem dbg_frz {i' i : Nat} [ix : Ix Ω i' i] {t : TS} {m : Env Ω → Flow Ω} (T : SatS K W wx t m) (w : Wr W i) : SatS K W wx (tFrz i' t) (bFrz i m) := inferInstance
end
end Ve

set_option Elab.async false
set_option linter.all false
set_option maxRecDepth 100000
set_option maxHeartbeats 4000000
/-! The plain side: a function's answer by its wishes, stepped by simp. -/
namespace Ve
open PySem PySem.Spec PyProof.Rows L2 Evl Ny
section
variable {Ω : Type}
abbrev EK (Ω : Type) := Str → Option D → Env Ω → Prop
/-- a statement that simp changes only ahead of its wishes -/
class Lk {A B : Type} (a : A) (b : B) : Type where
instance {A B : Type} {a : A} {b : B} : Lk a b := ⟨⟩
/-- what a part's answer is to keep -/
@[irreducible] def RP {α : Type} (r : Res Ω α) (Q : α → Env Ω → Prop) (X : EK Ω) [Lk Q X] : Prop := match r with
  | .ok a e => Q a e
  | .err c p e => X c p e
  | .bad => False
structure FK (Ω : Type) where
  bk : Env Ω → Prop
  ct : Env Ω → Prop
  rt : RV Ω → Env Ω → Prop
  er : EK Ω
@[irreducible] def FP (f : Flow Ω) (N : Env Ω → Prop) (k : FK Ω) [Lk N k] : Prop := match f with
  | .nx e => N e
  | .bk e => k.bk e
  | .ct e => k.ct e
  | .rt r e => k.rt r e
  | .err c p e => k.er c p e
  | .bad => False
@[irreducible] def RM (r : RetM Ω) (Q : RV Ω → Env Ω → Prop) (X : EK Ω) [Lk Q X] : Prop := match r with
  | .ok r e => Q r e
  | .err c p e => X c p e
  | .bad => False
variable {α β : Type} {Q : β → Env Ω → Prop} {X : EK Ω} {env : Env Ω} {N : Env Ω → Prop} {k : FK Ω}
theorem rp_cg {r : Res Ω α} {Q Q' : α → Env Ω → Prop} (h : ∀ a e, Q a e = Q' a e) : RP r Q X = RP r Q' X := by
  have e : Q = Q' := funext fun a => funext fun b => h a b
  subst e; with_unfolding_all rfl
theorem rp_bind {r : Res Ω α} {f : α → Env Ω → Res Ω β} : RP (r.bind f) Q X = RP r (fun a e => RP (f a e) Q X) X := by cases r <;> with_unfolding_all rfl
theorem rp_ok {a : β} {e : Env Ω} : RP (.ok a e) Q X = Q a e := by with_unfolding_all rfl
theorem rp_imp {r : Res Ω α} {Q Q' : α → Env Ω → Prop} {X X' : EK Ω} (h : RP r Q X) (hq : ∀ a e, Q a e → Q' a e) (hx : ∀ c p e, X c p e → X' c p e) : RP r Q' X' := by
  cases r with
  | ok a e => with_unfolding_all exact hq a e h
  | err c p e => with_unfolding_all exact hx c p e h
  | bad => with_unfolding_all exact h
theorem rm_ok {r : RV Ω} {e : Env Ω} {Q : RV Ω → Env Ω → Prop} : RM (.ok r e) Q X = Q r e := by with_unfolding_all rfl
theorem rm_err {c : Str} {p : Option D} {e : Env Ω} {Q : RV Ω → Env Ω → Prop} : RM (.err c p e) Q X = X c p e := by with_unfolding_all rfl
theorem rm_bad {Q : RV Ω → Env Ω → Prop} : RM (Ω := Ω) .bad Q X = False := by with_unfolding_all rfl
theorem rm_imp {r : RetM Ω} {Q Q' : RV Ω → Env Ω → Prop} {X X' : EK Ω} (h : RM r Q X) (hq : ∀ a e, Q a e → Q' a e) (hx : ∀ c p e, X c p e → X' c p e) : RM r Q' X' := by
  cases r with
  | ok a e => with_unfolding_all exact hq a e h
  | err c p e => with_unfolding_all exact hx c p e h
  | bad => with_unfolding_all exact h
theorem rp_bad : RP (Ω := Ω) (α := β) .bad Q X = False := by with_unfolding_all rfl
theorem fp_bad : FP (Ω := Ω) .bad N k = False := by with_unfolding_all rfl
theorem rp_err {c : Str} {p : Option D} {e : Env Ω} : RP (.err c p e) Q X = X c p e := by with_unfolding_all rfl
theorem fp_fl {r : Res Ω α} {f : α → Env Ω → Flow Ω} : FP (r.fl f) N k = RP r (fun a e => FP (f a e) N k) k.er := by cases r <;> with_unfolding_all rfl
theorem fp_nx {e : Env Ω} : FP (.nx e) N k = N e := by with_unfolding_all rfl
theorem fp_rt {r : RV Ω} {e : Env Ω} : FP (.rt r e) N k = k.rt r e := by with_unfolding_all rfl
theorem fp_bNx : FP (bNx env) N k = N env := by with_unfolding_all rfl
theorem fp_bBk : FP (bBk env) N k = k.bk env := by with_unfolding_all rfl
theorem fp_bCt : FP (bCt env) N k = k.ct env := by with_unfolding_all rfl
theorem fp_seq {m n : Env Ω → Flow Ω} : FP (bSeq m n env) N k = FP (m env) (fun e => FP (n e) N k) k := by
  unfold bSeq FP; cases m env <;> with_unfolding_all rfl
theorem fp_if {t : Env Ω → Res Ω Bool} {m n : Env Ω → Flow Ω} : FP (bIf t m n env) N k = RP (t env) (fun c e => if c = true then FP (m e) N k else FP (n e) N k) k.er := by
  unfold bIf; rw [fp_fl]; refine rp_cg fun c e => ?_; cases c <;> with_unfolding_all rfl
theorem fp_ret {a : Env Ω → Res Ω D} : FP (bRet a env) N k = RP (a env) (fun d e => k.rt (.val d) e) k.er := by unfold bRet; rw [fp_fl]; with_unfolding_all rfl
theorem fp_retO {a : Env Ω → Res Ω (SD Ω)} : FP (bRetO a env) N k = RP (a env) (fun d e => k.rt (.own d) e) k.er := by unfold bRetO; rw [fp_fl]; with_unfolding_all rfl
theorem fp_retN : FP (bRetN env) N k = k.rt (.val .none) env := by with_unfolding_all rfl
theorem fp_drop {a : Env Ω → Res Ω D} : FP (bDrop a env) N k = RP (a env) (fun _ e => N e) k.er := by unfold bDrop; rw [fp_fl]; with_unfolding_all rfl
theorem fp_asg {a : Env Ω → Res Ω D} {g : D → Env Ω → Res Ω Unit} : FP (bAsg a g env) N k = RP (a env) (fun d e => RP (g d e) (fun _ e' => N e') k.er) k.er := by
  unfold bAsg; rw [fp_fl]; refine rp_cg fun c e => ?_; rw [fp_fl]; with_unfolding_all rfl
theorem fp_own {i : Nat} {a : Env Ω → Res Ω (SD Ω)} : FP (bOwn i a env) N k = RP (a env) (fun d e => i < e.length ∧ N (e.set i (some d))) k.er := by
  unfold bOwn; rw [fp_fl]; refine rp_cg fun c e => ?_
  by_cases h : i < e.length
  · rw [if_pos h]; with_unfolding_all exact propext ⟨fun q => ⟨h, q⟩, fun q => q.2⟩
  · rw [if_neg h]; with_unfolding_all exact propext ⟨fun q => q.elim, fun q => h q.1⟩
theorem fp_raise {c : Str} : FP (bRaise c env) N k = k.er c none env := by with_unfolding_all rfl
theorem fp_end {vs : List Nat} {m : Env Ω → Flow Ω} : FP (bEnd vs m env) N k = FP (m env) (fun e => N (dropE vs e)) ⟨k.bk, fun e => k.ct (dropE vs e), k.rt, k.er⟩ := by
  unfold bEnd FP; cases m env <;> with_unfolding_all rfl
theorem fp_for {it : Env Ω → Res Ω (List D)} {g : D → Env Ω → Res Ω Unit} {body : Env Ω → Flow Ω} : FP (bFor it g body env) N k = RP (it env) (fun items e => FP (loopM g body items e) N k) k.er := by unfold bFor; rw [fp_fl]
theorem fp_frz {i : Nat} {m : Env Ω → Flow Ω} : FP (bFrz i m env) N k = (match frzAt i env with | some e => FP (m e) N k | none => False) := by
  unfold bFrz; cases frzAt i env <;> with_unfolding_all rfl
theorem fp_setV {i : Nat} {v b : Env Ω → Res Ω D} {f : List D → D → D → Option (List D)} : FP (bSetV i v b f env) N k = RP (v env) (fun d e1 => (slotL i e1).isSome = true ∧ RP (b e1) (fun kk e2 => match (slotL i e2).bind fun l => f l kk d with
    | some l => N (e2.set i (some (.lst l)))
    | none => False) k.er) k.er := by
  unfold bSetV; rw [fp_fl]; refine rp_cg fun c e => ?_
  by_cases h : (slotL i e).isSome = true
  · rw [if_pos h, fp_fl]
    refine propext ⟨fun q => ⟨h, ?_⟩, fun q => ?_⟩
    · revert q; cases b e with
      | ok kk e2 => unfold RP; dsimp only; cases ((slotL i e2).bind fun l => f l kk c) <;> with_unfolding_all exact id
      | err => with_unfolding_all exact id
      | bad => with_unfolding_all exact id
    · revert q; cases b e with
      | ok kk e2 => unfold RP; dsimp only; cases ((slotL i e2).bind fun l => f l kk c) <;> with_unfolding_all exact And.right
      | err => with_unfolding_all exact And.right
      | bad => with_unfolding_all exact And.right
  · rw [if_neg h]; with_unfolding_all exact propext ⟨fun q => q.elim, fun q => h q.1⟩
theorem fp_forNil {g : D → Env Ω → Res Ω Unit} {body : Env Ω → Flow Ω} : FP (loopM g body [] env) N k = N env := by with_unfolding_all rfl
theorem fp_forCons {g : D → Env Ω → Res Ω Unit} {body : Env Ω → Flow Ω} {d : D} {r : List D} : FP (loopM g body (d :: r) env) N k = RP (g d env) (fun _ e1 => FP (body e1) (fun e2 => FP (loopM g body r e2) N k) ⟨N, fun e2 => FP (loopM g body r e2) N k, k.rt, k.er⟩) k.er := by
  with_unfolding_all show FP ((g d env).fl fun _ e1 => _) N k = _
  rw [fp_fl]; refine rp_cg fun c e => ?_
  cases body e <;> with_unfolding_all rfl
/-- a wish as a plain statement -/
@[irreducible] def Tr (p : Prop) : Prop := p
theorem tr_e {p : Prop} : Tr p = p := by with_unfolding_all rfl
theorem tr_of {p : Prop} (h : Tr p) : p := by with_unfolding_all exact h
theorem to_tr {p : Prop} (h : p) : Tr p := by with_unfolding_all exact h
/-- a loop by what stays true -/
theorem fp_loop {g : D → Env Ω → Res Ω Unit} {body : Env Ω → Flow Ω} {items : List D} (I : Nat → Env Ω → Prop) (h0 : I 0 env)
    (hs : ∀ n d e, I n e → items[n]? = some d → RP (g d e) (fun _ e1 => FP (body e1) (fun e2 => I (n + 1) e2) ⟨N, fun e2 => I (n + 1) e2, k.rt, k.er⟩) k.er)
    (hN : ∀ e, I items.length e → Tr (N e)) : FP (loopM g body items env) N k := by
  have H : ∀ (r : List D) (n : Nat) (e : Env Ω), I n e → (∀ j, items[n + j]? = r[j]?) → n + r.length = items.length → FP (loopM g body r e) N k := by
    intro r
    induction r with
    | nil =>
      intro n e hI _ hl
      rw [fp_forNil]; with_unfolding_all exact hN e (by rw [← hl]; with_unfolding_all exact hI)
    | cons d r ih =>
      intro n e hI hj hl
      rw [fp_forCons]
      have hd := hs n d e hI (by have z := hj 0; simpa using z)
      have hk : ∀ e2, I (n + 1) e2 → FP (loopM g body r e2) N k := fun e2 h2 => ih (n + 1) e2 h2 (fun j => by
        have z := hj (j + 1)
        rw [show n + 1 + j = n + (j + 1) by omega, z]; simp) (by simp only [List.length_cons] at hl; omega)
      revert hd
      cases g d e with
      | ok u e1 =>
        intro hd
        with_unfolding_all show FP (body e1) _ _
        have hd : FP (body e1) (fun e2 => I (n + 1) e2) ⟨N, fun e2 => I (n + 1) e2, k.rt, k.er⟩ := by with_unfolding_all exact hd
        revert hd
        cases body e1 with
        | nx e2 => with_unfolding_all exact hk e2
        | ct e2 => with_unfolding_all exact hk e2
        | bk e2 => with_unfolding_all exact id
        | rt r e => with_unfolding_all exact id
        | err c p e => with_unfolding_all exact id
        | bad => with_unfolding_all exact id
      | err c p e => with_unfolding_all exact id
      | bad => with_unfolding_all exact id
  with_unfolding_all exact H items 0 env h0 (fun j => by rw [Nat.zero_add]) (by omega)
/-- a def's answer -/
def retK (l : List Bool) (Q : RV Ω → Env Ω → Prop) (X : EK Ω) : FK Ω := ⟨fun _ => False, fun _ => False, fun r e => Q r (outsE l e), fun c p e => X c p (outsE l e)⟩
theorem retK_rt {l : List Bool} {Q : RV Ω → Env Ω → Prop} {r : RV Ω} {e : Env Ω} : (retK l Q X).rt r e = Q r (outsE l e) := by with_unfolding_all rfl
theorem retK_er {l : List Bool} {Q : RV Ω → Env Ω → Prop} {c : Str} {p : Option D} {e : Env Ω} : (retK l Q X).er c p e = X c p (outsE l e) := by with_unfolding_all rfl
theorem rm_fn {l : List Bool} {n N : Nat} {body : Env Ω → Flow Ω} {args : List (SD Ω)} {Q : RV Ω → Env Ω → Prop} (h : args.length = n)
    (hb : FP (body (args.map some ++ List.replicate (N - n) none)) (fun e => Q (.val .none) (outsE l e)) (retK l Q X)) : RM (fnM l n N body args) Q X := by
  unfold fnM; rw [if_pos h]
  revert hb
  cases body (args.map some ++ List.replicate (N - n) none) with
  | nx e => with_unfolding_all exact id
  | rt r e => with_unfolding_all exact id
  | err c p e => with_unfolding_all exact id
  | bk e => with_unfolding_all exact False.elim
  | ct e => with_unfolding_all exact False.elim
  | bad => with_unfolding_all exact False.elim
/-! #### expressions -/
variable {P : D → Env Ω → Prop}
@[irreducible] def atO {α : Type} (o : Option α) (P : α → Prop) [Lk P P] : Prop := match o with
  | some a => P a
  | none => False
theorem atO_some {α : Type} {a : α} {P : α → Prop} : atO (some a) P = P a := by with_unfolding_all rfl
@[irreducible] def atV (o : Option (Option (SD Ω))) (P : D → Prop) [Lk P P] : Prop := match o with
  | some (some (.val d)) => P d
  | _ => False
theorem atV_some {d : D} {P : D → Prop} : atV (Ω := Ω) (some (some (.val d))) P = P d := by with_unfolding_all rfl
theorem rp_var {i : Nat} : RP (eVar i env) P X = atV env[i]? (fun d => P d env) := by
  unfold eVar atV; split <;> simp_all [RP]
theorem rp_c {d : D} : RP (eC d env) P X = P d env := by with_unfolding_all rfl
theorem rp_optD {α : Type} {o : Option α} {f : α → Res Ω β} : RP (match o with | some z => f z | none => .bad) Q X = atO o (fun z => RP (f z) Q X) := by cases o <;> with_unfolding_all rfl
theorem rp_op {f : D → D → Option D} {a b : Env Ω → Res Ω D} : RP (eOp f a b env) P X = RP (a env) (fun x e1 => RP (b e1) (fun y e2 => atO (f x y) (fun z => P z e2)) X) X := by
  unfold eOp; rw [rp_bind]; refine rp_cg fun x e1 => ?_; rw [rp_bind]; refine rp_cg fun y e2 => ?_; cases f x y <;> with_unfolding_all rfl
theorem rp_un {f : D → Option D} {a : Env Ω → Res Ω D} : RP (eUn f a env) P X = RP (a env) (fun x e1 => atO (f x) (fun z => P z e1)) X := by
  unfold eUn; rw [rp_bind]; refine rp_cg fun x e1 => ?_; cases f x <;> with_unfolding_all rfl
theorem rp_cb {f : List D → Option D} {a : Env Ω → Res Ω (List D)} : RP (eCB f a env) P X = RP (a env) (fun x e1 => atO (f x) (fun z => P z e1)) X := by
  unfold eCB; rw [rp_bind]; refine rp_cg fun x e1 => ?_; cases f x <;> with_unfolding_all rfl
theorem rp_lnil {P : List D → Env Ω → Prop} : RP (lNil env) P X = P [] env := by with_unfolding_all rfl
theorem rp_lcons {P : List D → Env Ω → Prop} {a : Env Ω → Res Ω D} {b : Env Ω → Res Ω (List D)} : RP (lCons a b env) P X = RP (a env) (fun x e1 => RP (b e1) (fun y e2 => P (x :: y) e2) X) X := by
  unfold lCons; rw [rp_bind]; refine rp_cg fun x e1 => ?_; rw [rp_bind]; with_unfolding_all rfl
theorem iff_ite {c : Prop} [Decidable c] {p : Prop} : (if c then p else False) = (c ∧ p) := by
  by_cases h : c <;> simp [h]
theorem rp_ite {c : Prop} [Decidable c] {a : β} {e : Env Ω} : RP (if c then .ok a e else .bad) Q X = (c ∧ Q a e) := by
  by_cases h : c <;> simp [h, RP]
theorem rp_tup {a : Env Ω → Res Ω (List D)} : RP (eTup a env) P X = RP (a env) (fun x e1 => x.length ≤ 1000 ∧ P (.tuple x) e1) X := by
  unfold eTup; rw [rp_bind]; refine rp_cg fun x e1 => ?_; rw [rp_ite]
theorem rp_lst {P : SD Ω → Env Ω → Prop} {a : Env Ω → Res Ω (List D)} : RP (oLst a env) P X = RP (a env) (fun x e1 => x.length ≤ 1000 ∧ P (.lst x) e1) X := by
  unfold oLst; rw [rp_bind]; refine rp_cg fun x e1 => ?_; rw [rp_ite]
theorem rp_newD {P : SD Ω → Env Ω → Prop} : RP (oNewD env) P X = P (.dct []) env := by with_unfolding_all rfl
theorem rp_frz {a : Env Ω → Res Ω (SD Ω)} : RP (eFrz a env) P X = RP (a env) (fun x e1 => atO (frzD x) fun d => P d e1) X := by
  unfold eFrz; rw [rp_bind]; refine rp_cg fun x e1 => ?_; cases frzD x <;> with_unfolding_all rfl
theorem rp_if {t : Env Ω → Res Ω Bool} {a b : Env Ω → Res Ω D} : RP (eIf t a b env) P X = RP (t env) (fun c e => if c = true then RP (a e) P X else RP (b e) P X) X := by
  unfold eIf; rw [rp_bind]; refine rp_cg fun c e => ?_; cases c <;> with_unfolding_all rfl
theorem rp_and {a b : Env Ω → Res Ω D} : RP (eAnd a b env) P X = RP (a env) (fun x e => atO (asB x) fun c => if c = true then RP (b e) P X else P (.bool false) e) X := by
  unfold eAnd; rw [rp_bind]; refine rp_cg fun c e => ?_; cases asB c with
  | none => with_unfolding_all rfl
  | some b => cases b <;> with_unfolding_all rfl
theorem rp_or {a b : Env Ω → Res Ω D} : RP (eOr a b env) P X = RP (a env) (fun x e => atO (asB x) fun c => if c = true then P (.bool true) e else RP (b e) P X) X := by
  unfold eOr; rw [rp_bind]; refine rp_cg fun c e => ?_; cases asB c with
  | none => with_unfolding_all rfl
  | some b => cases b <;> with_unfolding_all rfl
theorem rp_chain {f g : D → D → Option D} {a b c : Env Ω → Res Ω D} : RP (eChain f g a b c env) P X = RP (a env) (fun x e1 => RP (b e1) (fun y e2 => atO ((f x y).bind asB) fun kk => if kk = true then RP (c e2) (fun z e3 => atO (g y z) fun w => P w e3) X else P (.bool false) e2) X) X := by
  unfold eChain; rw [rp_bind]; refine rp_cg fun x e1 => ?_; rw [rp_bind]; refine rp_cg fun y e2 => ?_
  cases (f x y).bind asB with
  | none => with_unfolding_all rfl
  | some kk =>
    cases kk with
    | false => with_unfolding_all rfl
    | true =>
      simp only [atO_some, if_true]
      rw [rp_bind]; refine rp_cg fun z e3 => ?_; cases g y z <;> with_unfolding_all rfl
theorem rp_te {P : Bool → Env Ω → Prop} {f : D → Option Bool} {a : Env Ω → Res Ω D} : RP (tE f a env) P X = RP (a env) (fun x e1 => atO (f x) (fun z => P z e1)) X := by
  unfold tE; rw [rp_bind]; refine rp_cg fun x e1 => ?_; cases f x <;> with_unfolding_all rfl
theorem rp_tand {P : Bool → Env Ω → Prop} {a b : Env Ω → Res Ω Bool} : RP (tAndM a b env) P X = RP (a env) (fun c e => if c = true then RP (b e) P X else P false e) X := by
  unfold tAndM; rw [rp_bind]; refine rp_cg fun c e => ?_; cases c <;> with_unfolding_all rfl
theorem rp_tor {P : Bool → Env Ω → Prop} {a b : Env Ω → Res Ω Bool} : RP (tOrM a b env) P X = RP (a env) (fun c e => if c = true then P true e else RP (b e) P X) X := by
  unfold tOrM; rw [rp_bind]; refine rp_cg fun c e => ?_; cases c <;> with_unfolding_all rfl
theorem rp_tnot {P : Bool → Env Ω → Prop} {a : Env Ω → Res Ω Bool} : RP (tNotM a env) P X = RP (a env) (fun c e => P (!c) e) X := by
  unfold tNotM; rw [rp_bind]; with_unfolding_all rfl
theorem rp_yes {P : Bool → Env Ω → Prop} : RP (tYesM env) P X = P true env := by with_unfolding_all rfl
theorem rp_ixv {i : Nat} {b : Env Ω → Res Ω D} : RP (eIxV i b env) P X = (hasS i env = true ∧ RP (b env) (fun y e => atO ((slotD i e).bind fun d => dIx d y) fun z => P z e) X) := by
  unfold eIxV
  by_cases h : hasS i env = true
  · rw [if_pos h, rp_bind]
    refine Eq.trans ?_ (propext ⟨fun q => ⟨h, q⟩, fun q => q.2⟩)
    refine rp_cg fun y e => ?_
    cases ((slotD i e).bind fun d => dIx d y) <;> with_unfolding_all rfl
  · rw [if_neg h]; with_unfolding_all exact propext ⟨fun q => q.elim, fun q => h q.1⟩
theorem rp_lenv {i : Nat} : RP (eLenV i env) P X = atO ((slotD i env).bind fun d => dLen [d]) fun z => P z env := by
  unfold eLenV; cases ((slotD i env).bind fun d => dLen [d]) <;> with_unfolding_all rfl
theorem rp_eqv {neg : Bool} {i : Nat} {b : Env Ω → Res Ω D} : RP (eEqV neg i b env) P X = (hasS i env = true ∧ RP (b env) (fun y e => atO ((slotD i e).bind fun d => eqB d y) fun kk => P (.bool (if neg then !kk else kk)) e) X) := by
  unfold eEqV
  by_cases h : hasS i env = true
  · rw [if_pos h, rp_bind]
    refine Eq.trans ?_ (propext ⟨fun q => ⟨h, q⟩, fun q => q.2⟩)
    refine rp_cg fun y e => ?_
    cases ((slotD i e).bind fun d => eqB d y) <;> with_unfolding_all rfl
  · rw [if_neg h]; with_unfolding_all exact propext ⟨fun q => q.elim, fun q => h q.1⟩
theorem rp_trv {P : Bool → Env Ω → Prop} {i : Nat} : RP (tTrV i env) P X = atO ((slotD i env).bind truD) fun z => P z env := by
  unfold tTrV; cases ((slotD i env).bind truD) <;> with_unfolding_all rfl
theorem rp_isi {c : Kd} {a : Env Ω → Res Ω D} : RP (eIsi c a env) P X = RP (a env) (fun d e => noRef d = true ∧ P (.bool (isiB c d)) e) X := by
  unfold eIsi; rw [rp_bind]; refine rp_cg fun x e1 => ?_; rw [rp_ite]
theorem rp_pno {P : Option Int → Env Ω → Prop} : RP (pNo env) P X = P none env := by with_unfolding_all rfl
theorem rp_pi {P : Option Int → Env Ω → Prop} {a : Env Ω → Res Ω D} : RP (pI a env) P X = RP (a env) (fun d e => atO (asI d) fun i => P (some i) e) X := by
  unfold pI; rw [rp_bind]; refine rp_cg fun d e => ?_; cases asI d <;> with_unfolding_all rfl
theorem rp_sl {a : Env Ω → Res Ω D} {p q : Env Ω → Res Ω (Option Int)} : RP (eSl a p q env) P X = RP (a env) (fun d e1 => RP (p e1) (fun lo e2 => RP (q e2) (fun hi e3 => atO (dSl d lo hi) fun z => P z e3) X) X) X := by
  unfold eSl; rw [rp_bind]; refine rp_cg fun d e1 => ?_; rw [rp_bind]; refine rp_cg fun lo e2 => ?_; rw [rp_bind]; refine rp_cg fun hi e3 => ?_; cases dSl d lo hi <;> with_unfolding_all rfl
theorem rp_slv {i : Nat} {p q : Env Ω → Res Ω (Option Int)} : RP (eSlV i p q env) P X = (hasS i env = true ∧ RP (p env) (fun lo e2 => RP (q e2) (fun hi e3 => atO ((slotD i e3).bind fun d => dSl d lo hi) fun z => P z e3) X) X) := by
  unfold eSlV
  by_cases h : hasS i env = true
  · rw [if_pos h, rp_bind]
    refine Eq.trans ?_ (propext ⟨fun q => ⟨h, q⟩, fun q => q.2⟩)
    refine rp_cg fun lo e2 => ?_; rw [rp_bind]; refine rp_cg fun hi e3 => ?_; cases ((slotD i e3).bind fun d => dSl d lo hi) <;> with_unfolding_all rfl
  · rw [if_neg h]; with_unfolding_all exact propext ⟨fun q => q.elim, fun q => h q.1⟩
theorem rp_osl {P : SD Ω → Env Ω → Prop} {a : Env Ω → Res Ω D} {p q : Env Ω → Res Ω (Option Int)} : RP (oSl a p q env) P X = RP (a env) (fun d e1 => RP (p e1) (fun lo e2 => RP (q e2) (fun hi e3 => atO (asL d) fun l => P (.lst (cutD l lo hi)) e3) X) X) X := by
  unfold oSl; rw [rp_bind]; refine rp_cg fun d e1 => ?_; rw [rp_bind]; refine rp_cg fun lo e2 => ?_; rw [rp_bind]; refine rp_cg fun hi e3 => ?_; cases asL d <;> with_unfolding_all rfl
theorem rp_mt {f : List D → List D → Option (D × List D)} {i : Nat} {a : Env Ω → Res Ω (List D)} : RP (eMt f i a env) P X = ((slotL i env).isSome = true ∧ RP (a env) (fun ds e => atO ((slotL i e).bind fun l => f l ds) fun z => P z.1 (e.set i (some (.lst z.2)))) X) := by
  unfold eMt
  by_cases h : (slotL i env).isSome = true
  · rw [if_pos h, rp_bind]
    refine Eq.trans ?_ (propext ⟨fun q => ⟨h, q⟩, fun q => q.2⟩)
    refine rp_cg fun ds e => ?_; cases ((slotL i e).bind fun l => f l ds) <;> with_unfolding_all rfl
  · rw [if_neg h]; with_unfolding_all exact propext ⟨fun q => q.elim, fun q => h q.1⟩
theorem rp_listM {P : SD Ω → Env Ω → Prop} {a : Env Ω → Res Ω (List D)} : RP (oListM a env) P X = RP (a env) (fun ds e => atO (oList ds) fun l => P (.lst l) e) X := by
  unfold oListM; rw [rp_bind]; refine rp_cg fun d e => ?_; cases oList d <;> with_unfolding_all rfl
theorem rp_oadd {P : SD Ω → Env Ω → Prop} {a b : Env Ω → Res Ω D} : RP (oAdd a b env) P X = RP (a env) (fun x e1 => RP (b e1) (fun y e2 => atO (asL x) fun kk => atO (asL y) fun l => kk.length + l.length ≤ 1000000 ∧ P (.lst (kk ++ l)) e2) X) X := by
  unfold oAdd; rw [rp_bind]; refine rp_cg fun x e1 => ?_; rw [rp_bind]; refine rp_cg fun y e2 => ?_
  cases asL x with
  | none => with_unfolding_all rfl
  | some kk => cases asL y with
    | none => with_unfolding_all rfl
    | some l =>
      with_unfolding_all show RP (if _ then _ else _) _ _ = _
      rw [rp_ite]; with_unfolding_all rfl
theorem rp_sorti {P : SD Ω → Env Ω → Prop} {a : Env Ω → Res Ω (List D)} : RP (oSortI a env) P X = RP (a env) (fun ds e => atO (ints1 ds) fun l => P (.lst ((sortI l).map PyData.int)) e) X := by
  unfold oSortI; rw [rp_bind]; refine rp_cg fun d e => ?_; cases ints1 d <;> with_unfolding_all rfl
theorem rp_sortr {P : SD Ω → Env Ω → Prop} {a : Env Ω → Res Ω (List D)} : RP (oSortR a env) P X = RP (a env) (fun ds e => atO (ints1 ds) fun l => P (.lst ((sortR l).map PyData.int)) e) X := by
  unfold oSortR; rw [rp_bind]; refine rp_cg fun d e => ?_; cases ints1 d <;> with_unfolding_all rfl
def isV : SD Ω → Bool
  | .val _ => true
  | _ => false
@[irreducible] def atM (o : Option (Option (SD Ω))) (P : SD Ω → Prop) [Lk P P] : Prop := match o with
  | some (some (.val _)) => False
  | some (some sd) => P sd
  | _ => False
theorem atM_lst {l : List D} {P : SD Ω → Prop} : atM (some (some (.lst l))) P = P (.lst l) := by with_unfolding_all rfl
theorem atM_dct {l : List (D × D)} {P : SD Ω → Prop} : atM (some (some (.dct l))) P = P (.dct l) := by with_unfolding_all rfl
theorem rp_move {P : SD Ω → Env Ω → Prop} {i : Nat} : RP (oMove i env) P X = atM env[i]? (fun sd => P sd (env.set i none)) := by
  unfold oMove; cases env[i]? with
  | none => with_unfolding_all rfl
  | some o => cases o with
    | none => with_unfolding_all rfl
    | some sd => cases sd <;> simp [RP, atM]
theorem rp_gn {P : Unit → Env Ω → Prop} {i : Nat} {d : D} : RP (gN i d env) P X = (i < env.length ∧ P () (env.set i (some (.val d)))) := by
  unfold gN; rw [rp_ite]
theorem rp_gt {P : Unit → Env Ω → Prop} {n : Nat} {h : List D → Env Ω → Res Ω Unit} {d : D} : RP (gT n h d env) P X = atO (asT d) fun l => l.length = n ∧ RP (h l env) P X := by
  unfold gT; cases asT d with
  | none => with_unfolding_all rfl
  | some l =>
    by_cases q : l.length = n <;> simp [q, RP, atO]
theorem rp_gst {P : Unit → Env Ω → Prop} {n : Nat} {h : List D → Env Ω → Res Ω Unit} {d : D} : RP (gStarM n h d env) P X = atO (asT d) fun l => n ≤ l.length ∧ RP (h (l.take n ++ [.list (l.drop n)]) env) P X := by
  unfold gStarM; cases asT d with
  | none => with_unfolding_all rfl
  | some l =>
    by_cases q : n ≤ l.length <;> simp [q, RP, atO]
theorem rp_gnil {P : Unit → Env Ω → Prop} : RP (gsNil [] env) P X = P () env := by with_unfolding_all rfl
theorem rp_gcons {P : Unit → Env Ω → Prop} {g : D → Env Ω → Res Ω Unit} {h : List D → Env Ω → Res Ω Unit} {d : D} {r : List D} : RP (gsCons g h (d :: r) env) P X = RP (g d env) (fun _ e => RP (h r e) P X) X := by
  unfold gsCons; rw [rp_bind]
/-! #### iterables, comprehensions -/
theorem rp_il {P : List D → Env Ω → Prop} {a : Env Ω → Res Ω D} : RP (iL a env) P X = RP (a env) (fun d e => atO (asL d) fun l => P l e) X := by
  unfold iL; rw [rp_bind]; refine rp_cg fun d e => ?_; cases asL d <;> with_unfolding_all rfl
theorem rp_it {P : List D → Env Ω → Prop} {a : Env Ω → Res Ω D} : RP (iT a env) P X = RP (a env) (fun d e => atO (asT d) fun l => P l e) X := by
  unfold iT; rw [rp_bind]; refine rp_cg fun d e => ?_; cases asT d <;> with_unfolding_all rfl
theorem rp_is {P : List D → Env Ω → Prop} {a : Env Ω → Res Ω D} : RP (iS a env) P X = RP (a env) (fun d e => atO (asS d) fun x => P (x.cps.toList.map fun c => .str ⟨#[c]⟩) e) X := by
  unfold iS; rw [rp_bind]; refine rp_cg fun d e => ?_; cases asS d <;> with_unfolding_all rfl
theorem rp_ib {P : List D → Env Ω → Prop} {f : List D → Option (List D)} {a : Env Ω → Res Ω (List D)} : RP (iB f a env) P X = RP (a env) (fun d e => atO (f d) fun l => P l e) X := by
  unfold iB; rw [rp_bind]; refine rp_cg fun d e => ?_; cases f d <;> with_unfolding_all rfl
theorem rp_lc {P : SD Ω → Env Ω → Prop} {it : Env Ω → Res Ω (List D)} {g : D → Env Ω → Res Ω Unit} {t : Env Ω → Res Ω Bool} {el : Env Ω → Res Ω D} {vs : List Nat} : RP (oLc it g t el vs env) P X = RP (it env) (fun items e => items.length ≤ 1000000 ∧ RP (lcM g t el vs items [] (wipeE vs e)) (fun l e' => P (.lst l) e') X) X := by
  unfold oLc; rw [rp_bind]; refine rp_cg fun d e => ?_
  by_cases h : d.length ≤ 1000000
  · rw [if_pos h, rp_bind]; with_unfolding_all exact propext ⟨fun q => ⟨h, q⟩, fun q => q.2⟩
  · rw [if_neg h]; with_unfolding_all exact propext ⟨fun q => q.elim, fun q => h q.1⟩
abbrev noX : EK Ω := fun _ _ _ => False
theorem rp_ne {r : Res Ω β} : RP r.ne Q X = RP r Q noX := by cases r <;> with_unfolding_all rfl
theorem rp_lcNil {P : List D → Env Ω → Prop} {g : D → Env Ω → Res Ω Unit} {t : Env Ω → Res Ω Bool} {el : Env Ω → Res Ω D} {vs : List Nat} {acc : List D} : RP (lcM g t el vs [] acc env) P X = P acc (wipeE vs env) := by with_unfolding_all rfl
theorem rp_lcCons {P : List D → Env Ω → Prop} {g : D → Env Ω → Res Ω Unit} {t : Env Ω → Res Ω Bool} {el : Env Ω → Res Ω D} {vs : List Nat} {acc r : List D} {d : D} : RP (lcM g t el vs (d :: r) acc env) P X =
    RP (g d env) (fun _ e1 => RP (t e1) (fun b e2 => if b = true then RP (el e2) (fun y e3 => RP (lcM g t el vs r (acc ++ [y]) (wipeE vs e3)) P X) noX else RP (lcM g t el vs r acc (wipeE vs e2)) P X) noX) noX := by
  with_unfolding_all show RP ((g d env).ne.bind _) P X = _
  rw [rp_bind, rp_ne]
  refine rp_cg fun x e => ?_
  rw [rp_bind, rp_ne]; refine rp_cg fun b e2 => ?_
  cases b with
  | false => with_unfolding_all rfl
  | true => with_unfolding_all show RP ((el e2).ne.bind _) P X = _; rw [rp_bind, rp_ne]; with_unfolding_all rfl
/-- a comprehension by what stays true -/
theorem rp_lcInv {P : List D → Env Ω → Prop} {g : D → Env Ω → Res Ω Unit} {t : Env Ω → Res Ω Bool} {el : Env Ω → Res Ω D} {vs : List Nat} {items : List D} (I : Nat → List D → Env Ω → Prop) (h0 : I 0 [] env)
    (hs : ∀ n d acc e, I n acc e → items[n]? = some d → RP (g d e) (fun _ e1 => RP (t e1) (fun b e2 => if b = true then RP (el e2) (fun y e3 => I (n + 1) (acc ++ [y]) (wipeE vs e3)) noX else I (n + 1) acc (wipeE vs e2)) noX) noX)
    (hN : ∀ acc e, I items.length acc e → Tr (P acc (wipeE vs e))) : RP (lcM g t el vs items [] env) P X := by
  have H : ∀ (r : List D) (n : Nat) (acc : List D) (e : Env Ω), I n acc e → (∀ j, items[n + j]? = r[j]?) → n + r.length = items.length → RP (lcM g t el vs r acc e) P X := by
    intro r
    induction r with
    | nil => intro n acc e hI _ hl; rw [rp_lcNil]; with_unfolding_all exact hN acc e (by rw [← hl]; with_unfolding_all exact hI)
    | cons d r ih =>
      intro n acc e hI hj hl
      rw [rp_lcCons]
      have hd := hs n d acc e hI (by have z := hj 0; simpa using z)
      have hk : ∀ acc e2, I (n + 1) acc e2 → RP (lcM g t el vs r acc e2) P X := fun acc e2 h2 => ih (n + 1) acc e2 h2 (fun j => by
        have z := hj (j + 1)
        rw [show n + 1 + j = n + (j + 1) by omega, z]; simp) (by simp only [List.length_cons] at hl; omega)
      refine rp_imp hd (fun _ e1 h => rp_imp h (fun b e2 h => ?_) fun _ _ _ z => z.elim) fun _ _ _ z => z.elim
      cases b with
      | false => exact hk _ _ h
      | true => exact rp_imp (h : RP (el e2) _ _) (fun y e3 h => hk _ _ h) fun _ _ _ z => z.elim
  with_unfolding_all exact H items 0 [] env h0 (fun j => by rw [Nat.zero_add]) (by omega)
/-! #### calls -/
theorem rp_anil {P : List AD → Env Ω → Prop} : RP (aNil env) P X = P [] env := by with_unfolding_all rfl
def isSomeS : Option (Option (SD Ω)) → Bool
  | some (some _) => true
  | _ => false
theorem rp_avar {P : List AD → Env Ω → Prop} {i : Nat} {r : Env Ω → Res Ω (List AD)} : RP (aVar i r env) P X = (isSomeS env[i]? = true ∧ RP (r env) (fun as e => P (.slot i :: as) e) X) := by
  unfold aVar isSomeS; cases env[i]? with
  | none => simp [RP]
  | some o => cases o with
    | none => simp [RP]
    | some sd => simp only [rp_bind, true_and, rp_ok]; with_unfolding_all rfl
theorem rp_ae {P : List AD → Env Ω → Prop} {a : Env Ω → Res Ω D} {r : Env Ω → Res Ω (List AD)} : RP (aE a r env) P X = RP (a env) (fun d e1 => RP (r e1) (fun as e => P (.val d :: as) e) X) X := by
  unfold aE; rw [rp_bind]; refine rp_cg fun x e1 => ?_; rw [rp_bind]; with_unfolding_all rfl
theorem rp_callG [ObS Ω] {P : RV Ω → Env Ω → Prop} {l : List Bool} {n : Nat} {m : List (SD Ω) → RetM Ω} {a : Env Ω → Res Ω (List AD)} : RP (eCallO l n m a env) P X = RP (a env) (fun ads e1 => atO (resAs e1 (hidL Ω ++ ads)) fun args => args.length = n ∧ okA e1 l (hidL Ω ++ ads) [] = true ∧ hidB Ω l (hidL Ω ++ ads) = true ∧ RM (m args) (fun r outs => P r (wb l (hidL Ω ++ ads) (padE n outs) e1)) (fun c p outs => X c p (wb l (hidL Ω ++ ads) (padE n outs) e1))) X := by
  unfold eCallO; rw [rp_bind]; refine rp_cg fun ads e1 => ?_
  cases resAs e1 (hidL Ω ++ ads) with
  | none => with_unfolding_all rfl
  | some args =>
    with_unfolding_all show RP (if _ then _ else _) P X = (_ ∧ _ ∧ _ ∧ _)
    by_cases h : args.length = n ∧ okA e1 l (hidL Ω ++ ads) [] = true ∧ hidB Ω l (hidL Ω ++ ads) = true
    · rw [if_pos h]
      refine Eq.trans ?_ (propext ⟨fun q => ⟨h.1, h.2.1, h.2.2, q⟩, fun q => q.2.2.2⟩)
      cases m args <;> with_unfolding_all rfl
    · rw [if_neg h]; with_unfolding_all exact propext ⟨fun q => q.elim, fun q => h ⟨q.1, q.2.1, q.2.2.1⟩⟩
theorem rp_call [ObS Ω] {l : List Bool} {n : Nat} {m : List (SD Ω) → RetM Ω} {a : Env Ω → Res Ω (List AD)} : RP (eCall l n m a env) P X = RP (eCallO l n m a env) (fun r e => atO (rvD r) fun d => P d e) X := by
  unfold eCall; rw [rp_bind]; refine rp_cg fun r e => ?_; cases rvD r <;> with_unfolding_all rfl
theorem rp_ocall [ObS Ω] {P : SD Ω → Env Ω → Prop} {l : List Bool} {n : Nat} {m : List (SD Ω) → RetM Ω} {a : Env Ω → Res Ω (List AD)} : RP (oCall l n m a env) P X = RP (eCallO l n m a env) (fun r e => atO (rvO r) fun d => P d e) X := by
  unfold oCall; rw [rp_bind]; refine rp_cg fun r e => ?_; cases rvO r <;> with_unfolding_all rfl
theorem ret_of_rm {r : RetM Ω} {d : D} (h : RM r (fun v outs => v = .val d ∧ outs = []) noX) : r = .ok (.val d) [] := by
  cases r with
  | ok v o => rw [rm_ok] at h; obtain ⟨rfl, rfl⟩ := h; rfl
  | err => with_unfolding_all exact h.elim
  | bad => with_unfolding_all exact h.elim
/-! #### data -/
theorem atO_none {α : Type} {P : α → Prop} : atO none P = False := by with_unfolding_all rfl
theorem atO_ite {α : Type} {c : Prop} [Decidable c] {a : Option α} {P : α → Prop} : atO (if c then a else none) P = (c ∧ atO a P) := by
  by_cases h : c <;> simp [h, atO]
theorem atO_map {α γ : Type} {o : Option α} {f : α → γ} {P : γ → Prop} : atO (o.map f) P = atO o fun a => P (f a) := by cases o <;> with_unfolding_all rfl
theorem atO_bind {α γ : Type} {o : Option α} {f : α → Option γ} {P : γ → Prop} : atO (o.bind f) P = atO o fun a => atO (f a) P := by cases o <;> with_unfolding_all rfl
theorem atO_ix {l : List D} {i : Int} {P : D → Prop} (h0 : 0 ≤ i) (h1 : i < l.length) (h : ∀ x ∈ l, P x) : atO (atI l i) P := by
  unfold atI ixN
  rw [if_pos h0, if_pos h1]
  have e : l[i.toNat]? = some l[i.toNat] := List.getElem?_eq_getElem (by omega)
  with_unfolding_all show atO (l[i.toNat]?) P
  rw [e]; with_unfolding_all exact h _ (List.getElem_mem _)
theorem atI_lit {α : Type} {l : List α} {n : Nat} : atI l (no_index (@OfNat.ofNat Int n instOfNat)) = l[(@OfNat.ofNat Nat n (instOfNatNat n))]? := by
  with_unfolding_all show atI l (n : Int) = l[n]?
  unfold atI ixN
  rw [if_pos (by omega)]
  by_cases h : (n : Int) < l.length
  · rw [if_pos h]; simp
  · rw [if_neg h]
    have : l.length ≤ n := by omega
    rw [List.getElem?_eq_none this]; with_unfolding_all rfl
theorem ixN_lit {m n : Nat} : ixN m (no_index (@OfNat.ofNat Int n instOfNat)) = if n < m then some (@OfNat.ofNat Nat n (instOfNatNat n)) else none := by
  with_unfolding_all show ixN m (n : Int) = if n < m then some n else none
  unfold ixN
  rw [if_pos (by omega)]
  by_cases h : (n : Int) < m
  · rw [if_pos h, if_pos (by omega)]; simp
  · rw [if_neg h, if_neg (by omega)]
theorem as_b {b : Bool} : asB (.bool b) = some b := by with_unfolding_all rfl
theorem as_t {l : List D} : asT (.tuple l) = some l := by with_unfolding_all rfl
theorem as_l {l : List D} : asL (.list l) = some l := by with_unfolding_all rfl
theorem as_s {l : Str} : asS (.str l) = some l := by with_unfolding_all rfl
theorem as_i {l : Int} : asI (.int l) = some l := by with_unfolding_all rfl
theorem tr_n : truD .none = some false := by with_unfolding_all rfl
theorem tr_b {b : Bool} : truD (.bool b) = some b := by with_unfolding_all rfl
theorem tr_i {i : Int} : truD (.int i) = some (i != 0) := by with_unfolding_all rfl
theorem tr_l {l : List D} : truD (.list l) = some (!l.isEmpty) := by with_unfolding_all rfl
theorem tr_t {l : List D} : truD (.tuple l) = some (!l.isEmpty) := by with_unfolding_all rfl
theorem tr_d {l : List (D × D)} : truD (.dict l) = if noRef (.dict l) = true then some (!l.isEmpty) else none := by
  show (match refOf (.dict l) with | none => _ | some _ => _) = _
  unfold noRef
  cases refOf (.dict l) <;> rfl
theorem nr_n : noRef .none = true := rfl
theorem nr_b {b : Bool} : noRef (.bool b) = true := rfl
theorem nr_i {b : Int} : noRef (.int b) = true := rfl
theorem nr_s {b : Str} : noRef (.str b) = true := rfl
theorem nr_l {b : List D} : noRef (.list b) = true := rfl
theorem nr_t {b : List D} : noRef (.tuple b) = true := rfl
theorem nr_d0 : noRef (.dict []) = true := rfl
theorem nr_di {i : Int} {d : D} {l : List (D × D)} : noRef (.dict ((.int i, d) :: l)) = true := by cases l <;> rfl
theorem nr_ds {i : Str} {d : D} {l : List (D × D)} : noRef (.dict ((.str i, d) :: l)) = true := by cases l <;> rfl
theorem tr_s {x : Str} : truD (.str x) = if x.length ≤ sizeLine then some ((x.length : Int) != 0) else none := by with_unfolding_all rfl
theorem not_b {b : Bool} : dNot (.bool b) = some (.bool (!b)) := by with_unfolding_all rfl
theorem neg_i {i : Int} : dNeg (.int i) = some (.int (-i)) := by with_unfolding_all rfl
theorem add_i {i j : Int} : dAdd (.int i) (.int j) = some (.int (i + j)) := by with_unfolding_all rfl
theorem add_l {a b : List D} : dAdd (.list a) (.list b) = if a.length + b.length ≤ 1000000 then some (.list (a ++ b)) else none := by with_unfolding_all rfl
theorem add_s {a b : Str} : dAdd (.str a) (.str b) = if a.length + b.length ≤ 1000000 then some (.str (a ++ b)) else none := by with_unfolding_all rfl
theorem add_t {a b : List D} : dAdd (.tuple a) (.tuple b) = if a.length + b.length ≤ 1000000 then some (.tuple (a ++ b)) else none := by with_unfolding_all rfl
theorem sub_i {i j : Int} : dSub (.int i) (.int j) = some (.int (i - j)) := by with_unfolding_all rfl
theorem lt_i {i j : Int} : dLt (.int i) (.int j) = some (.bool (decide (i < j))) := by with_unfolding_all rfl
theorem le_i {i j : Int} : dLe (.int i) (.int j) = some (.bool (decide (i ≤ j))) := by with_unfolding_all rfl
theorem gt_i {i j : Int} : dGt (.int i) (.int j) = some (.bool (decide (j < i))) := by with_unfolding_all rfl
theorem ge_i {i j : Int} : dGe (.int i) (.int j) = some (.bool (decide (j ≤ i))) := by with_unfolding_all rfl
open Classical in
theorem atO_mul {i j : Int} {P : D → Prop} : atO (dMul (.int i) (.int j)) P = (mulOk i j ∧ P (.int (i * j))) := by
  unfold dMul dIc; rw [atO_ite]; with_unfolding_all rfl
theorem atO_mod {i j : Int} {P : D → Prop} : atO (dMod (.int i) (.int j)) P = (0 < j ∧ P (.int (i % j))) := by
  unfold dMod dIc; rw [atO_ite]; with_unfolding_all rfl
theorem atO_div {i j : Int} {P : D → Prop} : atO (dDiv (.int i) (.int j)) P = ((0 < j ∧ j < 10 ^ 200) ∧ P (.int (i / j))) := by
  unfold dDiv dIc; rw [atO_ite]; with_unfolding_all rfl
theorem atO_pow {i j : Int} {P : D → Prop} : atO (dPow (.int i) (.int j)) P = ((0 ≤ j ∧ j ≤ 1000 ∧ 0 ≤ i ∧ i ≤ 1000) ∧ P (.int (i ^ j.toNat))) := by
  unfold dPow dIc; rw [atO_ite]; with_unfolding_all rfl
theorem eqb_i {i j : Int} : eqB (.int i) (.int j) = some (decide (i = j)) := by with_unfolding_all rfl
theorem eqb_s {i j : Str} : eqB (.str i) (.str j) = some (decide (i = j)) := by with_unfolding_all rfl
theorem eqb_nn : eqB .none .none = some true := by with_unfolding_all rfl
theorem eqb_b {i j : Bool} : eqB (.bool i) (.bool j) = some (decide (i = j)) := by with_unfolding_all rfl
theorem deq_e {d e : D} : dEq d e = (eqB d e).map .bool := by with_unfolding_all rfl
theorem dne_e {d e : D} : dNe d e = (eqB d e).map fun b => .bool (!b) := by with_unfolding_all rfl
theorem isn_n {d : D} : dIs d .none = some (.bool (isNo d)) := by cases d <;> with_unfolding_all rfl
theorem isn_b {a b : Bool} : dIs (.bool a) (.bool b) = some (.bool (decide (a = b))) := by with_unfolding_all rfl
theorem isN_n {d : D} : dIsN d .none = some (.bool (!isNo d)) := by cases d <;> with_unfolding_all rfl
theorem isN_b {a b : Bool} : dIsN (.bool a) (.bool b) = some (.bool (!decide (a = b))) := by with_unfolding_all rfl
theorem no_n : isNo .none = true := by with_unfolding_all rfl
theorem no_i {i : Int} : isNo (.int i) = false := by with_unfolding_all rfl
theorem no_b {i : Bool} : isNo (.bool i) = false := by with_unfolding_all rfl
theorem no_s {i : Str} : isNo (.str i) = false := by with_unfolding_all rfl
theorem noo_l {i : List D} : isNo (.list i) = false := by with_unfolding_all rfl
theorem no_t {i : List D} : isNo (.tuple i) = false := by with_unfolding_all rfl
theorem dix_l {l : List D} {i : Int} : dIx (.list l) (.int i) = atI l i := by with_unfolding_all rfl
theorem dix_t {l : List D} {i : Int} : dIx (.tuple l) (.int i) = atI l i := by with_unfolding_all rfl
theorem len_l {l : List D} : dLen [.list l] = some (.int l.length) := by with_unfolding_all rfl
theorem len_t {l : List D} : dLen [.tuple l] = some (.int l.length) := by with_unfolding_all rfl
theorem len_s {x : Str} : dLen [.str x] = if x.length ≤ sizeLine then some (.int x.length) else none := by with_unfolding_all rfl
theorem int_i {i : Int} : dInt [.int i] = some (.int i) := by with_unfolding_all rfl
theorem int_b {b : Bool} : dInt [.bool b] = some (.int (if b then 1 else 0)) := by with_unfolding_all rfl
theorem max_ii {i j : Int} : dMaxA [.int i, .int j] = some (.int (max i j)) := by
  with_unfolding_all show some (PyData.int (if j > i then j else i)) = _
  congr 2; omega
theorem min_ii {i j : Int} : dMinA [.int i, .int j] = some (.int (min i j)) := by
  with_unfolding_all show some (PyData.int (if j < i then j else i)) = _
  congr 2; omega
theorem abs_i {i : Int} : dAbs [.int i] = some (.int (if i < 0 then -i else i)) := by with_unfolding_all rfl
theorem frz_l {l : List D} : frzD (Ω := Ω) (.lst l) = some (.list l) := by with_unfolding_all rfl
theorem frz_d {l : List (D × D)} : frzD (Ω := Ω) (.dct l) = none := by with_unfolding_all rfl
theorem set_i {l : List D} {i : Int} {d : D} : setAt l (.int i) d = (ixN l.length i).map fun j => l.set j d := by with_unfolding_all rfl
theorem rv_v {d : D} : rvD (Ω := Ω) (.val d) = some d := by with_unfolding_all rfl
theorem rv_o {sd : SD Ω} : rvD (.own sd) = frzD sd := by with_unfolding_all rfl
theorem rvo_o {sd : SD Ω} : rvO (.own sd) = some sd := by with_unfolding_all rfl
theorem mt_app {l : List D} {d : D} : mAppend l [d] = if l.length < 1000000 then some (.none, l ++ [d]) else none := by with_unfolding_all rfl
theorem isl_l {l : List D} {lo hi : Option Int} : dSl (.list l) lo hi = some (.list (cutD l lo hi)) := by with_unfolding_all rfl
theorem isl_t {l : List D} {lo hi : Option Int} : dSl (.tuple l) lo hi = some (.tuple (cutD l lo hi)) := by with_unfolding_all rfl
theorem p264 : (2 : Int) ^ 64 = 18446744073709551616 := by decide
theorem mulOk_l {i j : Int} (h : -18446744073709551616 < i) (h' : i < 18446744073709551616) : mulOk i j := by
  unfold mulOk; rw [p264]; exact .inl ⟨h, h'⟩
theorem mulOk_r {i j : Int} (h : -18446744073709551616 < j) (h' : j < 18446744073709551616) : mulOk i j := by
  unfold mulOk; rw [p264]; exact .inr (.inl ⟨h, h'⟩)
theorem ite_intro {c : Prop} [Decidable c] {p q : Prop} (h1 : c → p) (h2 : ¬ c → q) : if c then p else q := by
  by_cases h : c
  · rw [if_pos h]; exact h1 h
  · rw [if_neg h]; exact h2 h
/-- a comprehension that changes nothing: what passes, turned -/
theorem rp_lcPure {P : List D → Env Ω → Prop} {g : D → Env Ω → Res Ω Unit} {t : Env Ω → Res Ω Bool} {el : Env Ω → Res Ω D} {vs : List Nat} {items : List D} (p : D → Bool) (f : D → D)
    (hs : ∀ d ∈ items, RP (g d env) (fun _ e1 => RP (t e1) (fun b e2 => if b = true then p d = true ∧ RP (el e2) (fun y e3 => y = f d ∧ wipeE vs e3 = env) noX else p d = false ∧ wipeE vs e2 = env) noX) noX)
    (hN : P ((items.filter p).map f) (wipeE vs env)) : RP (lcM g t el vs items [] env) P X := by
  refine rp_lcInv (fun n acc e => acc = ((items.take n).filter p).map f ∧ e = env) ⟨by simp, rfl⟩ ?_ ?_
  · rintro n d acc e ⟨rfl, rfl⟩ hd
    have hm := hs d (List.mem_of_getElem? hd)
    have tk : items.take (n + 1) = items.take n ++ [d] := by rw [List.take_add_one, hd]; rfl
    refine rp_imp hm (fun _ e1 h => rp_imp h (fun b e2 h => ?_) fun _ _ _ z => z.elim) fun _ _ _ z => z.elim
    cases b with
    | false => exact ⟨by rw [tk, List.filter_append]; simp [h.1], h.2⟩
    | true =>
      have h1 : p d = true := h.1
      exact rp_imp h.2 (fun y e3 h => ⟨by rw [tk, List.filter_append]; simp [h1, h.1], h.2⟩) fun _ _ _ z => z.elim
  · rintro acc e ⟨rfl, rfl⟩
    rw [List.take_length]; exact to_tr hN
abbrev intsD (ns : List Int) : D := .list (ns.map PyData.int)
/-- the same over whole numbers -/
theorem rp_lcInt {P : List D → Env Ω → Prop} {g : D → Env Ω → Res Ω Unit} {t : Env Ω → Res Ω Bool} {el : Env Ω → Res Ω D} {vs : List Nat} {ns : List Int} (p : Int → Bool) (f : Int → D)
    (hs : ∀ i ∈ ns, RP (g (.int i) env) (fun _ e1 => RP (t e1) (fun b e2 => if b = true then p i = true ∧ RP (el e2) (fun y e3 => y = f i ∧ wipeE vs e3 = env) noX else p i = false ∧ wipeE vs e2 = env) noX) noX)
    (hN : P ((ns.filter p).map f) (wipeE vs env)) : RP (lcM g t el vs (ns.map PyData.int) [] env) P X := by
  refine rp_lcPure (fun d => match d with | .int i => p i | _ => false) (fun d => match d with | .int i => f i | _ => .none) ?_ ?_
  · intro d hd
    obtain ⟨i, hi, rfl⟩ := List.mem_map.mp hd
    exact hs i hi
  · rw [List.filter_map, List.map_map]; exact hN
theorem int_inj {a b : List Int} (h : a.map PyData.int = b.map PyData.int) : a = b := by
  induction a generalizing b with
  | nil => cases b with
    | nil => rfl
    | cons y b => cases h
  | cons x a ih => cases b with
    | nil => cases h
    | cons y b =>
      rw [List.map_cons, List.map_cons] at h
      injection h with h1 h2
      injection h1 with h1
      rw [h1, ih h2]
theorem eqvAll_ints : ∀ (a b : List Int), PyData.eqvAll (a.map .int) (b.map .int) = decide (a = b)
  | [], [] => rfl
  | [], y :: b => rfl
  | x :: a, [] => rfl
  | x :: a, y :: b => by
    rw [List.map_cons, List.map_cons, PyData.eqvAll, eqvAll_ints a b, PyData.eqv]
    by_cases h : x = y <;> by_cases k : a = b <;> simp [h, k]
theorem lay_ints : ∀ a : List Int, PyData.canLayAll0 (a.map .int) = true
  | [] => rfl
  | x :: a => by rw [List.map_cons, PyData.canLayAll0, lay_ints a]; rfl
theorem dep_ints : ∀ a : List Int, PyData.depthAll (a.map .int) = 0
  | [] => rfl
  | x :: a => by rw [List.map_cons, PyData.depthAll, dep_ints a]; rfl
theorem shaped_ints (a : List Int) : SeqAt.shaped (intsD a) = true := by
  unfold SeqAt.shaped
  rw [PyData.canLay0, PyData.depth, lay_ints, dep_ints]; rfl
theorem eqb_ints {a b : List Int} : eqB (intsD a) (intsD b) = some (decide (a = b)) := by
  show (if SeqAt.shaped (intsD a) = true ∧ SeqAt.shaped (intsD b) = true then some (PyData.eqv (intsD a) (intsD b)) else none) = _
  rw [if_pos ⟨shaped_ints a, shaped_ints b⟩, PyData.eqv, eqvAll_ints]
theorem eqb_lnil {a : List Int} : eqB (intsD a) (.list []) = some (decide (a = [])) := eqb_ints (b := [])
/-- behind a shaped thing's like -/
theorem eqb_of {d e : D} (hd : SeqAt.shaped d = true) (he : SeqAt.shaped e = true) : eqB d e = some (PyData.eqv d e) := by
  unfold eqB
  split
  · rename_i i j; rw [PyData.eqv]; by_cases h : i = j <;> simp [h]
  · rename_i i j; rw [PyData.eqv]; by_cases h : i = j <;> simp [h]
  · rename_i i j; rw [PyData.eqv]; by_cases h : i = j <;> simp [h]
  · rw [if_pos ⟨hd, he⟩]
theorem eqb_same {d : D} (hd : SeqAt.shaped d = true) : eqB d d = some true := by
  rw [eqb_of hd hd, SeqAt.eqv_refl d (SeqAt.canLay_of_shaped hd)]
theorem str_inj {a b : String} : (Str.ofString a = Str.ofString b) = (a = b) := by
  refine propext ⟨fun h => ?_, fun h => by rw [h]⟩
  rw [Str.ofString_eq_toList, Str.ofString_eq_toList] at h
  injection h with h
  have h2 : a.toList.map Char.toNat = b.toList.map Char.toNat := by simpa using congrArg Array.toList h
  have h3 : a.toList = b.toList := by
    refine List.map_inj_right (f := Char.toNat) (fun x y hxy => ?_) |>.mp h2
    exact Char.toNat_inj.mp hxy
  exact String.toList_inj.mp h3
theorem rngD_0 {lo : Int} : rngD lo 0 = [] := rfl
theorem rngD_s {lo : Int} {n : Nat} : rngD lo (n + 1) = .int lo :: rngD (lo + 1) n := by
  unfold rngD
  rw [List.range_succ_eq_map, List.map_cons, List.map_map]
  congr 1
  · simp
  · refine List.map_congr_left fun i _ => ?_
    show PyData.int _ = PyData.int _
    congr 1; simp only [Nat.succ_eq_add_one]; omega
theorem rng_1 {j : Int} : rngI [.int j] = if -4611686018427387904 ≤ j ∧ j < 4611686018427387904 then some (rngD 0 j.toNat) else none := rfl
theorem rng_2 {i j : Int} : rngI2 [.int i, .int j] = if -4611686018427387904 ≤ i ∧ i < 4611686018427387904 ∧ -4611686018427387904 ≤ j ∧ j < 4611686018427387904 then some (rngD i (j - i).toNat) else none := rfl
theorem enu_l {l : List D} : enumI [.list l] = some (l.zipIdx.map fun p => .tuple [.int (p.2 : Nat), p.1]) := rfl
theorem zip_t {l k : List D} : zipI [.tuple l, .tuple k] = some (List.zipWith (fun d e => .tuple [d, e]) l k) := rfl
theorem zip_l {l k : List D} : zipI [.list l, .list k] = some (List.zipWith (fun d e => .tuple [d, e]) l k) := rfl
theorem rev_l {l : List D} : revI [.list l] = some l.reverse := rfl
/-! #### shaped things -/
def Sh (n : Nat) (d : D) : Prop := d.canLay0 = true ∧ d.depth ≤ n
theorem Sh.int {n : Nat} {i : Int} : Sh n (.int i) := ⟨rfl, Nat.zero_le _⟩
theorem Sh.bool {n : Nat} {i : Bool} : Sh n (.bool i) := ⟨rfl, Nat.zero_le _⟩
theorem Sh.none {n : Nat} : Sh n .none := ⟨rfl, Nat.zero_le _⟩
theorem Sh.str {n : Nat} {x : Str} (h : (PyData.str x).canLay0 = true) : Sh n (.str x) := ⟨h, Nat.zero_le _⟩
theorem Sh.all {n : Nat} : ∀ {l : List D}, (∀ d ∈ l, Sh n d) → PyData.canLayAll0 l = true ∧ PyData.depthAll l ≤ n
  | [], _ => ⟨rfl, Nat.zero_le _⟩
  | d :: l, h => by
    have h1 := h d List.mem_cons_self
    have h2 := Sh.all (l := l) fun x hx => h x (List.mem_cons_of_mem _ hx)
    refine ⟨by rw [PyData.canLayAll0, h1.1, h2.1]; rfl, ?_⟩
    rw [PyData.depthAll]; exact Nat.max_le.mpr ⟨h1.2, h2.2⟩
theorem Sh.tup {n : Nat} {l : List D} (h : ∀ d ∈ l, Sh n d) : Sh (n + 1) (.tuple l) := by
  have q := Sh.all h
  exact ⟨by rw [PyData.canLay0]; exact q.1, by rw [PyData.depth]; exact Nat.succ_le_succ q.2⟩
theorem Sh.lst {n : Nat} {l : List D} (h : ∀ d ∈ l, Sh n d) : Sh (n + 1) (.list l) := by
  have q := Sh.all h
  exact ⟨by rw [PyData.canLay0]; exact q.1, by rw [PyData.depth]; exact Nat.succ_le_succ q.2⟩
theorem Sh.up {n m : Nat} {d : D} (h : Sh n d) (k : n ≤ m) : Sh m d := ⟨h.1, Nat.le_trans h.2 k⟩
theorem Sh.shaped {n : Nat} {d : D} (h : Sh n d) (k : n ≤ 64 := by decide) : SeqAt.shaped d = true := by
  unfold SeqAt.shaped; rw [h.1, decide_eq_true (Nat.le_trans h.2 k)]; rfl
theorem eqb_nil {l : List D} (h : SeqAt.shaped (.list l) = true) : eqB (.list l) (.list []) = some l.isEmpty := by
  rw [eqb_of h (by decide +kernel)]
  cases l with
  | nil => rfl
  | cons a l => simp [PyData.eqv, PyData.eqvAll]
theorem in_t {d : D} {l : List D} : dIn d (.tuple l) = if flatD d = true ∧ l.all flatD = true then some (.bool (l.any fun z => PyData.eqv z d)) else none := by
  show Option.map _ (if flatD d = true ∧ l.all flatD = true then some (l.any fun z => PyData.eqv z d) else none) = _
  by_cases h : flatD d = true ∧ l.all flatD = true
  · rw [if_pos h, if_pos h]; rfl
  · rw [if_neg h, if_neg h]; rfl
theorem in_l {d : D} {l : List D} : dIn d (.list l) = if SeqAt.shaped d = true ∧ SeqAt.shaped (.list l) = true then some (.bool (l.any fun z => PyData.eqv z d)) else none := by
  show Option.map _ (if SeqAt.shaped d = true ∧ SeqAt.shaped (.list l) = true then some (l.any fun z => PyData.eqv z d) else none) = _
  by_cases h : SeqAt.shaped d = true ∧ SeqAt.shaped (.list l) = true
  · rw [if_pos h, if_pos h]; rfl
  · rw [if_neg h, if_neg h]; rfl
theorem nin_t {d : D} {l : List D} : dNin d (.tuple l) = if flatD d = true ∧ l.all flatD = true then some (.bool (!l.any fun z => PyData.eqv z d)) else none := by
  show Option.map _ (if flatD d = true ∧ l.all flatD = true then some (l.any fun z => PyData.eqv z d) else none) = _
  by_cases h : flatD d = true ∧ l.all flatD = true
  · rw [if_pos h, if_pos h]; rfl
  · rw [if_neg h, if_neg h]; rfl
theorem nin_l {d : D} {l : List D} : dNin d (.list l) = if SeqAt.shaped d = true ∧ SeqAt.shaped (.list l) = true then some (.bool (!l.any fun z => PyData.eqv z d)) else none := by
  show Option.map _ (if SeqAt.shaped d = true ∧ SeqAt.shaped (.list l) = true then some (l.any fun z => PyData.eqv z d) else none) = _
  by_cases h : SeqAt.shaped d = true ∧ SeqAt.shaped (.list l) = true
  · rw [if_pos h, if_pos h]; rfl
  · rw [if_neg h, if_neg h]; rfl
/-- a loop with one statement that stays true -/
theorem fp_loopU {g : D → Env Ω → Res Ω Unit} {body : Env Ω → Flow Ω} {items : List D} (I : Env Ω → Prop) (h0 : I env)
    (hs : ∀ d ∈ items, ∀ e, I e → Tr (RP (g d e) (fun _ e1 => FP (body e1) (fun e2 => I e2) ⟨N, fun e2 => I e2, k.rt, k.er⟩) k.er))
    (hN : ∀ e, I e → Tr (N e)) : FP (loopM g body items env) N k :=
  fp_loop (fun _ e => I e) h0 (fun n d e hI hd => tr_of (hs d (List.mem_of_getElem? hd) e hI)) hN
theorem fp_loopI {g : D → Env Ω → Res Ω Unit} {body : Env Ω → Flow Ω} {ns : List Int} (I : Env Ω → Prop) (h0 : I env)
    (hs : ∀ i ∈ ns, ∀ e, I e → Tr (RP (g (.int i) e) (fun _ e1 => FP (body e1) (fun e2 => I e2) ⟨N, fun e2 => I e2, k.rt, k.er⟩) k.er))
    (hN : ∀ e, I e → Tr (N e)) : FP (loopM g body (ns.map PyData.int) env) N k :=
  fp_loopU I h0 (fun d hd e hI => by
    obtain ⟨i, hi, rfl⟩ := List.mem_map.mp hd
    exact hs i hi e hI) hN
theorem cutd_map {f : Int → D} {l : List Int} {lo hi : Option Int} : cutD (l.map f) lo hi = ((l.drop (HT.sIx l.length 0 lo)).take (HT.sIx l.length l.length hi - HT.sIx l.length 0 lo)).map f := by
  unfold cutD; rw [List.length_map, List.map_take, List.map_drop]
theorem cutd_to {l : List D} {n : Nat} : cutD l none (some (no_index (@OfNat.ofNat Int n instOfNat))) = l.take n := by
  show cutD l none (some (n : Int)) = l.take n
  unfold cutD
  rw [HT.sIx_none, HT.sIx_nat, List.drop_zero, Nat.sub_zero]
  by_cases h : n ≤ l.length
  · rw [Nat.min_eq_left h]
  · rw [Nat.min_eq_right (by omega), List.take_length, List.take_of_length_le (by omega)]
theorem fp_items {g : D → Env Ω → Res Ω Unit} {body : Env Ω → Flow Ω} {items items' : List D} (h : items = items') (q : FP (loopM g body items' env) N k) : FP (loopM g body items env) N k := by rw [h]; exact q
theorem rp_items {P : List D → Env Ω → Prop} {g : D → Env Ω → Res Ω Unit} {t : Env Ω → Res Ω Bool} {el : Env Ω → Res Ω D} {vs : List Nat} {items items' acc : List D} (h : items = items') (q : RP (lcM g t el vs items' acc env) P X) : RP (lcM g t el vs items acc env) P X := by rw [h]; exact q
theorem atO_of {α : Type} {o : Option α} {a : α} {P : α → Prop} (h : o = some a) (q : P a) : atO o P := by rw [h, atO_some]; exact q
theorem atO_ixI (ns : List Int) {i : Int} {P : D → Prop} (h0 : 0 ≤ i) (h1 : i < ns.length) (h : ∀ n ∈ ns, P (.int n)) : atO (atI (ns.map PyData.int) i) P :=
  atO_ix h0 (by rw [List.length_map]; exact h1) fun x hx => by
    obtain ⟨n, hn, rfl⟩ := List.mem_map.mp hx
    exact h n hn
/-! #### calls by a layout, slices given anew -/
theorem rp_goG [ObS Ω] {P : RV Ω → Env Ω → Prop} {l : List Bool} {n : Nat} {m : List (SD Ω) → RetM Ω} {ads : List AD} {e1 : Env Ω} : RP (goCall l n m ads e1) P X = atO (resAs e1 (hidL Ω ++ ads)) fun args => args.length = n ∧ okA e1 l (hidL Ω ++ ads) [] = true ∧ hidB Ω l (hidL Ω ++ ads) = true ∧ RM (m args) (fun r outs => P r (wb l (hidL Ω ++ ads) (padE n outs) e1)) (fun c p outs => X c p (wb l (hidL Ω ++ ads) (padE n outs) e1)) := by
  unfold goCall
  cases resAs e1 (hidL Ω ++ ads) with
  | none => with_unfolding_all rfl
  | some args =>
    rw [atO_some]
    by_cases h : args.length = n ∧ okA e1 l (hidL Ω ++ ads) [] = true ∧ hidB Ω l (hidL Ω ++ ads) = true
    · simp only [if_pos h]
      refine Eq.trans ?_ (propext ⟨fun q => ⟨h.1, h.2.1, h.2.2, q⟩, fun q => q.2.2.2⟩)
      cases m args <;> with_unfolding_all rfl
    · simp only [if_neg h]; rw [rp_bad]; exact propext ⟨fun q => q.elim, fun q => h ⟨q.1, q.2.1, q.2.2.1⟩⟩
theorem rp_callKO [ObS Ω] {P : RV Ω → Env Ω → Prop} {lay : List Src} {n1 n2 : Nat} {l : List Bool} {n : Nat} {m : List (SD Ω) → RetM Ω} {a b : Env Ω → Res Ω (List AD)} : RP (eCallKO lay n1 n2 l n m a b env) P X = RP (a env) (fun as e1 => RP (b e1) (fun bs e2 => as.length = n1 ∧ bs.length = n2 ∧ RP (goCall l n m (layAD lay as bs) e2) P X) X) X := by
  unfold eCallKO; rw [rp_bind]; refine rp_cg fun as e1 => ?_; rw [rp_bind]; refine rp_cg fun bs e2 => ?_
  by_cases h : as.length = n1 ∧ bs.length = n2
  · rw [if_pos h]; exact propext ⟨fun q => ⟨h.1, h.2, q⟩, fun q => q.2.2⟩
  · rw [if_neg h, rp_bad]; exact propext ⟨fun q => q.elim, fun q => h ⟨q.1, q.2.1⟩⟩
theorem rp_callK [ObS Ω] {lay : List Src} {n1 n2 : Nat} {l : List Bool} {n : Nat} {m : List (SD Ω) → RetM Ω} {a b : Env Ω → Res Ω (List AD)} : RP (eCallK lay n1 n2 l n m a b env) P X = RP (eCallKO lay n1 n2 l n m a b env) (fun r e => atO (rvD r) fun d => P d e) X := by
  unfold eCallK; rw [rp_bind]; refine rp_cg fun r e => ?_; cases rvD r <;> with_unfolding_all rfl
theorem rp_ocallK [ObS Ω] {P : SD Ω → Env Ω → Prop} {lay : List Src} {n1 n2 : Nat} {l : List Bool} {n : Nat} {m : List (SD Ω) → RetM Ω} {a b : Env Ω → Res Ω (List AD)} : RP (oCallK lay n1 n2 l n m a b env) P X = RP (eCallKO lay n1 n2 l n m a b env) (fun r e => atO (rvO r) fun d => P d e) X := by
  unfold oCallK; rw [rp_bind]; refine rp_cg fun r e => ?_; cases rvO r <;> with_unfolding_all rfl
def lstOf : SD Ω → Option (List D)
  | .lst k => some k
  | _ => none
theorem lst_of {k : List D} : lstOf (Ω := Ω) (.lst k) = some k := rfl
theorem fp_slc {i : Nat} {a : Env Ω → Res Ω (SD Ω)} {p q : Env Ω → Res Ω (Option Int)} : FP (bSlc i a p q env) N k = RP (a env) (fun sd e1 => atO (lstOf sd) fun kk => (slotL i e1).isSome = true ∧ RP (p e1) (fun lo e2 => RP (q e2) (fun hi e3 => atO (slotL i e3) fun l => atO lo fun x => atO hi fun y =>
    (0 ≤ x ∧ x ≤ y ∧ y ≤ l.length ∧ l.length + kk.length ≤ 1000000) ∧ N (e3.set i (some (.lst (l.take x.toNat ++ kk ++ l.drop y.toNat))))) k.er) k.er) k.er := by
  unfold bSlc; rw [fp_fl]; refine rp_cg fun sd e1 => ?_
  cases sd with
  | lst kk =>
    rw [lst_of, atO_some]
    by_cases h : (slotL i e1).isSome = true
    · simp only [if_pos h]
      refine Eq.trans ?_ (propext ⟨fun q => ⟨h, q⟩, fun q => q.2⟩)
      rw [fp_fl]; refine rp_cg fun lo e2 => ?_
      rw [fp_fl]; refine rp_cg fun hi e3 => ?_
      cases slotL i e3 with
      | none => with_unfolding_all rfl
      | some l =>
        cases lo with
        | none => with_unfolding_all rfl
        | some x =>
          cases hi with
          | none => with_unfolding_all rfl
          | some y =>
            simp only [atO_some]
            by_cases hc : 0 ≤ x ∧ x ≤ y ∧ y ≤ l.length ∧ l.length + kk.length ≤ 1000000
            · simp only [if_pos hc, fp_nx]; exact propext ⟨fun q => ⟨hc, q⟩, fun q => q.2⟩
            · simp only [if_neg hc, fp_bad]; exact propext ⟨fun q => q.elim, fun q => hc q.1⟩
    · simp only [if_neg h, fp_bad]; exact propext ⟨fun q => q.elim, fun q => h q.1⟩
  | _ => with_unfolding_all rfl
/-- a loop that folds -/
theorem fp_fold {α β : Type} {g : D → Env Ω → Res Ω Unit} {body : Env Ω → Flow Ω} {xs : List α} (f : α → D) (E : β → Env Ω) (st : β → α → β) (b0 : β) (he : env = E b0)
    (hs : ∀ x ∈ xs, ∀ b, RP (g (f x) (E b)) (fun _ e1 => FP (body e1) (fun e2 => e2 = E (st b x)) ⟨N, fun e2 => e2 = E (st b x), k.rt, k.er⟩) k.er)
    (hN : N (E (xs.foldl st b0))) : FP (loopM g body (xs.map f) env) N k := by
  refine fp_loop (fun n e => e = E ((xs.take n).foldl st b0)) he ?_ ?_
  · intro n d e hI hd
    rw [List.getElem?_map] at hd
    cases hx : xs[n]? with
    | none => rw [hx] at hd; cases hd
    | some x =>
      rw [hx] at hd; cases hd
      subst hI
      have tk : (xs.take (n + 1)).foldl st b0 = st ((xs.take n).foldl st b0) x := by
        rw [List.take_add_one, hx, List.foldl_append]; rfl
      rw [tk]
      exact hs x (List.mem_of_getElem? hx) _
  · intro e hI
    refine to_tr ?_
    rw [hI, List.length_map, List.take_length]; exact hN
theorem atI_m1 {α : Type} {a : α} {l : List α} : atI (a :: l) (-1) = (a :: l)[l.length]? := by
  unfold atI ixN
  rw [if_neg (by omega), if_pos (by rw [List.length_cons]; omega), List.length_cons]
  show (a :: l)[((-1 : Int) + ((l.length + 1 : Nat) : Int)).toNat]? = _
  rw [show ((-1 : Int) + ((l.length + 1 : Nat) : Int)).toNat = l.length by omega]
theorem cutd_13 {a b c d : D} : cutD [a, b, c, d] (some 1) (some 3) = [b, c] := rfl
theorem atO_ixF {α : Type} (f : α → D) (xs : List α) {i : Int} {P : D → Prop} (h0 : 0 ≤ i) (h1 : i < xs.length) (h : ∀ n ∈ xs, P (f n)) : atO (atI (xs.map f) i) P :=
  atO_ix h0 (by rw [List.length_map]; exact h1) fun x hx => by
    obtain ⟨n, hn, rfl⟩ := List.mem_map.mp hx
    exact h n hn
theorem ol_l {l : List D} : oList [.list l] = some l := rfl
theorem ol_t {l : List D} : oList [.tuple l] = some l := rfl
/-! #### things made for a call -/
theorem rp_ao {P : List AD × SD Ω → Env Ω → Prop} {o : Env Ω → Res Ω (SD Ω)} {r : Env Ω → Res Ω (List AD)} : RP (aO o r env) P X = RP (o env) (fun sd e1 => oneA sd = true ∧ RP (r e1) (fun bs e2 => P (.slot e2.length :: bs, sd) e2) X) X := by
  unfold aO; rw [rp_bind]; refine rp_cg fun sd e1 => ?_
  by_cases h : oneA sd = true
  · rw [if_pos h, rp_bind]; exact Eq.trans (rp_cg fun a e => rp_ok) (propext ⟨fun q => ⟨h, q⟩, fun q => q.2⟩)
  · rw [if_neg h, rp_bad]; exact propext ⟨fun q => q.elim, fun q => h q.1⟩
theorem rp_aet {P : List AD × SD Ω → Env Ω → Prop} {a : Env Ω → Res Ω D} {r : Env Ω → Res Ω (List AD × SD Ω)} : RP (aET a r env) P X = RP (a env) (fun d e1 => RP (r e1) (fun q e2 => P (.val d :: q.1, q.2) e2) X) X := by
  unfold aET; rw [rp_bind]; refine rp_cg fun d e1 => ?_; rw [rp_bind]; with_unfolding_all rfl
theorem rp_avart {P : List AD × SD Ω → Env Ω → Prop} {i : Nat} {r : Env Ω → Res Ω (List AD × SD Ω)} : RP (aVarT i r env) P X = (isSomeS env[i]? = true ∧ RP (r env) (fun q e => P (.slot i :: q.1, q.2) e) X) := by
  unfold aVarT isSomeS; cases env[i]? with
  | none => simp [rp_bad]
  | some o => cases o with
    | none => simp [rp_bad]
    | some sd => simp only [rp_bind, true_and, rp_ok]; with_unfolding_all rfl
theorem rp_callTO [ObS Ω] {P : RV Ω → Env Ω → Prop} {l : List Bool} {n : Nat} {m : List (SD Ω) → RetM Ω} {a : Env Ω → Res Ω (List AD × SD Ω)} : RP (eCallTO l n m a env) P X = RP (a env) (fun q e1 => RP (goCall l n m q.1 (e1 ++ [some q.2])) (fun r e2 => P r (e2.take e1.length)) (fun c p e2 => X c p (e2.take e1.length))) X := by
  unfold eCallTO; rw [rp_bind]; refine rp_cg fun q e1 => ?_
  cases goCall l n m q.1 (e1 ++ [some q.2]) <;> with_unfolding_all rfl
theorem rp_callT [ObS Ω] {l : List Bool} {n : Nat} {m : List (SD Ω) → RetM Ω} {a : Env Ω → Res Ω (List AD × SD Ω)} : RP (eCallT l n m a env) P X = RP (eCallTO l n m a env) (fun r e => atO (rvD r) fun d => P d e) X := by
  unfold eCallT; rw [rp_bind]; refine rp_cg fun r e => ?_; cases rvD r <;> with_unfolding_all rfl
theorem rp_ocallT [ObS Ω] {P : SD Ω → Env Ω → Prop} {l : List Bool} {n : Nat} {m : List (SD Ω) → RetM Ω} {a : Env Ω → Res Ω (List AD × SD Ω)} : RP (oCallT l n m a env) P X = RP (eCallTO l n m a env) (fun r e => atO (rvO r) fun d => P d e) X := by
  unfold oCallT; rw [rp_bind]; refine rp_cg fun r e => ?_; cases rvO r <;> with_unfolding_all rfl
theorem one_l {l : List D} : oneA (Ω := Ω) (.lst l) = true := rfl
theorem one_d {l : List (D × D)} : oneA (Ω := Ω) (.dct l) = true := rfl
/-- a comprehension over things told by a function -/
theorem rp_lcF {α : Type} {P : List D → Env Ω → Prop} {g : D → Env Ω → Res Ω Unit} {t : Env Ω → Res Ω Bool} {el : Env Ω → Res Ω D} {vs : List Nat} {xs : List α} (h : α → D) (p : α → Bool) (f : α → D)
    (hs : ∀ x ∈ xs, RP (g (h x) env) (fun _ e1 => RP (t e1) (fun b e2 => if b = true then p x = true ∧ RP (el e2) (fun y e3 => y = f x ∧ wipeE vs e3 = env) noX else p x = false ∧ wipeE vs e2 = env) noX) noX)
    (hN : P ((xs.filter p).map f) (wipeE vs env)) : RP (lcM g t el vs (xs.map h) [] env) P X := by
  refine rp_lcInv (fun n acc e => acc = ((xs.take n).filter p).map f ∧ e = env) ⟨by simp, rfl⟩ ?_ ?_
  · rintro n d acc e ⟨rfl, rfl⟩ hd
    rw [List.getElem?_map] at hd
    cases hx : xs[n]? with
    | none => rw [hx] at hd; cases hd
    | some x =>
      rw [hx] at hd; cases hd
      have hm := hs x (List.mem_of_getElem? hx)
      have tk : xs.take (n + 1) = xs.take n ++ [x] := by rw [List.take_add_one, hx]; rfl
      refine rp_imp hm (fun _ e1 h => rp_imp h (fun b e2 h => ?_) fun _ _ _ z => z.elim) fun _ _ _ z => z.elim
      cases b with
      | false => exact ⟨by rw [tk, List.filter_append]; simp [h.1], h.2⟩
      | true =>
        have h1 : p x = true := h.1
        exact rp_imp h.2 (fun y e3 h => ⟨by rw [tk, List.filter_append]; simp [h1, h.1], h.2⟩) fun _ _ _ z => z.elim
  · rintro acc e ⟨rfl, rfl⟩
    rw [List.length_map, List.take_length]; exact to_tr hN
theorem cut_some (ns : List Int) (lo hi : Option Int) : ∃ ms : List Int, cutD (ns.map PyData.int) lo hi = ms.map PyData.int ∧ ms.length ≤ ns.length := by
  refine ⟨_, cutd_map, ?_⟩
  rw [List.length_take, List.length_drop]; omega
theorem rp_sortu {P : SD Ω → Env Ω → Prop} {a : Env Ω → Res Ω D} : RP (oSortU a env) P X = RP (a env) (fun d e => atO (ints1 [d]) fun ns => ns.length < 64 ∧ P (.lst ((sortU ns).map PyData.int)) e) X := by
  unfold oSortU; rw [rp_bind]; refine rp_cg fun d e => ?_
  cases ints1 [d] with
  | none => with_unfolding_all rfl
  | some ns =>
    rw [atO_some]
    show RP (if ns.length < 64 then Res.ok _ e else .bad) P X = _
    rw [rp_ite]
theorem intsOf_map : ∀ ns : List Int, intsOf (ns.map PyData.int) = some ns
  | [] => rfl
  | n :: ns => by rw [List.map_cons, intsOf, intsOf_map ns]; rfl
theorem ints1_l {ns : List Int} : ints1 [.list (ns.map PyData.int)] = some ns := intsOf_map ns
theorem rp_bor {i : Nat} {a : Env Ω → Res Ω D} : RP (eBor i a env) P X = atO (slotL i env) fun l => RP (a ((env.map valS).set i (some (.val (.list l))))) (fun d _ => flatD d = true ∧ P d env) noX := by
  unfold eBor
  cases slotL i env with
  | none => with_unfolding_all rfl
  | some l =>
    rw [atO_some]; dsimp only
    cases a ((env.map valS).set i (some (.val (.list l)))) with
    | ok d e2 =>
      rw [rp_ok]; dsimp only
      by_cases f : flatD d = true
      · rw [if_pos f, rp_ok]; exact propext ⟨fun q => ⟨f, q⟩, fun q => q.2⟩
      · rw [if_neg f, rp_bad]; exact propext ⟨fun q => q.elim, fun q => f q.1⟩
    | err c p e2 => with_unfolding_all rfl
    | bad => with_unfolding_all rfl
theorem boolsOf_map {α : Type} (p : α → Bool) : ∀ xs : List α, boolsOf (xs.map fun x => .bool (p x)) = some (xs.map p)
  | [] => rfl
  | x :: xs => by rw [List.map_cons, boolsOf, boolsOf_map p xs]; rfl
theorem any_map {α : Type} (p : α → Bool) (xs : List α) : dAny [.list (xs.map fun x => .bool (p x))] = some (.bool (xs.any p)) := by
  show Option.map _ (boolsOf _) = _
  rw [boolsOf_map, Option.map_some, List.any_map]; rfl
theorem all_map {α : Type} (p : α → Bool) (xs : List α) : dAll [.list (xs.map fun x => .bool (p x))] = some (.bool (xs.all p)) := by
  show Option.map _ (boolsOf _) = _
  rw [boolsOf_map, Option.map_some, List.all_map]; rfl
theorem flt_all {α : Type} (xs : List α) : xs.filter (fun _ => true) = xs := List.filter_eq_self.mpr fun _ _ => rfl
theorem cutd_toN {l : List D} {n : Nat} : cutD l none (some (n : Int)) = l.take n := by
  unfold cutD
  rw [HT.sIx_none, HT.sIx_nat, List.drop_zero, Nat.sub_zero]
  by_cases h : n ≤ l.length
  · rw [Nat.min_eq_left h]
  · rw [Nat.min_eq_right (by omega), List.take_length, List.take_of_length_le (by omega)]
theorem cutd_fromN {l : List D} {n : Nat} : cutD l (some (n : Int)) none = l.drop n := by
  unfold cutD
  rw [HT.sIx_none, HT.sIx_nat]
  by_cases h : n ≤ l.length
  · rw [Nat.min_eq_left h, List.take_of_length_le (by rw [List.length_drop]; omega)]
  · rw [Nat.min_eq_right (by omega), List.drop_length, List.drop_of_length_le (by omega), List.take_nil]
theorem eqb_ii {a b c d : Int} : eqB (.tuple [.int a, .int b]) (.tuple [.int c, .int d]) = some (decide (a = c ∧ b = d)) := by
  rw [eqb_of (Sh.tup (n := 0) (by simpa using ⟨Sh.int, Sh.int⟩)).shaped (Sh.tup (n := 0) (by simpa using ⟨Sh.int, Sh.int⟩)).shaped]
  simp [PyData.eqv, PyData.eqvAll]
  rfl
/-- a statement by what it comes to -/
theorem fp_cut {f : Flow Ω} (I : Env Ω → Prop) (h : FP f I k) (hN : ∀ e, I e → Tr (N e)) : FP f N k := by
  cases f with
  | nx e => with_unfolding_all exact tr_of (hN e (by with_unfolding_all exact h))
  | bk e => with_unfolding_all exact h
  | ct e => with_unfolding_all exact h
  | rt r e => with_unfolding_all exact h
  | err c p e => with_unfolding_all exact h
  | bad => with_unfolding_all exact h
end
/-! #### calls where nothing is hidden -/
section
variable {X : EK Empty} {env : Env Empty}
theorem rp_callO {P : RV Empty → Env Empty → Prop} {l : List Bool} {n : Nat} {m : List (SD Empty) → RetM Empty} {a : Env Empty → Res Empty (List AD)} : RP (eCallO l n m a env) P X = RP (a env) (fun ads e1 => atO (resAs e1 ads) fun args => args.length = n ∧ okA e1 l ads [] = true ∧ RM (m args) (fun r outs => P r (wb l ads (padE n outs) e1)) (fun c p outs => X c p (wb l ads (padE n outs) e1))) X := by
  rw [rp_callG]; refine rp_cg fun ads e1 => ?_
  show atO (resAs e1 ads) _ = atO (resAs e1 ads) _
  cases resAs e1 ads with
  | none => rw [atO_none, atO_none]
  | some args => rw [atO_some, atO_some]; exact propext ⟨fun q => ⟨q.1, q.2.1, q.2.2.2⟩, fun q => ⟨q.1, q.2.1, rfl, q.2.2⟩⟩
theorem rp_go {P : RV Empty → Env Empty → Prop} {l : List Bool} {n : Nat} {m : List (SD Empty) → RetM Empty} {ads : List AD} {e1 : Env Empty} : RP (goCall l n m ads e1) P X = atO (resAs e1 ads) fun args => args.length = n ∧ okA e1 l ads [] = true ∧ RM (m args) (fun r outs => P r (wb l ads (padE n outs) e1)) (fun c p outs => X c p (wb l ads (padE n outs) e1)) := by
  rw [rp_goG]
  show atO (resAs e1 ads) _ = atO (resAs e1 ads) _
  cases resAs e1 ads with
  | none => rw [atO_none, atO_none]
  | some args => rw [atO_some, atO_some]; exact propext ⟨fun q => ⟨q.1, q.2.1, q.2.2.2⟩, fun q => ⟨q.1, q.2.1, rfl, q.2.2⟩⟩
end
end Ve

set_option Elab.async false
set_option linter.all false
set_option maxRecDepth 100000
set_option maxHeartbeats 4000000
/-! The plain side, further. -/
namespace Ve
open PySem PySem.Spec PyProof.Rows L2 Evl Ny
section
variable {Ω : Type}
variable {α β : Type} {Q : β → Env Ω → Prop} {X : EK Ω} {env : Env Ω} {N : Env Ω → Prop} {k : FK Ω} {P : D → Env Ω → Prop}
theorem tup_l {l : List D} : dTuple [.list l] = some (.tuple l) := rfl
theorem tup_t {l : List D} : dTuple [.tuple l] = some (.tuple l) := rfl
theorem mt_clr {l : List D} : mClear l [] = some (.none, []) := rfl
theorem dsum_l {ns : List Int} : dSum [.list (ns.map PyData.int)] = some (.int ns.sum) := by
  show Option.map _ (intsOf _) = _
  rw [intsOf_map]; rfl
theorem atI_lst {α : Type} (l : List α) : atI l (-1) = l.getLast? := by
  cases l with
  | nil => rfl
  | cons a l => rw [atI_m1, List.getLast?_eq_getElem?]; rfl
theorem cutd_last {l : List D} : cutD l (some (-1)) none = l.drop (l.length - 1) := by
  unfold cutD
  rw [HT.sIx_none]
  have e : HT.sIx l.length 0 (some (-1)) = l.length - 1 := by
    show (if (-1 : Int) < 0 then ((-1 : Int) + (l.length : Int)).toNat else min (-1 : Int).toNat l.length) = _
    rw [if_pos (by omega)]; omega
  rw [e, List.take_of_length_le (by rw [List.length_drop]; omega)]
/-! #### texts -/
theorem rp_m0 {f : D → List D → Option D} {a : Env Ω → Res Ω D} : RP (eM0 f a env) P X = RP (a env) (fun x e1 => isStr x = true ∧ atO (f x []) fun z => P z e1) X := by
  unfold eM0; rw [rp_bind]; refine rp_cg fun x e1 => ?_
  by_cases h : isStr x = true
  · rw [if_pos h]
    refine Eq.trans ?_ (propext ⟨fun q => ⟨h, q⟩, fun q => q.2⟩)
    cases f x [] <;> with_unfolding_all rfl
  · rw [if_neg h, rp_bad]; exact propext ⟨fun q => q.elim, fun q => h q.1⟩
theorem rp_m1 {f : D → List D → Option D} {a b : Env Ω → Res Ω D} : RP (eM1 f a b env) P X = RP (a env) (fun x e1 => isStr x = true ∧ RP (b e1) (fun y e2 => atO (f x [y]) fun z => P z e2) X) X := by
  unfold eM1; rw [rp_bind]; refine rp_cg fun x e1 => ?_
  by_cases h : isStr x = true
  · rw [if_pos h]
    refine Eq.trans ?_ (propext ⟨fun q => ⟨h, q⟩, fun q => q.2⟩)
    rw [rp_bind]; refine rp_cg fun y e2 => ?_
    cases f x [y] <;> with_unfolding_all rfl
  · rw [if_neg h, rp_bad]; exact propext ⟨fun q => q.elim, fun q => h q.1⟩
theorem rp_disp1 {P : SD Ω → Env Ω → Prop} {a b : Env Ω → Option D} : RP (oDisp1 a b env) P X = atO (a env) fun k => atO (b env) fun v => (keyD k).isSome = true ∧ P (.dct [(k, v)]) env := by
  unfold oDisp1
  cases a env with
  | none => with_unfolding_all rfl
  | some k =>
    cases b env with
    | none => with_unfolding_all rfl
    | some v =>
      rw [atO_some, atO_some]
      show RP (if _ then _ else _) P X = _
      rw [rp_ite]
theorem rp_rgl {P : SD Ω → Env Ω → Prop} {a : Env Ω → Res Ω D} : RP (oRg a env) P X = RP (a env) (fun d e => atO (asI d) fun n => (0 ≤ n ∧ n ≤ 1000000) ∧ P (.lst (rngD 0 n.toNat)) e) X := by
  unfold oRg; rw [rp_bind]; refine rp_cg fun d e => ?_
  cases d <;> first | (with_unfolding_all rfl; done) | skip
  rename_i n
  rw [as_i, atO_some]
  show RP (if _ then _ else _) P X = _
  rw [rp_ite]
  unfold rngD
  congr 3
  refine List.map_congr_left fun i _ => ?_
  rw [Int.zero_add]
theorem rp_extend {i : Nat} {a : Env Ω → Res Ω (SD Ω)} : RP (eExtend i a env) P X = ((slotL i env).isSome = true ∧ RP (a env) (fun sd e => atO (lstOf sd) fun k => atO (slotL i e) fun l => l.length + k.length ≤ 1000000 ∧ P .none (e.set i (some (.lst (l ++ k))))) X) := by
  unfold eExtend
  by_cases h : (slotL i env).isSome = true
  · rw [if_pos h]
    refine Eq.trans ?_ (propext ⟨fun q => ⟨h, q⟩, fun q => q.2⟩)
    rw [rp_bind]; refine rp_cg fun sd e => ?_
    cases sd <;> first | (with_unfolding_all rfl; done) | skip
    rename_i kk
    rw [lst_of, atO_some]
    cases slotL i e with
    | none => with_unfolding_all rfl
    | some l =>
      rw [atO_some]
      show RP (if _ then _ else _) P X = _
      rw [rp_ite]
  · rw [if_neg h, rp_bad]; exact propext ⟨fun q => q.elim, fun q => h q.1⟩
theorem isstr_s {x : Str} : isStr (.str x) = true := rfl
theorem part_s {a b : Str} : dPart (.str a) [.str b] = if (b.length == 0) = false ∧ a.length ≤ 1000000 then some (.tuple [.str (Txt.partition a b).1, .str (Txt.partition a b).2.1, .str (Txt.partition a b).2.2]) else none := rfl
theorem split_s {a b : Str} : dSplit (.str a) [.str b] = if (b.length == 0) = false ∧ a.length ≤ 1000000 then some (.list ((Txt.split a b).map PyData.str)) else none := rfl
theorem join_l {a : Str} {ys : List Str} : dJoin (.str a) [.list (ys.map PyData.str)] = if (ys.map (·.length)).sum + ys.length * a.length ≤ 16777216 then some (.str (Txt.join a ys)) else none := by
  show dJoinL a _ = _
  unfold dJoinL; rw [strsOf_map]
theorem strip_s {a b : Str} : dStripC (.str a) [.str b] = if a.length ≤ 1000000 then some (.str (Txt.stripChars a b)) else none := rfl
theorem starts_s {a b : Str} : dStarts (.str a) [.str b] = some (.bool (Txt.startswith a b)) := rfl
theorem upper_s {a : Str} : dUpper (.str a) [] = if a.length ≤ 1000000 then some (.str (Txt.upper a)) else none := rfl
theorem str_i {i : Int} : dStr [.int i] = if i.natAbs < 10 ^ 200 then some (.str (Str.ofString (toString i))) else none := rfl
theorem muls_s {a : Str} {n : Int} : dMulS (.str a) (.int n) = if 0 ≤ n ∧ n ≤ 100000 ∧ a.length ≤ 10 then some (.str (repS a n.toNat)) else none := rfl
theorem keyd_i {i : Int} : keyD (.int i) = some (.inl i) := rfl
theorem keyd_s {x : Str} : keyD (.str x) = some (.inr x) := rfl
theorem adv_e {i : Nat} : adV i env = (match env[i]? with | some (some (.val d)) => some d | _ => none) := rfl
theorem adc_e {d : D} : adC d env = some d := rfl
theorem isl_s {z : Str} {lo hi : Option Int} : dSl (.str z) lo hi = if z.length ≤ sizeLine then some (.str (cutS z lo hi)) else none := rfl
theorem dix_s {z : Str} {i : Int} : dIx (.str z) (.int i) = if z.length ≤ sizeLine then (atI z.cps.toList i).map fun c => .str ⟨#[c]⟩ else none := rfl
theorem sl16 : sizeLine = 16777216 := sizeLine_eq
theorem atO_ixA {α : Type} {l : List α} {i : Int} {P : α → Prop} (h0 : 0 ≤ i) (h1 : i < l.length) (h : ∀ x ∈ l, P x) : atO (atI l i) P := by
  unfold atI ixN
  rw [if_pos h0, if_pos h1]
  have e : l[i.toNat]? = some l[i.toNat] := List.getElem?_eq_getElem (by omega)
  with_unfolding_all show atO (l[i.toNat]?) P
  rw [e]; with_unfolding_all exact h _ (List.getElem_mem _)
theorem sep1 : ((Str.ofString " ").length == 0) = false := by decide +kernel
theorem sep2 : ((Str.ofString ",").length == 0) = false := by decide +kernel
theorem sep3 : ((Str.ofString ";").length == 0) = false := by decide +kernel
theorem sep4 : ((Str.ofString ".").length == 0) = false := by decide +kernel
theorem sep5 : ((Str.ofString ":").length == 0) = false := by decide +kernel
theorem sep6 : ((Str.ofString "=").length == 0) = false := by decide +kernel
theorem sep7 : ((Str.ofString "@").length == 0) = false := by decide +kernel
theorem len_one {c : Nat} : (⟨#[c]⟩ : Str).length = 1 := rfl
theorem part_len {a b : Str} : (Txt.partition a b).2.2.length ≤ a.length := by
  rcases PyProof.Rows.partition_whole a b with ⟨e, _⟩ | ⟨i, e, _, _⟩
  · rw [e]; exact Nat.zero_le _
  · rw [e]
    dsimp only
    rw [TL.len_tl, TL.tl_strSub_end, List.length_drop, TL.len_tl a]; omega
theorem rep_len {a : Str} {n : Nat} : (repS a n).length = n * a.length := size_rep0 _ _
theorem tl_num {n : Nat} : TL.tl (Str.ofString (toString ((n : Nat) : Int))) = TL.numL n := TL.tl_num n
theorem num_len {n : Nat} (h : n < 10 ^ 20) : (Str.ofString (toString ((n : Nat) : Int))).length ≤ 20 := by
  rw [TL.len_tl, TL.tl_num]; exact TL.numL_len (by decide) h
theorem num_inj {m n : Nat} (h : Str.ofString (toString ((m : Nat) : Int)) = Str.ofString (toString ((n : Nat) : Int))) : m = n := by
  have e := congrArg TL.tl h
  rw [TL.tl_num, TL.tl_num] at e
  exact TL.numL_inj e
theorem tl_sp : TL.tl (Str.ofString " ") = [32] := by decide +kernel
theorem cut_len {z : Str} {lo hi : Option Int} : (cutS z lo hi).length ≤ z.length := cutS_length z lo hi
theorem cutS_to {z : Str} {n : Nat} : TL.tl (cutS z none (some (n : Int))) = (TL.tl z).take n := by
  show ((z.cps.toList.drop _).take _) = z.cps.toList.take n
  rw [HT.sIx_none, HT.sIx_nat, List.drop_zero, Nat.sub_zero]
  have e : z.length = z.cps.toList.length := TL.len_tl z
  by_cases h : n ≤ z.length
  · rw [Nat.min_eq_left h]
  · rw [Nat.min_eq_right (by omega), e, List.take_length, List.take_of_length_le (by omega)]
theorem join_len {a : Str} : ∀ {ys : List Str}, (Txt.join a ys).length ≤ (ys.map (·.length)).sum + ys.length * a.length := by
  intro ys
  rw [TL.join_eq]
  induction ys with
  | nil => exact Nat.zero_le _
  | cons x r ih =>
    cases r with
    | nil =>
      show x.length ≤ _
      simp
    | cons z r =>
      show (x ++ a ++ Str.join a (z :: r)).length ≤ _
      rw [Str.length_append, Str.length_append, List.map_cons, List.sum_cons, List.length_cons, Nat.add_mul]
      omega
end
end Ve

set_option Elab.async false
set_option linter.all false
set_option maxRecDepth 100000
set_option maxHeartbeats 4000000
/-! The plain side of heap mode. -/
namespace Ve
open PySem PySem.Spec PyProof.Rows L2 Evl Ny
/-! ### pure data -/
theorem pu_n : pureD .none = true := by simp [pureD]
theorem pu_i {i : Int} : pureD (.int i) = true := by simp [pureD]
theorem pu_b {b : Bool} : pureD (.bool b) = true := by simp [pureD]
theorem pu_s {s : Str} : pureD (.str s) = true := by simp [pureD]
theorem pu_l {l : List D} : pureD (.list l) = pureDs l := by simp [pureD]
theorem pu_t {l : List D} : pureD (.tuple l) = pureDs l := by simp [pureD]
theorem pus_nil : pureDs [] = true := by simp [pureDs]
theorem pus_cons {d : D} {l : List D} : pureDs (d :: l) = (pureD d && pureDs l) := by simp [pureDs]
theorem pus_app {a b : List D} : pureDs (a ++ b) = (pureDs a && pureDs b) := by rw [pureDs_all, pureDs_all, pureDs_all, List.all_append]
theorem pus_map {α : Type} {xs : List α} {f : α → D} (h : ∀ x ∈ xs, pureD (f x) = true) : pureDs (xs.map f) = true := by
  rw [pureDs_all, List.all_map, List.all_eq_true]; exact h
theorem pus_ints {ns : List Int} : pureDs (ns.map PyData.int) = true := pus_map fun _ _ => pu_i
theorem pu_intsD {ns : List Int} : pureD (.list (ns.map PyData.int)) = true := by rw [pu_l]; exact pus_ints
/-! ### reading through names -/
theorem deepD_pure {M : Hm} {k : Nat} {d : D} (h : pureD d = true) : deepD M k d = some d := by
  cases k <;> unfold deepD <;> rw [if_pos h]
theorem mapO_cons {f : D → Option D} {d x : D} {ds xs : List D} (h : f d = some x) (h2 : mapO f ds = some xs) : mapO f (d :: ds) = some (x :: xs) := by
  unfold mapO; rw [h, h2]
theorem mapO_nil {f : D → Option D} : mapO f [] = some [] := rfl
theorem mapO_map {α : Type} {f : D → Option D} {g h : α → D} : ∀ {xs : List α}, (∀ x ∈ xs, f (g x) = some (h x)) → mapO f (xs.map g) = some (xs.map h)
  | [], _ => rfl
  | x :: xs, q => mapO_cons (q x List.mem_cons_self) (mapO_map fun y hy => q y (List.mem_cons_of_mem _ hy))
theorem mapO_pure {M : Hm} {k : Nat} : ∀ {ds : List D}, pureDs ds = true → mapO (deepD M k) ds = some ds
  | [], _ => rfl
  | d :: ds, h => by
    rw [pus_cons, Bool.and_eq_true] at h
    exact mapO_cons (deepD_pure h.1) (mapO_pure h.2)
theorem deepD_tup {M : Hm} {k : Nat} {ds ds' : List D} (h : mapO (deepD M k) ds = some ds') : deepD M (k + 1) (.tuple ds) = some (.tuple ds') := by
  by_cases hp : pureD (.tuple ds) = true
  · rw [deepD_pure hp]
    rw [pu_t] at hp
    rw [mapO_pure hp] at h; cases h; rfl
  · unfold deepD; rw [if_neg hp]
    show (mapO (deepD M k) ds).map PyData.tuple = _
    rw [h]; rfl
theorem deepD_list {M : Hm} {k : Nat} {ds ds' : List D} (h : mapO (deepD M k) ds = some ds') : deepD M (k + 1) (.list ds) = some (.list ds') := by
  by_cases hp : pureD (.list ds) = true
  · rw [deepD_pure hp]
    rw [pu_l] at hp
    rw [mapO_pure hp] at h; cases h; rfl
  · unfold deepD; rw [if_neg hp]
    show (mapO (deepD M k) ds).map PyData.list = _
    rw [h]; rfl
def cellC (M : Hm) (n : Nat) : Option (List D) := match M.c[n]? with
  | some (.lst l) => some l
  | _ => none
theorem deepD_ref {M : Hm} {k n : Nat} {ds ds' : List D} (hc : cellC M n = some ds) (h : mapO (deepD M k) ds = some ds') : deepD M (k + 1) (refD n) = some (.list ds') := by
  unfold deepD
  rw [if_neg (by simp [refD, pureD, refOf]), refOf_ref]
  unfold cellC at hc
  split at hc
  · rename_i l hl
    cases hc
    dsimp only
    rw [hl]
    show (mapO (deepD M k) ds).map PyData.list = _
    rw [h]; rfl
  · cases hc
def lendV (M : Hm) (d : D) : Option (SD Empty) := (deepD M 9 d).map .val
def lendW (M : Hm) (l : List D) : Option (SD Empty) := (mapO (deepD M 9) l).map fun l => .val (.list l)
def lendX (M : Hm) (es : List (D × D)) : Option (SD Empty) := lendS M (.dct es)
theorem lendV_pure {M : Hm} {d : D} (h : pureD d = true) : lendV M d = some (.val d) := by unfold lendV; rw [deepD_pure h]; rfl
theorem lendW_pure {M : Hm} {l : List D} (h : pureDs l = true) : lendW M l = some (.val (.list l)) := by unfold lendW; rw [mapO_pure h]; rfl
theorem lendV_of {M : Hm} {d d' : D} (h : deepD M 9 d = some d') : lendV M d = some (.val d') := by unfold lendV; rw [h]; rfl
theorem lendW_of {M : Hm} {l l' : List D} (h : mapO (deepD M 9) l = some l') : lendW M l = some (.val (.list l')) := by unfold lendW; rw [h]; rfl
def lendL (M : Hm) (es : Env Hm) : Env Empty := es.map fun x => x.bind (lendS M)
section
variable {M : Hm} {es : Env Hm} {d : D} {l : List D} {ds : List (D × D)}
theorem lendE_cons {x : Option (SD Hm)} : lendE M (x :: es) = lendL M es := rfl
theorem lendL_nil : lendL M [] = [] := rfl
theorem lendL_none : lendL M (none :: es) = none :: lendL M es := rfl
theorem lendL_val : lendL M (some (.val d) :: es) = lendV M d :: lendL M es := rfl
theorem lendL_lst : lendL M (some (.lst l) :: es) = lendW M l :: lendL M es := rfl
theorem lendL_dct : lendL M (some (.dct ds) :: es) = lendX M ds :: lendL M es := rfl
theorem flatO_n : flatO .none = some .none := rfl
theorem flatO_b {b : Bool} : flatO (.bool b) = some (.bool b) := rfl
theorem flatO_i {i : Int} : flatO (.int i) = some (.int i) := rfl
theorem flatO_s {s : Str} : flatO (.str s) = some (.str s) := rfl
end
/-! ### data mode within heap mode -/
def dnL (es : Env Hm) : Env Empty := es.map fun x => x.bind dnS
def upL (es : Env Empty) : Env Hm := es.map fun x => x.map upS
section
variable {es : Env Hm} {e : Env Empty} {d : D} {l : List D} {ds : List (D × D)} {x : Option (SD Hm)} {y : Option (SD Empty)} {fl : List Bool}
theorem dnE_cons : dnE (x :: es) = dnL es := rfl
theorem dnL_nil : dnL [] = [] := rfl
theorem dnL_none : dnL (none :: es) = none :: dnL es := rfl
theorem dnL_val : dnL (some (.val d) :: es) = some (.val d) :: dnL es := rfl
theorem dnL_lst : dnL (some (.lst l) :: es) = some (.lst l) :: dnL es := rfl
theorem dnL_dct : dnL (some (.dct ds) :: es) = some (.dct ds) :: dnL es := rfl
theorem upE_cons : upE (x :: es) e = x :: upL e := rfl
theorem upL_nil : upL [] = [] := rfl
theorem upL_none : upL (none :: e) = none :: upL e := rfl
theorem upL_val : upL (some (.val d) :: e) = some (.val d) :: upL e := rfl
theorem upL_lst : upL (some (.lst l) :: e) = some (.lst l) :: upL e := rfl
theorem upL_dct : upL (some (.dct ds) :: e) = some (.dct ds) :: upL e := rfl
theorem upS_val : upS (.val d) = .val d := rfl
theorem upS_lst : upS (.lst l) = .lst l := rfl
theorem upS_dct : upS (.dct ds) = .dct ds := rfl
theorem upR_val : upR (.val d) = .val d := rfl
theorem upR_own {s : SD Empty} : upR (.own s) = .own (upS s) := rfl
theorem lok_nil : lowOk fl [] = true := by cases fl <;> rfl
theorem lok_n : lowOk [] (y :: e) = (valO y && lowOk [] e) := rfl
theorem lok_t : lowOk (true :: fl) (y :: e) = (valO y && lowOk fl e) := by simp [lowOk]
theorem lok_f : lowOk (false :: fl) (y :: e) = lowOk fl e := by simp [lowOk]
theorem valO_none : valO none = true := rfl
theorem valO_val : valO (some (.val d)) = true := rfl
end
section
variable {es : Env Hm} {x : Option (SD Hm)} {l : List Bool} {X : EK Hm} {M : Hm}
theorem rp_lowM {α β : Type} {f : α → β} {a : Env Empty → Res Empty α} {P : β → Env Hm → Prop} : RP (lowM l f a (x :: es)) P X = (lowOk l (dnE (x :: es)) = true ∧ RP (a (dnE (x :: es))) (fun d e => P (f d) (upE (x :: es) e)) (fun c p e => X c p (upE (x :: es) e))) := by
  unfold lowM
  by_cases h : lowOk l (dnE (x :: es)) = true
  · rw [if_pos h]
    cases a (dnE (x :: es)) <;> with_unfolding_all exact propext ⟨fun q => ⟨h, q⟩, fun q => q.2⟩
  · rw [if_neg h]; with_unfolding_all exact propext ⟨fun q => q.elim, fun q => h q.1⟩
theorem rp_low {a : Env Empty → Res Empty D} {P : D → Env Hm → Prop} : RP (eLow l a (x :: es)) P X = (lowOk l (dnE (x :: es)) = true ∧ RP (a (dnE (x :: es))) (fun d e => P d (upE (x :: es) e)) (fun c p e => X c p (upE (x :: es) e))) := rp_lowM
theorem rp_lowT {a : Env Empty → Res Empty Bool} {P : Bool → Env Hm → Prop} : RP (tLowM l a (x :: es)) P X = (lowOk l (dnE (x :: es)) = true ∧ RP (a (dnE (x :: es))) (fun d e => P d (upE (x :: es) e)) (fun c p e => X c p (upE (x :: es) e))) := rp_lowM
theorem rp_lowL {a : Env Empty → Res Empty (List D)} {P : List D → Env Hm → Prop} : RP (lLow l a (x :: es)) P X = (lowOk l (dnE (x :: es)) = true ∧ RP (a (dnE (x :: es))) (fun d e => P d (upE (x :: es) e)) (fun c p e => X c p (upE (x :: es) e))) := rp_lowM
theorem rp_lowO {a : Env Empty → Res Empty (SD Empty)} {P : SD Hm → Env Hm → Prop} : RP (oLow l a (x :: es)) P X = (lowOk l (dnE (x :: es)) = true ∧ RP (a (dnE (x :: es))) (fun d e => P (upS d) (upE (x :: es) e)) (fun c p e => X c p (upE (x :: es) e))) := rp_lowM
theorem fp_low {m : Env Empty → Flow Empty} {N : Env Hm → Prop} {k : FK Hm} : FP (bLow l m (x :: es)) N k = (lowOk l (dnE (x :: es)) = true ∧ FP (m (dnE (x :: es))) (fun e => N (upE (x :: es) e)) ⟨fun e => k.bk (upE (x :: es) e), fun e => k.ct (upE (x :: es) e), fun r e => k.rt (upR r) (upE (x :: es) e), fun c p e => k.er c p (upE (x :: es) e)⟩) := by
  unfold bLow
  by_cases h : lowOk l (dnE (x :: es)) = true
  · rw [if_pos h]
    cases m (dnE (x :: es)) <;> with_unfolding_all exact propext ⟨fun q => ⟨h, q⟩, fun q => q.2⟩
  · rw [if_neg h]; with_unfolding_all exact propext ⟨fun q => q.elim, fun q => h q.1⟩
theorem atO_andN {α : Type} {o : Option α} {P : α → Prop} {y : α} (h : o = some y) : atO o P = P y := by rw [h, atO_some]
theorem rp_lendM {α β : Type} {f : α → Option β} {a : Env Empty → Res Empty α} {P : β → Env Hm → Prop} : RP (lendM f a (some (.ob M) :: es)) P X = RP (a (lendE M (some (.ob M) :: es))) (fun d _ => atO (f d) fun y => P y (some (.ob M) :: es)) (fun c p _ => p = none ∧ X c p (some (.ob M) :: es)) := by
  show RP (match a (lendE M (some (.ob M) :: es)) with
    | .ok x _ => (match f x with
      | some y => .ok y (some (.ob M) :: es)
      | none => .bad)
    | .err c none _ => .err c none (some (.ob M) :: es)
    | _ => .bad) P X = _
  cases a (lendE M (some (.ob M) :: es)) with
  | ok d e =>
    rw [rp_ok]
    dsimp only
    cases f d with
    | none => rw [atO_none]; with_unfolding_all rfl
    | some y => rw [atO_some]; with_unfolding_all rfl
  | err c p e =>
    cases p with
    | none => with_unfolding_all exact propext ⟨fun q => ⟨rfl, q⟩, fun q => q.2⟩
    | some p => with_unfolding_all exact propext ⟨fun q => q.elim, fun q => by cases q.1⟩
  | bad => with_unfolding_all rfl
theorem rp_lend {a : Env Empty → Res Empty D} {P : D → Env Hm → Prop} : RP (eLend a (some (.ob M) :: es)) P X = RP (a (lendE M (some (.ob M) :: es))) (fun d _ => atO (flatO d) fun y => P y (some (.ob M) :: es)) (fun c p _ => p = none ∧ X c p (some (.ob M) :: es)) := rp_lendM
theorem rp_lendT {a : Env Empty → Res Empty Bool} {P : Bool → Env Hm → Prop} : RP (tLendM a (some (.ob M) :: es)) P X = RP (a (lendE M (some (.ob M) :: es))) (fun d _ => P d (some (.ob M) :: es)) (fun c p _ => p = none ∧ X c p (some (.ob M) :: es)) := by
  unfold tLendM; rw [rp_lendM]; refine rp_cg fun d e => ?_; rw [atO_some]
theorem rp_lendO {a : Env Empty → Res Empty (SD Empty)} {P : SD Hm → Env Hm → Prop} : RP (oLend a (some (.ob M) :: es)) P X = RP (a (lendE M (some (.ob M) :: es))) (fun d _ => atO (flatL d) fun y => P y (some (.ob M) :: es)) (fun c p _ => p = none ∧ X c p (some (.ob M) :: es)) := rp_lendM
theorem fp_lendD {a : Env Empty → Res Empty D} {N : Env Hm → Prop} {k : FK Hm} : FP (bLendD a (some (.ob M) :: es)) N k = RP (a (lendE M (some (.ob M) :: es))) (fun _ _ => N (some (.ob M) :: es)) (fun c p _ => p = none ∧ k.er c p (some (.ob M) :: es)) := by
  unfold bLendD; rw [fp_fl, rp_lendM]; refine rp_cg fun d e => ?_; rw [atO_some, fp_nx]
theorem hmOf_cons : hmOf (some (.ob M) :: es) = some M := rfl
theorem rp_nm {j : Nat} {P : D → Env Hm → Prop} : RP (eNm (j + 1) (some (.ob M) :: es)) P X = atO (slotL j es) fun l => P (refD M.c.length) (some (.ob ⟨M.c ++ [.lst l]⟩) :: es.set j none) := by
  have e : slotL (j + 1) (some (SD.ob M) :: es) = slotL j es := by unfold slotL; rw [List.getElem?_cons_succ]
  unfold eNm; rw [hmOf_cons, e]
  cases slotL j es with
  | none => rw [atO_none]; with_unfolding_all rfl
  | some l => rw [atO_some]; with_unfolding_all rfl
theorem rp_nmo {o : Env Hm → Res Hm (SD Hm)} {env : Env Hm} {P : D → Env Hm → Prop} : RP (eNmO o env) P X = RP (o env) (fun sd e => atO (cellS sd) fun c => atO (hmOf e) fun M => P (refD M.c.length) (e.set 0 (some (.ob ⟨M.c ++ [c]⟩)))) X := by
  unfold eNmO; rw [rp_bind]; refine rp_cg fun sd e => ?_
  cases cellS sd with
  | none => rw [atO_none]; with_unfolding_all rfl
  | some c =>
    rw [atO_some]
    cases hmOf e with
    | none => rw [atO_none]; with_unfolding_all rfl
    | some M => rw [atO_some]; with_unfolding_all rfl
theorem cellS_lst {l : List D} : cellS (.lst l) = some (.lst l) := rfl
theorem cellS_dct {l : List (D × D)} : cellS (.dct l) = some (.dct l) := rfl
theorem cellL_cons {n : Nat} : cellL n (some (.ob M) :: es) = cellC M n := rfl
def setC (M : Hm) (n : Nat) (c : Cell) : Hm := ⟨M.c.set n c⟩
theorem putC_cons {n : Nat} {c : Cell} : putC n c (some (.ob M) :: es) = some (.ob (setC M n c)) :: es := rfl
theorem rp_mtR {f : List D → List D → Option (D × List D)} {a : Env Hm → Res Hm D} {m : Env Hm → Res Hm (List D)} {env : Env Hm} {P : D → Env Hm → Prop} : RP (eMtR f a m env) P X = RP (a env) (fun d e1 => atO (refOf d) fun n => (cellL n e1).isSome = true ∧ RP (m e1) (fun ds e2 => atO ((cellL n e2).bind fun l => f l ds) fun zl => P zl.1 (putC n (.lst zl.2) e2)) X) X := by
  unfold eMtR; rw [rp_bind]; refine rp_cg fun d e => ?_
  cases refOf d with
  | none => rw [atO_none]; with_unfolding_all rfl
  | some n =>
    rw [atO_some]
    dsimp only
    by_cases h : (cellL n e).isSome = true
    · rw [if_pos h, rp_bind]
      refine propext ⟨fun q => ⟨h, ?_⟩, fun q => ?_⟩
      · refine rp_imp q (fun ds e2 q => ?_) fun _ _ _ q => q
        cases e3 : (cellL n e2).bind fun l => f l ds with
        | none => rw [e3] at q; with_unfolding_all exact q.elim
        | some zl => rw [e3] at q; rw [atO_some]; with_unfolding_all exact q
      · refine rp_imp q.2 (fun ds e2 q => ?_) fun _ _ _ q => q
        cases e3 : (cellL n e2).bind fun l => f l ds with
        | none => rw [e3, atO_none] at q; exact q.elim
        | some zl => rw [e3, atO_some] at q; with_unfolding_all exact q
    · rw [if_neg h]; with_unfolding_all exact propext ⟨fun q => q.elim, fun q => h q.1⟩
theorem refOf_r {n : Nat} : refOf (refD n) = some n := rfl
theorem fp_forR {a : Env Hm → Res Hm D} {g : D → Env Hm → Res Hm Unit} {body : Env Hm → Flow Hm} {env : Env Hm} {N : Env Hm → Prop} {k : FK Hm} : FP (bForR a g body env) N k = RP (a env) (fun d e => atO (refOf d) fun n => FP (loopR g body n 2000 0 e) N k) k.er := by
  unfold bForR; rw [fp_fl]; refine rp_cg fun d e => ?_
  cases refOf d with
  | none => rw [atO_none]; with_unfolding_all rfl
  | some n => rw [atO_some]
theorem fp_loopR {g : D → Env Hm → Res Hm Unit} {body : Env Hm → Flow Hm} {n : Nat} {env : Env Hm} {N : Env Hm → Prop} {k : FK Hm} (I : Nat → Env Hm → Prop) (h0 : I 0 env) (hb : ∀ i e, I i e → i < 2000)
    (hs : ∀ i e, I i e → ∃ l, cellL n e = some l ∧ (l.length ≤ i → Tr (N e)) ∧ ∀ d, l[i]? = some d → Tr (RP (g d e) (fun _ e1 => FP (body e1) (fun e2 => I (i + 1) e2) ⟨N, fun e2 => I (i + 1) e2, k.rt, k.er⟩) k.er)) : FP (loopR g body n 2000 0 env) N k := by
  have H : ∀ (fu i : Nat) (e : Env Hm), I i e → fu + i = 2000 → FP (loopR g body n fu i e) N k := by
    intro fu
    induction fu with
    | zero => intro i e hI hl; have := hb i e hI; omega
    | succ fu ih =>
      intro i e hI hl
      obtain ⟨l, h1, h2, h3⟩ := hs i e hI
      show FP (match cellL n e with
        | none => .bad
        | some l => match l[i]? with
          | none => .nx e
          | some d => (g d e).fl fun _ e => match body e with
            | .nx e2 => loopR g body n fu (i + 1) e2
            | .ct e2 => loopR g body n fu (i + 1) e2
            | .bk e2 => .nx e2
            | f => f) N k
      rw [h1]
      dsimp only
      cases hd : l[i]? with
      | none =>
        dsimp only
        rw [fp_nx]
        have := h2 (List.getElem?_eq_none_iff.mp hd)
        rwa [tr_e] at this
      | some d =>
        dsimp only
        rw [fp_fl]
        have q := h3 d hd
        rw [tr_e] at q
        refine rp_imp q (fun _ e1 q => ?_) fun _ _ _ q => q
        cases hbd : body e1 with
        | nx e2 => rw [hbd] at q; exact ih (i + 1) e2 (by with_unfolding_all exact q) (by omega)
        | ct e2 => rw [hbd] at q; exact ih (i + 1) e2 (by with_unfolding_all exact q) (by omega)
        | bk e2 => rw [hbd] at q; with_unfolding_all exact q
        | rt r e2 => rw [hbd] at q; with_unfolding_all exact q
        | err c p e2 => rw [hbd] at q; with_unfolding_all exact q
        | bad => rw [hbd] at q; with_unfolding_all exact q
  exact H 2000 0 env h0 rfl
theorem cellC_some {n : Nat} {l : List D} (h : cellC M n = some l) : M.c[n]? = some (.lst l) := by
  unfold cellC at h
  split at h
  · rename_i q; cases h; exact q
  · cases h
theorem cellC_same {n : Nat} {l l' : List D} (h : cellC M n = some l) : cellC (setC M n (.lst l')) n = some l' := by
  have := (List.getElem?_eq_some_iff.mp (cellC_some h)).1
  unfold cellC setC; dsimp only
  rw [List.getElem?_set_self this]
theorem cellC_ne {n j : Nat} {c : Cell} (h : j ≠ n) : cellC (setC M n c) j = cellC M j := by
  unfold cellC setC; dsimp only
  rw [List.getElem?_set_ne (Ne.symm h)]
theorem cellC_l {cs : List Cell} {n : Nat} {l : List D} (h : cs[n]? = some (.lst l)) : cellC ⟨cs⟩ n = some l := by
  unfold cellC; show (match cs[n]? with | some (.lst l) => some l | _ => none) = _
  rw [h]
theorem deepInts {M : Hm} {k : Nat} {ns : List Int} : mapO (deepD M k) (ns.map PyData.int) = some (ns.map PyData.int) := mapO_pure pus_ints
/-! #### calls in heap mode -/
theorem rp_callHO {env : Env Hm} {P : RV Hm → Env Hm → Prop} {n : Nat} {m : List (SD Hm) → RetM Hm} {a : Env Hm → Res Hm (List AD)} : RP (eCallO (false :: l) n m a env) P X = RP (a env) (fun ads e1 => atO (resAs e1 (.slot 0 :: ads)) fun args => args.length = n ∧ okA e1 (false :: l) (.slot 0 :: ads) [] = true ∧ RM (m args) (fun r outs => P r (wb (false :: l) (.slot 0 :: ads) (padE n outs) e1)) (fun c p outs => X c p (wb (false :: l) (.slot 0 :: ads) (padE n outs) e1))) X := by
  rw [rp_callG]; refine rp_cg fun ads e1 => ?_
  show atO (resAs e1 (.slot 0 :: ads)) _ = atO (resAs e1 (.slot 0 :: ads)) _
  cases resAs e1 (.slot 0 :: ads) with
  | none => rw [atO_none, atO_none]
  | some args => rw [atO_some, atO_some]; exact propext ⟨fun q => ⟨q.1, q.2.1, q.2.2.2⟩, fun q => ⟨q.1, q.2.1, rfl, q.2.2⟩⟩
end
/-! ### a heap of a def's own -/
theorem atO_bindP {α β : Type} {o : Option α} {f : α → Option β} {P : β → Prop} : atO (o.bind f) P = atO o (fun a => atO (f a) P) := by
  cases o with
  | none => rw [atO_none]; exact atO_none
  | some a => rw [atO_some]; rfl
theorem rm_hm {m : List (SD Hm) → RetM Hm} {args : List (SD Empty)} {Q : RV Empty → Env Empty → Prop} {X : EK Empty} : RM (hmM m args) Q X = atO (pureAs args) fun as => RM (m (.ob ⟨[]⟩ :: as)) (fun r outs => atO (pureR r) fun r' => Q r' (pureO outs)) (fun c p outs => p = none ∧ X c p (pureO outs)) := by
  unfold hmM
  cases pureAs args with
  | none => rw [atO_none]; exact rm_bad
  | some as =>
    rw [atO_some]
    dsimp only
    cases m (.ob ⟨[]⟩ :: as) with
    | bad => exact rm_bad.trans rm_bad.symm
    | err c p outs =>
      rw [rm_err]
      cases p with
      | none => dsimp only; rw [rm_err]; exact propext ⟨fun q => ⟨rfl, q⟩, fun q => q.2⟩
      | some p => dsimp only; rw [rm_bad]; exact propext ⟨fun q => q.elim, fun q => by cases q.1⟩
    | ok r outs =>
      rw [rm_ok]
      dsimp only
      cases pureR r with
      | none => rw [atO_none]; exact rm_bad
      | some r' => rw [atO_some]; exact rm_ok
def pureL (es : Env Hm) : Env Empty := es.map fun x => x.bind pureT
section
variable {d : D} {l : List D} {es : Env Hm} {as : List (SD Empty)} {x : Option (SD Hm)}
theorem pua_nil : pureAs [] = some [] := rfl
theorem pua_val (h : pureD d = true) : pureAs (.val d :: as) = (pureAs as).map fun r => .val d :: r := by
  show (match pureS (.val d), pureAs as with | some x, some xs => some (x :: xs) | _, _ => none) = _
  rw [show pureS (.val d) = some (.val d) from if_pos h]; cases pureAs as <;> rfl
theorem pua_lst (h : pureDs l = true) : pureAs (.lst l :: as) = (pureAs as).map fun r => .lst l :: r := by
  show (match pureS (.lst l), pureAs as with | some x, some xs => some (x :: xs) | _, _ => none) = _
  rw [show pureS (.lst l) = some (.lst l) from if_pos h]; cases pureAs as <;> rfl
theorem pur_val (h : pureD d = true) : pureR (.val d) = some (.val d) := if_pos h
theorem pur_lst (h : pureDs l = true) : pureR (.own (.lst l)) = some (.own (.lst l)) := by
  show (pureT (.lst l)).map _ = _
  rw [show pureT (.lst l) = some (.lst l) from if_pos h]; rfl
theorem puo_cons : pureO (x :: es) = pureL es := rfl
theorem puo_nil : pureO [] = [] := rfl
theorem puL_nil : pureL [] = [] := rfl
theorem puL_none : pureL (none :: es) = none :: pureL es := rfl
theorem puL_val (h : pureD d = true) : pureL (some (.val d) :: es) = some (.val d) :: pureL es := by
  show (pureT (.val d)) :: pureL es = _
  rw [show pureT (.val d) = some (.val d) from if_pos h]
theorem puL_lst (h : pureDs l = true) : pureL (some (.lst l) :: es) = some (.lst l) :: pureL es := by
  show (pureT (.lst l)) :: pureL es = _
  rw [show pureT (.lst l) = some (.lst l) from if_pos h]
end
end Ve

set_option Elab.async false
set_option linter.all false
set_option maxRecDepth 100000
set_option maxHeartbeats 4000000
/-! The plain side: dicts, texts further. -/
namespace Ve
open PySem PySem.Spec PyProof.Rows L2 Evl Ny
section
variable {Ω : Type} {α β : Type} {Q : β → Env Ω → Prop} {X : EK Ω} {env : Env Ω} {N : Env Ω → Prop} {k : FK Ω} {P : D → Env Ω → Prop}
theorem fp_putD {i : Nat} {v b : Env Ω → Res Ω D} : FP (bPutD i v b env) N k = RP (v env) (fun d e1 => (slotE i e1).isSome = true ∧ RP (b e1) (fun kk e2 => atO ((slotE i e2).bind fun l => setE l kk d) fun l => N (e2.set i (some (.dct l)))) k.er) k.er := by
  unfold bPutD; rw [fp_fl]; refine rp_cg fun c e => ?_
  by_cases h : (slotE i e).isSome = true
  · rw [if_pos h, fp_fl]
    refine Eq.trans ?_ (propext ⟨fun q => ⟨h, q⟩, fun q => q.2⟩)
    refine rp_cg fun kk e2 => ?_
    cases (slotE i e2).bind fun l => setE l kk c with
    | none => rw [atO_none]; with_unfolding_all rfl
    | some l => rw [atO_some]; with_unfolding_all rfl
  · rw [if_neg h]; with_unfolding_all exact propext ⟨fun q => q.elim, fun q => h q.1⟩
theorem rp_clearD {i : Nat} : RP (eClearD i env) P X = ((slotE i env).isSome = true ∧ P .none (env.set i (some (.dct [])))) := by unfold eClearD; rw [rp_ite]
theorem fp_frzK {i : Nat} {m : Env Ω → Flow Ω} : FP (bFrzK i m env) N k = atO (slotE i env) fun es => FP (m (env.set i (some (.val (.dict es))))) N k := by
  unfold bFrzK
  cases slotE i env with
  | none => rw [atO_none]; with_unfolding_all rfl
  | some es => rw [atO_some]
theorem rp_frzK {a : Env Ω → Res Ω (SD Ω)} : RP (eFrzK a env) P X = RP (a env) (fun sd e1 => atO (slotE 0 [some sd]) fun es => P (.dict es) e1) X := by
  unfold eFrzK; rw [rp_bind]; refine rp_cg fun sd e1 => ?_
  cases sd <;> first | (rw [show slotE 0 [some (SD.dct _)] = some _ from rfl, atO_some]; with_unfolding_all rfl; done) | skip
  all_goals (show _ = atO none _; rw [atO_none]; with_unfolding_all rfl)
theorem rp_dictM {P : SD Ω → Env Ω → Prop} {a : Env Ω → Res Ω (List D)} : RP (oDictM a env) P X = RP (a env) (fun ds e => atO (dictM ds) fun es => P (.dct es) e) X := by
  unfold oDictM; rw [rp_bind]; refine rp_cg fun ds e => ?_; cases dictM ds <;> with_unfolding_all rfl
theorem rp_inv {neg : Bool} {a : Env Ω → Res Ω D} {i : Nat} : RP (eInV neg a i env) P X = RP (a env) (fun x e => atO ((slotD i e).bind fun d => inB x d) fun kk => P (.bool (if neg then !kk else kk)) e) X := by
  unfold eInV; rw [rp_bind]; refine rp_cg fun x e => ?_
  cases (slotD i e).bind fun d => inB x d <;> with_unfolding_all rfl
theorem rp_ik {P : List D → Env Ω → Prop} {a : Env Ω → Res Ω D} : RP (iK a env) P X = RP (a env) (fun d e => atO (asE d) fun es => P (es.map (·.1)) e) X := by
  unfold iK; rw [rp_bind]; refine rp_cg fun d e => ?_; cases asE d <;> with_unfolding_all rfl
theorem rp_revL {a : Env Ω → Res Ω D} : RP (eRevL a env) P X = RP (a env) (fun d e => atO (asL d) fun l => P (.list l.reverse) e) X := by
  unfold eRevL; rw [rp_bind]; refine rp_cg fun d e => ?_; cases asL d <;> with_unfolding_all rfl
theorem rp_borD {i : Nat} {a : Env Ω → Res Ω D} : RP (eBorD i a env) P X = atO (slotE i env) fun es => RP (a ((env.map valS).set i (some (.val (.dict es))))) (fun d _ => noD d = true ∧ P d env) noX := by
  unfold eBorD
  cases slotE i env with
  | none => rw [atO_none]; with_unfolding_all rfl
  | some es =>
    rw [atO_some]
    dsimp only
    cases a ((env.map valS).set i (some (.val (.dict es)))) with
    | ok d e =>
      rw [rp_ok]
      show RP (if noD d = true then Res.ok d env else Res.bad) P X = _
      by_cases h : noD d = true
      · rw [if_pos h]; with_unfolding_all exact propext ⟨fun q => ⟨h, q⟩, fun q => q.2⟩
      · rw [if_neg h]; with_unfolding_all exact propext ⟨fun q => q.elim, fun q => h q.1⟩
    | err c p e => with_unfolding_all rfl
    | bad => with_unfolding_all rfl
/-! caught exceptions -/
theorem fp_errE {c : Str} {p : Option D} : FP (.err c p env) N k = k.er c p env := by with_unfolding_all rfl
theorem fp_tryO {tab : ETab} {C : Str} {m s : Env Ω → Flow Ω} : FP (bTryO tab C m s env) N k = FP (m env) N ⟨k.bk, k.ct, k.rt, fun c p e => p = none ∧ atO (tabE tab c C) fun b => if b = true then FP (s e) N ⟨k.bk, k.ct, k.rt, noX⟩ else k.er c none e⟩ := by
  unfold bTryO
  cases m env with
  | nx e => with_unfolding_all rfl
  | bk e => with_unfolding_all rfl
  | ct e => with_unfolding_all rfl
  | rt r e => with_unfolding_all rfl
  | bad => with_unfolding_all rfl
  | err c p e =>
    cases p with
    | some d =>
      rw [fp_errE]
      show _ = (some d = none ∧ _)
      rw [show (some d = none) = False from eq_false (fun z => by cases z), false_and]
      with_unfolding_all rfl
    | none =>
      rw [fp_errE]
      show _ = ((none : Option D) = none ∧ _)
      rw [show ((none : Option D) = none) = True from eq_true rfl, true_and]
      show FP (match tabE tab c C with
        | some true => calmS (s e)
        | some false => .err c none e
        | none => .bad) N k = _
      cases tabE tab c C with
      | none => rw [atO_none]; with_unfolding_all rfl
      | some b =>
        rw [atO_some]
        cases b with
        | false => with_unfolding_all rfl
        | true =>
          rw [if_pos rfl]
          show FP (calmS (s e)) N k = _
          cases s e <;> with_unfolding_all rfl
theorem fp_tryA {tab : ETab} {C : Str} {i : Nat} {m : Env Ω → Flow Ω} {s : Str → Env Ω → Flow Ω} : FP (bTryA tab C i m s env) N k = FP (m env) N ⟨k.bk, k.ct, k.rt, fun c p e => p = none ∧ atO (tabE tab c C) fun b => if b = true then i < e.length ∧ FP (s c (e.set i none)) (fun e => N (e.set i none)) ⟨fun e => k.bk (e.set i none), fun e => k.ct (e.set i none), k.rt, noX⟩ else k.er c none e⟩ := by
  unfold bTryA
  cases m env with
  | nx e => with_unfolding_all rfl
  | bk e => with_unfolding_all rfl
  | ct e => with_unfolding_all rfl
  | rt r e => with_unfolding_all rfl
  | bad => with_unfolding_all rfl
  | err c p e =>
    cases p with
    | some d =>
      rw [fp_errE]
      show _ = (some d = none ∧ _)
      rw [show (some d = none) = False from eq_false (fun z => by cases z), false_and]
      with_unfolding_all rfl
    | none =>
      rw [fp_errE]
      show _ = ((none : Option D) = none ∧ _)
      rw [show ((none : Option D) = none) = True from eq_true rfl, true_and]
      show FP (match tabE tab c C with
        | some true => if i < e.length then unS i (s c (e.set i none)) else .bad
        | some false => .err c none e
        | none => .bad) N k = _
      cases tabE tab c C with
      | none => rw [atO_none]; with_unfolding_all rfl
      | some b =>
        rw [atO_some]
        cases b with
        | false => with_unfolding_all rfl
        | true =>
          rw [if_pos rfl]
          show FP (if i < e.length then unS i (s c (e.set i none)) else .bad) N k = _
          by_cases hi : i < e.length
          · rw [if_pos hi, show (i < e.length) = True from eq_true hi, true_and]
            cases s c (e.set i none) <;> with_unfolding_all rfl
          · rw [if_neg hi, show (i < e.length) = False from eq_false hi, false_and]
            with_unfolding_all rfl
theorem rp_isE {tab : ETab} {c C : Str} : RP (eIsE tab c C env) P X = atO (tabE tab c C) fun b => P (.bool b) env := by
  unfold eIsE
  cases tabE tab c C with
  | none => rw [atO_none]; with_unfolding_all rfl
  | some b => rw [atO_some]; with_unfolding_all rfl
/-- a dict with written keys, none a named thing -/
theorem dix_d {es : List (D × D)} {y : D} (h : refOf (.dict es) = none) : dIx (.dict es) y = (keyD y).bind fun k => lookE es k := by
  cases y <;> exact if_pos h
theorem len_d {es : List (D × D)} (h : refOf (.dict es) = none) : dLen [.dict es] = some (.int es.length) := if_pos h
theorem as_e {es : List (D × D)} (h : refOf (.dict es) = none) : asE (.dict es) = some es := if_pos h
theorem inb_d {x : D} {es : List (D × D)} (h : refOf (.dict es) = none) : inB x (.dict es) = (keyD x).map fun k => (lookE es k).isSome := by
  cases x <;> exact if_pos h
theorem nr_dd {es : List (D × D)} (h : refOf (.dict es) = none) : noRef (.dict es) = true := by unfold noRef; rw [h]; rfl
theorem str_s {x : Str} : dStr [.str x] = some (.str x) := rfl
theorem str_n : dStr [.none] = some (.str "None") := rfl
theorem tr_dd {es : List (D × D)} (h : refOf (.dict es) = none) : truD (.dict es) = some (!es.isEmpty) := by unfold truD; dsimp only; rw [h]
end
section
variable {es : Env Hm} {X : EK Hm} {M : Hm}
theorem rp_lendK {j : Nat} {a : Env Empty → Res Empty D} {P : D → Env Hm → Prop} : RP (eLendK j a (some (.ob M) :: es)) P X = atO (slotE j es) fun ds => atO (mapO (deepD M 9) (ds.map (·.2))) fun vs =>
    RP (a ((lendE M (some (.ob M) :: es)).set j (some (.val (.dict (zipE ds vs)))))) (fun d _ => flatD d = true ∧ P d (some (.ob M) :: es)) noX := by
  have e : slotE (j + 1) (some (SD.ob M) :: es) = slotE j es := by unfold slotE; rw [List.getElem?_cons_succ]
  unfold eLendK; rw [hmOf_cons, e]
  cases slotE j es with
  | none => rw [atO_none]; with_unfolding_all rfl
  | some ds =>
    rw [atO_some]
    dsimp only
    cases mapO (deepD M 9) (ds.map (·.2)) with
    | none => rw [atO_none]; with_unfolding_all rfl
    | some vs =>
      rw [atO_some]
      dsimp only
      cases a ((lendE M (some (.ob M) :: es)).set j (some (.val (.dict (zipE ds vs))))) with
      | ok d e =>
        rw [rp_ok]
        show RP (if flatD d = true then Res.ok d (some (SD.ob M) :: es) else Res.bad) P X = _
        by_cases h : flatD d = true
        · rw [if_pos h]; with_unfolding_all exact propext ⟨fun q => ⟨h, q⟩, fun q => q.2⟩
        · rw [if_neg h]; with_unfolding_all exact propext ⟨fun q => q.elim, fun q => h q.1⟩
      | err c p e => with_unfolding_all rfl
      | bad => with_unfolding_all rfl
end
/-! ### texts -/
def okS (x : Str) : Prop := ∀ c ∈ TL.tl x, c < 1114112
theorem okS_app {x y : Str} (hx : okS x) (hy : okS y) : okS (x ++ y) := fun c hc => by
  rw [TL.tl_append] at hc
  exact (List.mem_append.mp hc).elim (hx c) (hy c)
theorem okS_lit (s : String) : okS (Str.ofString s) := fun c hc => by
  rw [TL.tl_ofString] at hc
  obtain ⟨ch, _, rfl⟩ := List.mem_map.mp hc
  have := ch.valid
  rcases this with h | h
  · have : ch.toNat < 0xd800 := h; omega
  · have : ch.toNat < 0x110000 := h.2; omega
theorem okS_join {a : Str} (ha : okS a) : ∀ {ys : List Str}, (∀ y ∈ ys, okS y) → okS (Txt.join a ys) := by
  intro ys
  rw [TL.join_eq]
  induction ys with
  | nil => intro _ c hc; cases hc
  | cons y r ih =>
    intro h
    cases r with
    | nil => exact h y List.mem_cons_self
    | cons z r =>
      show okS (y ++ a ++ Str.join a (z :: r))
      exact okS_app (okS_app (h y List.mem_cons_self) ha) (ih fun w hw => h w (List.mem_cons_of_mem _ hw))
theorem strOk_of {x : Str} (h : okS x) : (PyData.str x).canLay0 = true := by
  show x.cps.all (· < 0x110000) = true
  rw [Array.all_eq_true']
  intro c hc
  simpa using h c (by simpa [TL.tl] using hc)
theorem sh_str {x : Str} {n : Nat} (h : okS x) : Sh n (.str x) := Sh.str (strOk_of h)
/-- a number as a text -/
abbrev nT (i : Int) : Str := Str.ofString (toString i)
theorem ofS_len (s : String) : (Str.ofString s).length = s.toList.length := by rw [TL.len_tl, TL.tl_ofString, List.length_map]
theorem nT_len {i : Int} (h : i.natAbs < 10 ^ 61) : (nT i).length ≤ 62 := by
  cases i with
  | ofNat n =>
    have e : (nT (Int.ofNat n)).length = (TL.numL n).length := by rw [TL.len_tl]; exact congrArg List.length (TL.tl_num n)
    rw [e]
    exact Nat.le_trans (TL.numL_len (k := 61) (by decide) h) (by decide)
  | negSucc n =>
    have e : (nT (Int.negSucc n)).length = 1 + (TL.numL (n + 1)).length := by
      rw [ofS_len]
      show ("-" ++ toString (n + 1)).toList.length = _
      have e2 : (TL.numL (n + 1)).length = (toString (n + 1)).toList.length := by
        rw [← ofS_len, TL.len_tl]; exact (congrArg List.length (TL.tl_num (n + 1))).symm
      rw [e2, String.toList_append, List.length_append]; rfl
    rw [e]
    have : (TL.numL (n + 1)).length ≤ 61 := TL.numL_len (k := 61) (by decide) h
    omega
theorem nT_ok (i : Int) : okS (nT i) := okS_lit _
theorem sum_le {ys : List Str} {B : Nat} (h : ∀ y ∈ ys, y.length ≤ B) : (ys.map (·.length)).sum ≤ ys.length * B := by
  induction ys with
  | nil => simp
  | cons y r ih =>
    have h1 := h y List.mem_cons_self
    have h2 := ih fun z hz => h z (List.mem_cons_of_mem _ hz)
    rw [List.map_cons, List.sum_cons, List.length_cons, Nat.add_mul]; omega
theorem join_le {a : Str} {ys : List Str} {B : Nat} (h : ∀ y ∈ ys, y.length ≤ B) : (Txt.join a ys).length ≤ ys.length * (B + a.length) := by
  have h1 := join_len (a := a) (ys := ys)
  have h2 := sum_le h
  rw [Nat.mul_add]; omega
/-- words with a sign between, a line where there is none -/
def lineT (ys : List Str) (a : Str) : Str := if ys = [] then Str.ofString "-" else Txt.join a ys
theorem map_str_nil {ys : List Str} : (ys.map PyData.str).isEmpty = decide (ys = []) := by cases ys <;> rfl
section
variable {Ω : Type} {α β : Type} {Q : β → Env Ω → Prop} {X : EK Ω} {env : Env Ω}
/-- a comprehension, item by item -/
theorem rp_lcMap {α : Type} {P : List D → Env Ω → Prop} {g : D → Env Ω → Res Ω Unit} {t : Env Ω → Res Ω Bool} {el : Env Ω → Res Ω D} {vs : List Nat} {xs : List α} (f r : α → D)
    (hs : ∀ x ∈ xs, RP (g (f x) env) (fun _ e1 => RP (t e1) (fun b e2 => b = true ∧ RP (el e2) (fun y e3 => y = r x ∧ wipeE vs e3 = env) noX) noX) noX)
    (hN : P (xs.map r) (wipeE vs env)) : RP (lcM g t el vs (xs.map f) [] env) P X := by
  refine rp_lcInv (fun n acc e => acc = (xs.take n).map r ∧ e = env) ⟨by simp, rfl⟩ ?_ ?_
  · rintro n d acc e ⟨rfl, rfl⟩ hd
    rw [List.getElem?_map] at hd
    obtain ⟨x, hx, rfl⟩ := Option.map_eq_some_iff.mp hd
    refine rp_imp (hs x (List.mem_of_getElem? hx)) (fun _ e1 h => rp_imp h (fun b e2 h => ?_) fun _ _ _ z => z) fun _ _ _ z => z
    rw [if_pos h.1]
    refine rp_imp h.2 (fun y e3 h => ?_) fun _ _ _ z => z
    obtain ⟨rfl, h2⟩ := h
    exact ⟨by rw [List.take_add_one, hx, List.map_append]; rfl, h2⟩
  · rintro acc e ⟨rfl, rfl⟩
    rw [List.length_map, List.take_length]
    exact to_tr hN
end
end Ve

set_option Elab.async false
set_option linter.all false
set_option maxRecDepth 100000
set_option maxHeartbeats 4000000
/-! The plain side of object mode. -/
namespace Ve
open PySem PySem.Spec PyProof.Rows L2 Evl Ny
/-! ### cells -/
/-- a base of named things, and those behind it -/
def hx (b cs : List Cell) : Hm := ⟨b ++ cs⟩
def cellH (M : Hm) (n : Nat) : Option Cell := M.c[n]?
def cellA (e : Env Hm) (n : Nat) : Option Cell := (hmOf e).bind fun M => cellH M n
def lenH (M : Hm) : Nat := M.c.length
def appH (M : Hm) (c : Cell) : Hm := ⟨M.c ++ [c]⟩
theorem hx_nil {b : List Cell} : hx b [] = ⟨b⟩ := by unfold hx; rw [List.append_nil]
theorem hx_of {M : Hm} : M = hx M.c [] := by rw [hx_nil]
theorem len_hx {b cs : List Cell} : lenH (hx b cs) = b.length + cs.length := by unfold lenH hx; rw [List.length_append]
theorem clen_hx {b cs : List Cell} : (hx b cs).c.length = b.length + cs.length := len_hx
theorem app_hx {b cs : List Cell} {c : Cell} : appH (hx b cs) c = hx b (cs ++ [c]) := by unfold appH hx; rw [List.append_assoc]
theorem app_app {M : Hm} {c : Cell} : (⟨M.c ++ [c]⟩ : Hm) = appH M c := rfl
theorem cell_hx {b cs : List Cell} {k : Nat} : cellH (hx b cs) (b.length + k) = cs[k]? := by
  unfold cellH hx; show (b ++ cs)[b.length + k]? = _
  rw [List.getElem?_append_right (Nat.le_add_right _ _), Nat.add_sub_cancel_left]
theorem cell_hx0 {b cs : List Cell} : cellH (hx b cs) b.length = cs[0]? := cell_hx (k := 0)
theorem cell_old {b cs : List Cell} {n : Nat} (h : n < b.length) : cellH (hx b cs) n = b[n]? := by
  unfold cellH hx; show (b ++ cs)[n]? = _
  rw [List.getElem?_append_left h]
theorem set_hx {b cs : List Cell} {k : Nat} {c : Cell} : setC (hx b cs) (b.length + k) c = hx b (cs.set k c) := by
  unfold setC hx; congr 1; show (b ++ cs).set _ _ = _
  rw [List.set_append_right _ _ (Nat.le_add_right _ _), Nat.add_sub_cancel_left]
theorem set_hx0 {b cs : List Cell} {c : Cell} : setC (hx b cs) b.length c = hx b (cs.set 0 c) := set_hx (k := 0)
theorem set_old {b cs : List Cell} {n : Nat} {c : Cell} (h : n < b.length) : setC (hx b cs) n c = hx (b.set n c) cs := by
  unfold setC hx; congr 1; show (b ++ cs).set _ _ = _
  rw [List.set_append_left _ _ h]
theorem ap_last {cs : List Cell} {c : Cell} : (cs ++ [c])[cs.length]? = some c := by
  rw [List.getElem?_append_right (Nat.le_refl _), Nat.sub_self]; rfl
theorem eqb_l0 : eqB (.list []) (.list []) = some true := eqb_same (by decide +kernel)
theorem cellA_cons {M : Hm} {es : Env Hm} {n : Nat} : cellA (some (.ob M) :: es) n = cellH M n := rfl
theorem cell_same {M : Hm} {n : Nat} {c : Cell} (h : n < lenH M) : cellH (setC M n c) n = some c := by
  unfold cellH setC; exact List.getElem?_set_self h
theorem cell_ne {M : Hm} {n m : Nat} {c : Cell} (h : m ≠ n) : cellH (setC M n c) m = cellH M m := by
  unfold cellH setC; exact List.getElem?_set_ne (Ne.symm h)
theorem cell_app {M : Hm} {n : Nat} {c : Cell} (h : n < lenH M) : cellH (appH M c) n = cellH M n := by
  unfold cellH appH; exact List.getElem?_append_left h
theorem cell_appL {M : Hm} {c : Cell} : cellH (appH M c) (lenH M) = some c := by
  unfold cellH appH lenH; show (M.c ++ [c])[M.c.length]? = _
  rw [List.getElem?_append_right (Nat.le_refl _), Nat.sub_self]; rfl
theorem len_set {M : Hm} {n : Nat} {c : Cell} : lenH (setC M n c) = lenH M := by unfold lenH setC; rw [List.length_set]
theorem len_app {M : Hm} {c : Cell} : lenH (appH M c) = lenH M + 1 := by unfold lenH appH; rw [List.length_append]; rfl
theorem lt_of_cell {M : Hm} {n : Nat} {c : Cell} (h : cellH M n = some c) : n < lenH M := (List.getElem?_eq_some_iff.mp h).1
@[irreducible] def atOb (o : Option Cell) (P : Str → List (Str × D) → Prop) [Lk P P] : Prop := match o with
  | some (.obj c fs) => P c fs
  | _ => False
theorem atOb_o {c : Str} {fs : List (Str × D)} {P : Str → List (Str × D) → Prop} : atOb (some (.obj c fs)) P = P c fs := by with_unfolding_all rfl
@[irreducible] def atM2 {α β : Type} (o : Option (α × β)) (P : α → β → Prop) [Lk P P] : Prop := match o with
  | some (a, b) => P a b
  | none => False
theorem atM2_s {α β : Type} {a : α} {b : β} {P : α → β → Prop} : atM2 (some (a, b)) P = P a b := by with_unfolding_all rfl
theorem atOb_of {o : Option Cell} {c : Str} {fs : List (Str × D)} {P : Str → List (Str × D) → Prop} (h : o = some (.obj c fs)) (q : P c fs) : atOb o P := by rw [h, atOb_o]; exact q
/-- what a named list, dict holds -/
def lstC : Option Cell → Option (List D)
  | some (.lst l) => some l
  | _ => none
def dctC : Option Cell → Option (List (D × D))
  | some (.dct es) => some es
  | some (.fdct es) => some es
  | _ => none
def dctW : Option Cell → Option (List (D × D))
  | some (.dct es) => some es
  | _ => none
theorem lstC_l {l : List D} : lstC (some (.lst l)) = some l := rfl
theorem lstC_d {l : List (D × D)} : lstC (some (.dct l)) = none := rfl
theorem dctC_d {l : List (D × D)} : dctC (some (.dct l)) = some l := rfl
theorem dctC_l {l : List D} : dctC (some (.lst l)) = none := rfl
theorem dctW_l {l : List D} : dctW (some (.lst l)) = none := rfl
theorem dctC_o {c : Str} {fs : List (Str × D)} : dctC (some (.obj c fs)) = none := rfl
theorem lstC_o {c : Str} {fs : List (Str × D)} : lstC (some (.obj c fs)) = none := rfl
theorem dctW_d {l : List (D × D)} : dctW (some (.dct l)) = some l := rfl
theorem cellL_A {e : Env Hm} {n : Nat} : cellL n e = lstC (cellA e n) := by
  unfold cellL cellA
  cases hmOf e with
  | none => rfl
  | some M => unfold cellH; simp only [Option.bind_some]; unfold lstC; cases M.c[n]? with
    | none => rfl
    | some c => cases c <;> rfl
theorem cellC_H {M : Hm} {n : Nat} : cellC M n = lstC (cellH M n) := by
  unfold cellC cellH lstC; cases M.c[n]? with
  | none => rfl
  | some c => cases c <;> rfl
theorem cellD_A {e : Env Hm} {n : Nat} : cellD n e = dctC (cellA e n) := by
  unfold cellD cellA
  cases hmOf e with
  | none => rfl
  | some M => unfold cellH; simp only [Option.bind_some]; unfold dctC; cases M.c[n]? with
    | none => rfl
    | some c => cases c <;> rfl
theorem cellDw_A {e : Env Hm} {n : Nat} : cellDw n e = dctW (cellA e n) := by
  unfold cellDw cellA
  cases hmOf e with
  | none => rfl
  | some M => unfold cellH; simp only [Option.bind_some]; unfold dctW; cases M.c[n]? with
    | none => rfl
    | some c => cases c <;> rfl
/-! ### fields -/
theorem fget_n {f : Str} : fget f [] = none := rfl
theorem fget_c {f g : Str} {d : D} {r : List (Str × D)} : fget f ((g, d) :: r) = if f = g then some d else fget f r := by
  unfold fget; rw [List.lookup_cons]
  by_cases h : f = g
  · rw [if_pos h, beq_iff_eq.mpr h]
  · rw [if_neg h, beq_eq_false_iff_ne.mpr h]
theorem fput_n {f : Str} {d : D} : fput f d [] = [(f, d)] := rfl
theorem fput_c {f g : Str} {d x : D} {r : List (Str × D)} : fput f d ((g, x) :: r) = if g = f then (g, d) :: r else (g, x) :: fput f d r := rfl
theorem mLook_n {c : Str} : mLook [] c = none := rfl
theorem mLook_c {c c' : Str} {q : Nat × MFun} {t : MTab} : mLook ((c', q) :: t) c = if c' = c then some q else mLook t c := by
  unfold mLook; rw [List.find?_cons]
  by_cases h : c' = c
  · rw [if_pos h]; simp [h]
  · rw [if_neg h]; simp [h]
section
variable {α β : Type} {Q : β → Env Hm → Prop} {X : EK Hm} {env : Env Hm} {N : Env Hm → Prop} {k : FK Hm} {P : D → Env Hm → Prop} {M : Hm} {es : Env Hm}
theorem obD_cases (d : D) (e : Env Hm) : (refOf d = none ∧ obD d e = none) ∨ ∃ n, refOf d = some n ∧ ((∃ c fs, cellA e n = some (.obj c fs) ∧ obD d e = some (n, c, fs)) ∨ ((∀ c fs, cellA e n ≠ some (.obj c fs)) ∧ obD d e = none)) := by
  unfold obD cellOb cellA cellH
  cases refOf d with
  | none => exact .inl ⟨rfl, rfl⟩
  | some n =>
    refine .inr ⟨n, rfl, ?_⟩
    cases hmOf e with
    | none => exact .inr ⟨fun _ _ => nofun, rfl⟩
    | some M =>
      simp only [Option.bind_some]
      cases M.c[n]? with
      | none => exact .inr ⟨fun _ _ => nofun, rfl⟩
      | some c =>
        cases c with
        | obj c fs => exact .inl ⟨c, fs, rfl, rfl⟩
        | _ => exact .inr ⟨fun _ _ => nofun, rfl⟩
theorem atOb_no {o : Option Cell} {P : Str → List (Str × D) → Prop} (h : ∀ c fs, o ≠ some (.obj c fs)) : atOb o P = False := by
  cases o with
  | none => with_unfolding_all rfl
  | some c => cases c with
    | obj c fs => exact absurd rfl (h c fs)
    | _ => with_unfolding_all rfl
theorem rp_if_bad {γ : Type} {c : Prop} [Decidable c] {r : Res Hm γ} {P : γ → Env Hm → Prop} : RP (if c then r else .bad) P X = (c ∧ RP r P X) := by
  by_cases h : c
  · rw [if_pos h]; exact propext ⟨fun q => ⟨h, q⟩, fun q => q.2⟩
  · rw [if_neg h]; with_unfolding_all exact propext ⟨fun q => q.elim, fun q => h q.1⟩
theorem fp_if_bad {c : Prop} [Decidable c] {r : Flow Hm} : FP (if c then r else .bad) N k = (c ∧ FP r N k) := by
  by_cases h : c
  · rw [if_pos h]; exact propext ⟨fun q => ⟨h, q⟩, fun q => q.2⟩
  · rw [if_neg h]; with_unfolding_all exact propext ⟨fun q => q.elim, fun q => h q.1⟩
theorem atOb_cg {o : Option Cell} {P P' : Str → List (Str × D) → Prop} (h : ∀ c fs, P c fs = P' c fs) : atOb o P = atOb o P' := by
  have e : P = P' := funext fun a => funext fun b => h a b
  subst e; with_unfolding_all rfl
theorem atO_cg {γ : Type} {o : Option γ} {P P' : γ → Prop} (h : ∀ c, P c = P' c) : atO o P = atO o P' := by
  have e : P = P' := funext fun a => h a
  subst e; with_unfolding_all rfl
theorem rp_fld {ct : CTab} {f : Str} {a : Env Hm → Res Hm D} : RP (eFld ct f a env) P X = RP (a env) (fun d e => atO (refOf d) fun n => atOb (cellA e n) fun c fs => inTab ct c f = true ∧ atO (fget f fs) fun x => P x e) X := by
  unfold eFld; rw [rp_bind]; refine rp_cg fun d e => ?_
  rcases obD_cases d e with ⟨h1, h2⟩ | ⟨n, h1, ⟨c, fs, h2, h3⟩ | ⟨h2, h3⟩⟩
  · rw [h1, h2, atO_none]; with_unfolding_all rfl
  rotate_left
  · rw [h1, h3, atO_some, atOb_no h2]; with_unfolding_all rfl
  rw [h1, h3, atO_some, h2, atOb_o]; dsimp only
  rw [rp_if_bad]; congr 1
  cases fget f fs <;> with_unfolding_all rfl
theorem fp_fld {ct : CTab} {f : Str} {a v : Env Hm → Res Hm D} : FP (bFld ct f a v env) N k = RP (v env) (fun x e1 => RP (a e1) (fun d e => atO (refOf d) fun n => atOb (cellA e n) fun c fs => (inTab ct c f = true ∧ fs.length < 1000) ∧ N (putC n (.obj c (fput f x fs)) e)) k.er) k.er := by
  unfold bFld; rw [fp_fl]; refine rp_cg fun x e1 => ?_
  rw [fp_fl]; refine rp_cg fun d e => ?_
  unfold setF
  rcases obD_cases d e with ⟨h1, h2⟩ | ⟨n, h1, ⟨c, fs, h2, h3⟩ | ⟨h2, h3⟩⟩
  · rw [h1, h2, atO_none]; with_unfolding_all rfl
  rotate_left
  · rw [h1, h3, atO_some, atOb_no h2]; with_unfolding_all rfl
  rw [h1, h3, atO_some, h2, atOb_o]; dsimp only
  rw [fp_if_bad, fp_nx]
theorem fp_fldA {ct : CTab} {f : Str} {op : D → D → Option D} {a v : Env Hm → Res Hm D} : FP (bFldA ct op f a v env) N k = RP (a env) (fun d e1 => atO (refOf d) fun n => atOb (cellA e1 n) fun c fs => inTab ct c f = true ∧ atO (fget f fs) fun x => RP (v e1) (fun y e2 => atO (op x y) fun z => atO (refOf d) fun n => atOb (cellA e2 n) fun c' fs' => (c' = c ∧ fs'.length < 1000) ∧ N (putC n (.obj c' (fput f z fs')) e2)) k.er) k.er := by
  unfold bFldA; rw [fp_fl]; refine rp_cg fun d e1 => ?_
  rcases obD_cases d e1 with ⟨h1, h2⟩ | ⟨n, h1, ⟨c, fs, h2, h3⟩ | ⟨h2, h3⟩⟩
  · rw [h1, h2, atO_none]; with_unfolding_all rfl
  rotate_left
  · rw [h1, h3, atO_some, atOb_no h2]; with_unfolding_all rfl
  rw [h1, h3, atO_some, h2, atOb_o]; dsimp only
  rw [fp_if_bad]
  congr 1
  cases fget f fs with
  | none => with_unfolding_all rfl
  | some x =>
    rw [atO_some]; dsimp only
    rw [fp_fl]; refine rp_cg fun y e2 => ?_
    cases op x y with
    | none => with_unfolding_all rfl
    | some z =>
      rw [atO_some]; dsimp only
      rcases obD_cases d e2 with ⟨g1, g2⟩ | ⟨n', g1, ⟨c', fs', g2, g3⟩ | ⟨g2, g3⟩⟩
      · rw [g1] at h1; cases h1
      · rw [h1] at g1; cases g1; rw [g3, atO_some, g2, atOb_o]; dsimp only; rw [fp_if_bad, fp_nx]
      · rw [h1] at g1; cases g1; rw [g3, atO_some, atOb_no g2]; with_unfolding_all rfl
theorem inc_i {i j : Int} : dInc (.int i) (.int j) = some (.int (i + j)) := rfl
theorem inc_s {x y : Str} : dInc (.str x) (.str y) = if x.length + y.length ≤ sizeLine then some (.str (x ++ y)) else none := rfl
theorem dec_i {i j : Int} : dDec (.int i) (.int j) = some (.int (i - j)) := rfl
/-! ### calls -/
theorem rp_goH {P : RV Hm → Env Hm → Prop} {l : List Bool} {n : Nat} {m : MFun} {ads : List AD} {e1 : Env Hm} : RP (goCall (false :: l) n m ads e1) P X = atO (resAs e1 (.slot 0 :: ads)) fun args => args.length = n ∧ okA e1 (false :: l) (.slot 0 :: ads) [] = true ∧ RM (m args) (fun r outs => P r (wb (false :: l) (.slot 0 :: ads) (padE n outs) e1)) (fun c p outs => X c p (wb (false :: l) (.slot 0 :: ads) (padE n outs) e1)) := by
  rw [rp_goG]
  show atO (resAs e1 (.slot 0 :: ads)) _ = atO (resAs e1 (.slot 0 :: ads)) _
  cases resAs e1 (.slot 0 :: ads) with
  | none => rw [atO_none, atO_none]
  | some args => rw [atO_some, atO_some]; exact propext ⟨fun q => ⟨q.1, q.2.1, q.2.2.2⟩, fun q => ⟨q.1, q.2.1, rfl, q.2.2⟩⟩
theorem rp_new {c : Str} {n : Nat} {m : MFun} {a : Env Hm → Res Hm (List AD)} : RP (eNew c n m a env) P X = RP (a env) (fun ads e1 => atO (hmOf e1) fun M => RP (goCall [false] n m (.val (refD (lenH M)) :: ads) (e1.set 0 (some (.ob (appH M (.obj c [])))))) (fun rv e2 => rv = .val .none ∧ P (refD (lenH M)) e2) X) X := by
  unfold eNew; rw [rp_bind]; refine rp_cg fun ads e1 => ?_
  cases hmOf e1 with
  | none => with_unfolding_all rfl
  | some M =>
    rw [atO_some]
    show RP ((goCall _ _ _ _ _).bind _) P X = _
    rw [rp_bind]; refine rp_cg fun rv e2 => ?_
    cases rv with
    | own sd => with_unfolding_all exact propext ⟨fun q => q.elim, fun q => nomatch q.1⟩
    | val d =>
      cases d with
      | none => with_unfolding_all exact propext ⟨fun q => ⟨rfl, q⟩, fun q => q.2⟩
      | _ => with_unfolding_all exact propext ⟨fun q => q.elim, fun q => nomatch q.1⟩
theorem rp_meth {P : RV Hm → Env Hm → Prop} {mn : Str} {tab : MTab} {o : Env Hm → Res Hm D} {a : Env Hm → Res Hm (List AD)} : RP (eMethO mn tab o a env) P X = RP (o env) (fun d e1 => atO (refOf d) fun n => atOb (cellA e1 n) fun c fs => atM2 (mLook tab c) fun n' m => fget mn fs = none ∧ RP (a e1) (fun ads e2 => RP (goCall [false] n' m (.val d :: ads) e2) P X) X) X := by
  unfold eMethO; rw [rp_bind]; refine rp_cg fun d e1 => ?_
  rcases obD_cases d e1 with ⟨h1, h2⟩ | ⟨n, h1, ⟨c, fs, h2, h3⟩ | ⟨h2, h3⟩⟩
  · rw [h1, h2, atO_none]; with_unfolding_all rfl
  rotate_left
  · rw [h1, h3, atO_some, atOb_no h2]; with_unfolding_all rfl
  rw [h1, h3, atO_some, h2, atOb_o]; dsimp only
  cases mLook tab c with
  | none => with_unfolding_all rfl
  | some q =>
    obtain ⟨n', m⟩ := q
    rw [atM2_s]
    show RP (if fget mn fs = none then _ else .bad) P X = _
    rw [rp_if_bad, rp_bind]
theorem rp_methK {P : RV Hm → Env Hm → Prop} {mn : Str} {tab : MTab} {lay : List Src} {n1 n2 : Nat} {o : Env Hm → Res Hm D} {a b : Env Hm → Res Hm (List AD)} : RP (eMethKO mn tab lay n1 n2 o a b env) P X = RP (o env) (fun d e1 => atO (refOf d) fun n => atOb (cellA e1 n) fun c fs => atM2 (mLook tab c) fun n' m => fget mn fs = none ∧ RP (a e1) (fun as e2 => RP (b e2) (fun bs e3 => (as.length + 1 = n1 ∧ bs.length = n2) ∧ RP (goCall [false] n' m (layAD lay (.val d :: as) bs) e3) P X) X) X) X := by
  unfold eMethKO; rw [rp_bind]; refine rp_cg fun d e1 => ?_
  rcases obD_cases d e1 with ⟨h1, h2⟩ | ⟨n, h1, ⟨c, fs, h2, h3⟩ | ⟨h2, h3⟩⟩
  · rw [h1, h2, atO_none]; with_unfolding_all rfl
  rotate_left
  · rw [h1, h3, atO_some, atOb_no h2]; with_unfolding_all rfl
  rw [h1, h3, atO_some, h2, atOb_o]; dsimp only
  cases mLook tab c with
  | none => with_unfolding_all rfl
  | some q =>
    obtain ⟨n', m⟩ := q
    rw [atM2_s]
    show RP (if fget mn fs = none then _ else .bad) P X = _
    rw [rp_if_bad, rp_bind]
    congr 1
    refine rp_cg fun as e2 => ?_
    rw [rp_bind]; refine rp_cg fun bs e3 => ?_
    rw [rp_if_bad]
theorem rp_rvE {r : Env Hm → Res Hm (RV Hm)} : RP (rvE r env) P X = RP (r env) (fun rv e => atO (rvD rv) fun d => P d e) X := by
  unfold rvE; rw [rp_bind]; refine rp_cg fun rv e => ?_; cases rvD rv <;> with_unfolding_all rfl
theorem rp_rvO {r : Env Hm → Res Hm (RV Hm)} {P : SD Hm → Env Hm → Prop} : RP (rvOw r env) P X = RP (r env) (fun rv e => atO (rvO rv) fun d => P d e) X := by
  unfold rvOw; rw [rp_bind]; refine rp_cg fun rv e => ?_; cases rvO rv <;> with_unfolding_all rfl
theorem rp_unM {P : RV Hm → Env Hm → Prop} {l : List Bool} {n : Nat} {m : MFun} {a : Env Hm → Res Hm (List AD)} : RP (eUnM l n m a env) P X = RP (a env) (fun ads e => RP (goCall l n m ads e) P X) X := by unfold eUnM; rw [rp_bind]
def rvI : RV Hm → Option Int
  | .val (.int i) => some i
  | _ => none
theorem rvI_i {i : Int} : rvI (.val (.int i)) = some i := rfl
theorem rp_lenO {tab : MTab} {o : Env Hm → Res Hm D} : RP (eLenO tab o env) P X = RP (o env) (fun d e1 => atO (refOf d) fun n => atOb (cellA e1 n) fun c fs => atM2 (mLook tab c) fun n' m => RP (goCall [false] n' m [.val d] e1) (fun rv e2 => atO (rvI rv) fun i => (0 ≤ i ∧ i < 2 ^ 63) ∧ P (.int i) e2) X) X := by
  unfold eLenO; rw [rp_bind]; refine rp_cg fun d e1 => ?_
  rcases obD_cases d e1 with ⟨h1, h2⟩ | ⟨n, h1, ⟨c, fs, h2, h3⟩ | ⟨h2, h3⟩⟩
  · rw [h1, h2, atO_none]; with_unfolding_all rfl
  rotate_left
  · rw [h1, h3, atO_some, atOb_no h2]; with_unfolding_all rfl
  rw [h1, h3, atO_some, h2, atOb_o]; dsimp only
  cases mLook tab c with
  | none => with_unfolding_all rfl
  | some q =>
    obtain ⟨n', m⟩ := q
    rw [atM2_s]
    show RP ((goCall _ _ _ _ _).bind _) P X = _
    rw [rp_bind]; refine rp_cg fun rv e2 => ?_
    cases rv with
    | own sd => with_unfolding_all rfl
    | val d =>
      cases d with
      | int i =>
        show RP (if 0 ≤ i ∧ i < 2 ^ 63 then .ok (.int i) e2 else .bad) P X = _
        rw [rp_if_bad, rp_ok, rvI_i, atO_some]
      | _ => with_unfolding_all rfl
/-- a plain def called -/
def resR (cs : List (List D)) : RV Empty → Prop
  | .val z => resOk cs z = true
  | .own (.lst zs) => (zs.all fun z => resOk cs z) = true
  | _ => False
def upRv : RV Empty → RV Hm
  | .val z => .val z
  | .own (.lst zs) => .own (.lst zs)
  | _ => .val .none
def resX : Option D → Prop
  | none => True
  | some d => flatD d = true
theorem rp_goP {P : RV Hm → Env Hm → Prop} {l : List Bool} {n : Nat} {m : List (SD Empty) → RetM Empty} {ds : List D} {e1 : Env Hm} : RP (goP l n m ds e1) P X = atO (mapO (argP e1) ds) fun as => as.length = n ∧ RM (m (as.map .val)) (fun r _ => resR (opnd e1 ds) r ∧ P (upRv r) e1) (fun c p _ => resX p ∧ X c p e1) := by
  unfold goP
  cases mapO (argP e1) ds with
  | none => with_unfolding_all rfl
  | some as =>
    rw [atO_some]
    show RP (if as.length = n then _ else .bad) P X = _
    rw [rp_if_bad]
    congr 1
    cases m (as.map .val) with
    | bad => with_unfolding_all rfl
    | err c p o =>
      cases p with
      | none => rw [rm_err]; with_unfolding_all exact propext ⟨fun q => ⟨True.intro, q⟩, fun q => q.2⟩
      | some d => rw [rm_err]; show RP (if flatD d = true then _ else .bad) P X = _; rw [rp_if_bad, rp_err]; rfl
    | ok r o =>
      rw [rm_ok]
      cases r with
      | val z => show RP (if resOk _ z = true then _ else .bad) P X = _; rw [rp_if_bad, rp_ok]; rfl
      | own sd =>
        cases sd with
        | lst zs => show RP (if _ then _ else .bad) P X = _; rw [rp_if_bad, rp_ok]; rfl
        | _ => with_unfolding_all exact propext ⟨fun q => q.elim, fun q => q.1.elim⟩
theorem rp_callP {P : RV Hm → Env Hm → Prop} {l : List Bool} {n : Nat} {m : List (SD Empty) → RetM Empty} {a : Env Hm → Res Hm (List D)} : RP (eCallP l n m a env) P X = RP (a env) (fun ds e => RP (goP l n m ds e) P X) X := by unfold eCallP; rw [rp_bind]
theorem rp_callPK {P : RV Hm → Env Hm → Prop} {lay : List Src} {n1 n2 : Nat} {l : List Bool} {n : Nat} {m : List (SD Empty) → RetM Empty} {a b : Env Hm → Res Hm (List D)} : RP (eCallPK lay n1 n2 l n m a b env) P X = RP (a env) (fun as e => RP (b e) (fun bs e2 => (as.length = n1 ∧ bs.length = n2) ∧ RP (goP l n m (layD lay as bs) e2) P X) X) X := by
  unfold eCallPK; rw [rp_bind]; refine rp_cg fun as e => ?_
  rw [rp_bind]; refine rp_cg fun bs e2 => ?_
  rw [rp_if_bad]
theorem mapO_n {f : D → Option D} : mapO f [] = some [] := rfl
theorem mapO_c {f : D → Option D} {d : D} {ds : List D} : mapO f (d :: ds) = (f d).bind fun x => (mapO f ds).map fun xs => x :: xs := by
  show (match f d, mapO f ds with | some x, some xs => some (x :: xs) | _, _ => none) = _
  cases f d with
  | none => rfl
  | some x => cases mapO f ds <;> rfl
theorem pure_ref {d : D} (h : pureD d = true) : refOf d = none := by
  cases d with
  | dict es => simp [pureD] at h; exact h.1
  | _ => rfl
theorem argP_p {d : D} (h : pureD d = true) : argP env d = some d := by unfold argP; rw [pure_ref h]; dsimp only; rw [if_pos h]
theorem argP_r {n : Nat} : argP env (refD n) = (lstC (cellA env n)).bind fun l => if pureDs l = true then some (.list l) else none := by unfold argP; rw [refOf_ref, ← cellL_A]
theorem opnd_n : opnd env [] = [] := rfl
theorem opnd_p {d : D} {ds : List D} (h : pureD d = true) : opnd env (d :: ds) = opnd env ds := by
  show (match (refOf d).bind fun k => cellL k env with | some l => l :: opnd env ds | none => opnd env ds) = _
  rw [pure_ref h]; rfl
theorem opnd_r {n : Nat} {ds : List D} {l : List D} (h : lstC (cellA env n) = some l) : opnd env (refD n :: ds) = l :: opnd env ds := by
  show (match (refOf (refD n)).bind fun k => cellL k env with | some l => l :: opnd env ds | none => opnd env ds) = _
  rw [refOf_ref, Option.bind_some, cellL_A, h]
theorem resOk_p {z : D} (h : pureD z = true) : resOk [] z = true := by unfold resOk; simp [h]
theorem resOk_f {cs : List (List D)} {z : D} (h : flatD z = true) : resOk cs z = true := by unfold resOk; rw [h]; rfl
theorem resOk_b {cs : List (List D)} {b : Bool} : resOk cs (.bool b) = true := resOk_f rfl
theorem resOk_i {cs : List (List D)} {b : Int} : resOk cs (.int b) = true := resOk_f rfl
theorem resOk_s {cs : List (List D)} {b : Str} : resOk cs (.str b) = true := resOk_f rfl
theorem resOk_n {cs : List (List D)} : resOk cs .none = true := resOk_f rfl
theorem resR_v {cs : List (List D)} {z : D} : resR cs (.val z) = (resOk cs z = true) := rfl
theorem resR_o {cs : List (List D)} {zs : List D} : resR cs (.own (.lst zs)) = ((zs.all fun z => resOk cs z) = true) := rfl
theorem resRs_p {zs : List D} (h : pureDs zs = true) : (zs.all fun z => resOk [] z) = true := by
  rw [pureDs_all] at h
  rw [List.all_eq_true] at h ⊢
  exact fun z hz => resOk_p (h z hz)
theorem upRv_v {z : D} : upRv (.val z) = .val z := rfl
theorem upRv_o {zs : List D} : upRv (.own (.lst zs)) = .own (.lst zs) := rfl
theorem resX_n : resX none = True := rfl
theorem resX_s {d : D} : resX (some d) = (flatD d = true) := rfl
/-! ### index, length, in -/
theorem rp_ixR {a b : Env Hm → Res Hm D} : RP (eIxR a b env) P X = RP (a env) (fun x e1 => RP (b e1) (fun y e2 => atO (ixR x y e2) fun z => P z e2) X) X := by
  unfold eIxR; rw [rp_bind]; refine rp_cg fun x e1 => ?_
  rw [rp_bind]; refine rp_cg fun y e2 => ?_
  cases ixR x y e2 <;> with_unfolding_all rfl
theorem rp_lenR {a : Env Hm → Res Hm D} : RP (eLenR a env) P X = RP (a env) (fun x e1 => atO (lenR x e1) fun z => P z e1) X := by
  unfold eLenR; rw [rp_bind]; refine rp_cg fun x e1 => ?_
  cases lenR x e1 <;> with_unfolding_all rfl
theorem ixR_l {l : List D} {y : D} : ixR (.list l) y env = dIx (.list l) y := rfl
theorem ixR_t {l : List D} {y : D} : ixR (.tuple l) y env = dIx (.tuple l) y := rfl
theorem ixR_s {s : Str} {y : D} : ixR (.str s) y env = dIx (.str s) y := rfl
theorem lenR_l {l : List D} : lenR (.list l) env = some (.int l.length) := rfl
theorem lenR_t {l : List D} : lenR (.tuple l) env = some (.int l.length) := rfl
theorem lenR_of {n : Nat} {l : List D} (h : lstC (cellA env n) = some l) : lenR (refD n) env = some (.int l.length) := by
  unfold lenR; rw [refOf_ref]; dsimp only; rw [cellL_A, h]
theorem lenR_ofD {n : Nat} {l : List (D × D)} (h : cellA env n = some (.dct l)) : lenR (refD n) env = some (.int l.length) := by
  unfold lenR; rw [refOf_ref]; dsimp only; rw [cellL_A, h, cellD_A, h]; rfl
theorem rp_inD {neg : Bool} {a b : Env Hm → Res Hm D} : RP (eInD neg a b env) P X = RP (a env) (fun x e1 => RP (b e1) (fun y e2 => atO (dctO y e2) fun es => atO (keyD x) fun kk => P (.bool (if neg = true then !(lookE es kk).isSome else (lookE es kk).isSome)) e2) X) X := by
  unfold eInD; rw [rp_bind]; refine rp_cg fun x e1 => ?_
  rw [rp_bind]; refine rp_cg fun y e2 => ?_
  cases dctO y e2 with
  | none => with_unfolding_all rfl
  | some es => rw [atO_some]; cases keyD x <;> with_unfolding_all rfl
theorem rp_dget {a b : Env Hm → Res Hm D} : RP (eDGet a b env) P X = RP (a env) (fun x e1 => (dctO x e1).isSome = true ∧ RP (b e1) (fun y e2 => atO (dctO x e2) fun es => atO (keyD y) fun kk => P ((lookE es kk).getD .none) e2) X) X := by
  unfold eDGet; rw [rp_bind]; refine rp_cg fun x e1 => ?_
  rw [rp_if_bad, rp_bind]
  congr 1
  refine rp_cg fun y e2 => ?_
  cases dctO x e2 with
  | none => with_unfolding_all rfl
  | some es => rw [atO_some]; cases keyD y <;> with_unfolding_all rfl
theorem dctO_r {n : Nat} : dctO (refD n) env = dctC (cellA env n) := by unfold dctO; rw [refOf_ref]; exact cellD_A
theorem seqL_r {n : Nat} : seqL (refD n) env = lstC (cellA env n) := by unfold seqL; rw [refOf_ref]; exact cellL_A
theorem seqL_l {l : List D} : seqL (.list l) env = some l := rfl
theorem rp_opO {f : D → D → Option D} {a b : Env Hm → Res Hm D} : RP (eOpO f a b env) P X = RP (a env) (fun x e1 => RP (b e1) (fun y e2 => atO (openD x e2) fun x' => atO (openD y e2) fun y' => atO (f x' y') fun z => atO (flatO z) fun z => P z e2) X) X := by
  unfold eOpO; rw [rp_bind]; refine rp_cg fun x e1 => ?_
  rw [rp_bind]; refine rp_cg fun y e2 => ?_
  cases openD x e2 with
  | none => with_unfolding_all rfl
  | some x1 =>
    rw [atO_some]
    cases openD y e2 with
    | none => with_unfolding_all rfl
    | some y1 =>
      rw [atO_some]
      show RP (match (f x1 y1).bind flatO with | some z => _ | none => .bad) P X = _
      cases f x1 y1 with
      | none => with_unfolding_all rfl
      | some z => rw [atO_some, Option.bind_some]; cases flatO z <;> with_unfolding_all rfl
theorem rp_cbO {f : List D → Option D} {a : Env Hm → Res Hm (List D)} : RP (eCBO f a env) P X = RP (a env) (fun ds e1 => atO (opens ds e1) fun ds' => atO (f ds') fun z => atO (flatO z) fun z => P z e1) X := by
  unfold eCBO; rw [rp_bind]; refine rp_cg fun ds e1 => ?_
  cases opens ds e1 with
  | none => with_unfolding_all rfl
  | some x1 =>
    rw [atO_some]
    show RP (match (f x1).bind flatO with | some z => _ | none => .bad) P X = _
    cases f x1 with
    | none => with_unfolding_all rfl
    | some z => rw [atO_some, Option.bind_some]; cases flatO z <;> with_unfolding_all rfl
theorem rp_trO {a : Env Hm → Res Hm D} {P : Bool → Env Hm → Prop} : RP (tTrO a env) P X = RP (a env) (fun d e => atO (openD d e) fun d' => atO (truD d') fun b => P b e) X := by
  unfold tTrO; rw [rp_bind]; refine rp_cg fun d e => ?_
  cases openD d e with
  | none => with_unfolding_all rfl
  | some x1 => rw [atO_some]; cases h : truD x1 <;> with_unfolding_all (simp only [Option.bind_some, h]; rfl)
theorem openD_p {d : D} {M : Hm} (h : pureD d = true) : openD d (some (.ob M) :: es) = some d := by unfold openD; rw [hmOf_cons]; exact deepD_pure h
theorem openD_r {n : Nat} {M : Hm} {l : List D} (h : lstC (cellH M n) = some l) (hp : pureDs l = true) : openD (refD n) (some (.ob M) :: es) = some (.list l) := by
  unfold openD; rw [hmOf_cons, Option.bind_some]
  exact deepD_ref (k := 8) (by rw [cellC_H]; exact h) (mapO_pure hp)
theorem openD_of {n : Nat} {M : Hm} {l l' : List D} (h : lstC (cellH M n) = some l) (hp : mapO (deepD M 8) l = some l') : openD (refD n) (some (.ob M) :: es) = some (.list l') := by
  unfold openD; rw [hmOf_cons, Option.bind_some]
  exact deepD_ref (k := 8) (by rw [cellC_H]; exact h) hp
theorem opens_p {ds : List D} {M : Hm} (h : pureDs ds = true) : opens ds (some (.ob M) :: es) = some ds := by unfold opens; rw [hmOf_cons]; exact mapO_pure h
/-! ### copies, sums, slices -/
theorem rp_listR {a : Env Hm → Res Hm D} {P : SD Hm → Env Hm → Prop} : RP (oListR a env) P X = RP (a env) (fun x e => atO (copyR x e) fun l => P (.lst l) e) X := by
  unfold oListR; rw [rp_bind]; refine rp_cg fun x e => ?_
  cases copyR x e <;> with_unfolding_all rfl
theorem copy_l {l : List D} : copyR (.list l) env = some l := rfl
theorem copy_t {l : List D} : copyR (.tuple l) env = some l := rfl
theorem copy_of {n : Nat} {l : List D} (h : lstC (cellA env n) = some l) : copyR (refD n) env = some l := by
  unfold copyR; rw [refOf_ref]; dsimp only; rw [cellL_A, h]
theorem copy_ofD {n : Nat} {es' : List (D × D)} (h : cellA env n = some (.dct es')) : copyR (refD n) env = some (es'.map (·.1)) := by
  unfold copyR; rw [refOf_ref]; dsimp only; rw [cellL_A, h, cellDw_A, h]; rfl
theorem rp_addR {a b : Env Hm → Res Hm D} {P : SD Hm → Env Hm → Prop} : RP (oAddR a b env) P X = RP (a env) (fun x e1 => RP (b e1) (fun y e2 => atO (seqL x e2) fun k => atO (seqL y e2) fun l => k.length + l.length ≤ 1000000 ∧ P (.lst (k ++ l)) e2) X) X := by
  unfold oAddR; rw [rp_bind]; refine rp_cg fun x e1 => ?_
  rw [rp_bind]; refine rp_cg fun y e2 => ?_
  cases seqL x e2 with
  | none => with_unfolding_all rfl
  | some k' =>
    cases seqL y e2 with
    | none => rw [atO_some]; with_unfolding_all rfl
    | some l =>
      rw [atO_some, atO_some]
      show RP (if _ then _ else .bad) P X = _
      rw [rp_if_bad, rp_ok]
theorem rp_oslR {a : Env Hm → Res Hm D} {p q : Env Hm → Res Hm (Option Int)} {P : SD Hm → Env Hm → Prop} : RP (oSlR a p q env) P X = RP (a env) (fun d e1 => RP (p e1) (fun lo e2 => RP (q e2) (fun hi e3 => atO (seqL d e3) fun l => P (.lst (cutD l lo hi)) e3) X) X) X := by
  unfold oSlR; rw [rp_bind]; refine rp_cg fun d e1 => ?_
  rw [rp_bind]; refine rp_cg fun lo e2 => ?_
  rw [rp_bind]; refine rp_cg fun hi e3 => ?_
  cases seqL d e3 <;> with_unfolding_all rfl
theorem rp_slR {a : Env Hm → Res Hm D} {p q : Env Hm → Res Hm (Option Int)} : RP (eSlR a p q env) P X = RP (a env) (fun d e1 => RP (p e1) (fun lo e2 => RP (q e2) (fun hi e3 => atO (slR d lo hi e3) fun z => P z e3) X) X) X := by
  unfold eSlR; rw [rp_bind]; refine rp_cg fun d e1 => ?_
  rw [rp_bind]; refine rp_cg fun lo e2 => ?_
  rw [rp_bind]; refine rp_cg fun hi e3 => ?_
  cases slR d lo hi e3 <;> with_unfolding_all rfl
theorem slR_l {l : List D} {lo hi : Option Int} : slR (.list l) lo hi env = some (.list (cutD l lo hi)) := rfl
theorem slR_s {s : Str} {lo hi : Option Int} : slR (.str s) lo hi env = dSl (.str s) lo hi := rfl
theorem slR_t {l : List D} {lo hi : Option Int} : slR (.tuple l) lo hi env = some (.tuple (cutD l lo hi)) := rfl
theorem slR_of {n : Nat} {l : List D} {lo hi : Option Int} (h : lstC (cellA env n) = some l) : slR (refD n) lo hi env = some (.list (cutD l lo hi)) := by
  unfold slR; rw [refOf_ref]; dsimp only; rw [cellL_A, h]; rfl
theorem rp_sortX {a : Env Hm → Res Hm D} {P : SD Hm → Env Hm → Prop} : RP (oSortX a env) P X = RP (a env) (fun x e => atO (sortX x e) fun ns => P (.lst ((sortI ns).map PyData.int)) e) X := by
  unfold oSortX; rw [rp_bind]; refine rp_cg fun x e => ?_
  cases sortX x e <;> with_unfolding_all rfl
/-! ### stores -/
theorem fp_putR {v o b : Env Hm → Res Hm D} : FP (bPutR v o b env) N k = RP (v env) (fun d e1 => RP (o e1) (fun x e2 => RP (b e2) (fun kk e3 => atO (refOf x) fun n => atO (dctW (cellA e3 n)) fun es => atO (setE es kk d) fun es' => N (putC n (.dct es') e3)) k.er) k.er) k.er := by
  unfold bPutR; rw [fp_fl]; refine rp_cg fun d e1 => ?_
  rw [fp_fl]; refine rp_cg fun x e2 => ?_
  rw [fp_fl]; refine rp_cg fun kk e3 => ?_
  cases refOf x with
  | none => with_unfolding_all rfl
  | some n =>
    rw [atO_some]
    rw [← cellDw_A]
    dsimp only
    cases cellDw n e3 with
    | none => with_unfolding_all rfl
    | some es => rw [atO_some, Option.bind_some]; cases setE es kk d <;> with_unfolding_all rfl
theorem fp_setR {v o b : Env Hm → Res Hm D} : FP (bSetR v o b env) N k = RP (v env) (fun d e1 => RP (o e1) (fun x e2 => RP (b e2) (fun kk e3 => atO (refOf x) fun n => atO (lstC (cellA e3 n)) fun es => atO (setAt es kk d) fun es' => N (putC n (.lst es') e3)) k.er) k.er) k.er := by
  unfold bSetR; rw [fp_fl]; refine rp_cg fun d e1 => ?_
  rw [fp_fl]; refine rp_cg fun x e2 => ?_
  rw [fp_fl]; refine rp_cg fun kk e3 => ?_
  cases refOf x with
  | none => with_unfolding_all rfl
  | some n =>
    rw [atO_some]
    rw [← cellL_A]
    dsimp only
    cases cellL n e3 with
    | none => with_unfolding_all rfl
    | some es => rw [atO_some, Option.bind_some]; cases setAt es kk d <;> with_unfolding_all rfl
@[irreducible] def atL (s : SD Hm) (P : List D → Prop) [Lk P P] : Prop := match s with
  | .lst l => P l
  | _ => False
theorem atL_l {l : List D} {P : List D → Prop} : atL (.lst l) P = P l := by with_unfolding_all rfl
theorem rp_extR {a : Env Hm → Res Hm D} {o : Env Hm → Res Hm (SD Hm)} : RP (eExtR a o env) P X = RP (a env) (fun x e1 => atO (refOf x) fun n => (lstC (cellA e1 n)).isSome = true ∧ RP (o e1) (fun sd e2 => atL sd fun kk => atO (lstC (cellA e2 n)) fun l => l.length + kk.length ≤ 1000000 ∧ P .none (putC n (.lst (l ++ kk)) e2)) X) X := by
  unfold eExtR; rw [rp_bind]; refine rp_cg fun x e1 => ?_
  cases refOf x with
  | none => with_unfolding_all rfl
  | some n =>
    rw [atO_some]
    show RP (if (cellL n e1).isSome = true then _ else .bad) P X = _
    rw [rp_if_bad, rp_bind, cellL_A]
    congr 1
    refine rp_cg fun sd e2 => ?_
    cases sd with
    | lst kk =>
      rw [atL_l]
      rw [← cellL_A]
      dsimp only
      cases cellL n e2 with
      | none => with_unfolding_all rfl
      | some l => rw [atO_some]; dsimp only; rw [rp_if_bad, rp_ok]
    | _ => with_unfolding_all rfl
theorem rp_mtR2 {f : List D → List D → Option (D × List D)} {a : Env Hm → Res Hm D} {m : Env Hm → Res Hm (List D)} : RP (eMtR f a m env) P X = RP (a env) (fun d e1 => atO (refOf d) fun n => (lstC (cellA e1 n)).isSome = true ∧ RP (m e1) (fun ds e2 => atO (lstC (cellA e2 n)) fun l => atM2 (f l ds) fun z l' => P z (putC n (.lst l') e2)) X) X := by
  unfold eMtR; rw [rp_bind]; refine rp_cg fun d e1 => ?_
  cases refOf d with
  | none => with_unfolding_all rfl
  | some n =>
    rw [atO_some]
    show RP (if (cellL n e1).isSome = true then _ else .bad) P X = _
    rw [rp_if_bad, rp_bind, cellL_A]
    congr 1
    refine rp_cg fun ds e2 => ?_
    rw [cellL_A]
    cases lstC (cellA e2 n) with
    | none => with_unfolding_all rfl
    | some l =>
      rw [atO_some, Option.bind_some]
      cases f l ds with
      | none => with_unfolding_all rfl
      | some q => obtain ⟨z, l'⟩ := q; with_unfolding_all rfl
/-! ### classes asked -/
theorem rp_isO {it : ITab} {C : Str} {a : Env Hm → Res Hm D} : RP (eIsO it C a env) P X = RP (a env) (fun x e => atO (isO it C x e) fun b => P (.bool b) e) X := by
  unfold eIsO; rw [rp_bind]; refine rp_cg fun x e => ?_
  cases isO it C x e <;> with_unfolding_all rfl
theorem isO_d {it : ITab} {C : Str} {x : D} (h : refOf x = none) : isO it C x env = itLook it (.inl (PyData.kd x)) C := by unfold isO; rw [h]
theorem isO_r {it : ITab} {C c : Str} {n : Nat} {fs : List (Str × D)} (h : cellA env n = some (.obj c fs)) : isO it C (refD n) env = itLook it (.inr c) C := by
  unfold isO; rw [refOf_ref]; dsimp only
  unfold obD; rw [refOf_ref, Option.bind_some]
  unfold cellA at h
  unfold cellOb
  cases e : hmOf env with
  | none => rw [e] at h; cases h
  | some M =>
    rw [e] at h
    have h : M.c[n]? = some (.obj c fs) := h
    simp only [h, Option.map_some, Option.bind_some]
/-! ### by cells -/
def orO {γ : Type} : Option γ → Option γ → Option γ
  | some x, _ => some x
  | none, b => b
theorem orO_s {γ : Type} {x : γ} {b : Option γ} : orO (some x) b = some x := rfl
theorem orO_n {γ : Type} {b : Option γ} : orO none b = b := rfl
theorem ixR_c {n : Nat} {y : D} : ixR (refD n) y env = orO ((lstC (cellA env n)).bind fun l => dIx (.list l) y) (if (lstC (cellA env n)).isSome = true then none else (dctC (cellA env n)).bind fun es => (keyD y).bind fun k => lookE es k) := by
  unfold ixR; rw [refOf_ref]; simp only [cellL_A, cellD_A]
  cases lstC (cellA env n) with
  | none => rfl
  | some l => dsimp only [Option.bind_some, Option.isSome_some, if_true]; cases dIx (.list l) y <;> rfl
theorem lenR_c {n : Nat} : lenR (refD n) env = orO ((lstC (cellA env n)).map fun l => .int l.length) ((dctC (cellA env n)).map fun es => .int es.length) := by
  unfold lenR; rw [refOf_ref]; simp only [cellL_A, cellD_A]
  cases lstC (cellA env n) <;> rfl
theorem copyR_c {n : Nat} : copyR (refD n) env = orO (lstC (cellA env n)) ((dctW (cellA env n)).map fun es => es.map (·.1)) := by
  unfold copyR; rw [refOf_ref]; simp only [cellL_A, cellDw_A]
  cases lstC (cellA env n) <;> rfl
theorem slR_c {n : Nat} {lo hi : Option Int} : slR (refD n) lo hi env = (lstC (cellA env n)).map fun l => .list (cutD l lo hi) := by
  unfold slR; rw [refOf_ref]; simp only [cellL_A]
theorem seqL_c {n : Nat} : seqL (refD n) env = lstC (cellA env n) := by unfold seqL; rw [refOf_ref]; exact cellL_A
theorem sortX_c {n : Nat} : sortX (refD n) env = orO ((lstC (cellA env n)).bind intsOf) (if (lstC (cellA env n)).isSome = true then none else (dctC (cellA env n)).bind fun es => if es.length < 64 then intsOf (es.map (·.1)) else none) := by
  unfold sortX; rw [seqL_c, dctO_r]
  cases lstC (cellA env n) with
  | none => rfl
  | some l => dsimp only [Option.bind_some, Option.isSome_some, if_true]; cases intsOf l <;> rfl
theorem sortX_l {l : List D} : sortX (.list l) env = intsOf l := rfl
theorem intsOf_n : intsOf [] = some [] := rfl
theorem intsOf_c {i : Int} {r : List D} : intsOf (.int i :: r) = (intsOf r).map fun l => i :: l := rfl
theorem sortI_nil : sortI [] = [] := by unfold sortI; exact List.mergeSort_nil
theorem sortI_one {i : Int} : sortI [i] = [i] := by unfold sortI; exact List.mergeSort_singleton i
def nameC (o : Option Cell) : Option Str := match o with
  | some (.obj c _) => some c
  | _ => none
theorem nameC_o {c : Str} {fs : List (Str × D)} : nameC (some (.obj c fs)) = some c := rfl
theorem isO_c {it : ITab} {C : Str} {n : Nat} : isO it C (refD n) env = (nameC (cellA env n)).bind fun c => itLook it (.inr c) C := by
  unfold isO; rw [refOf_ref]; dsimp only
  rcases obD_cases (refD n) env with ⟨h1, h2⟩ | ⟨m, h1, ⟨c, fs, h2, h3⟩ | ⟨h2, h3⟩⟩
  · cases h1
  · rw [refOf_ref] at h1; cases h1; rw [h3, h2]; rfl
  · rw [refOf_ref] at h1; cases h1; rw [h3]
    cases e : cellA env n with
    | none => rfl
    | some c => cases c with
      | obj c fs => exact absurd e (h2 c fs)
      | _ => rfl
def openLs (M : Hm) (l : List D) : Option (List D) := mapO (deepD M 8) l
theorem openLs_p {l : List D} {M : Hm} (h : pureDs l = true) : openLs M l = some l := mapO_pure h
theorem openLs_n {M : Hm} : openLs M [] = some [] := rfl
theorem openD_c {n : Nat} {M : Hm} : openD (refD n) (some (.ob M) :: es) = (lstC (cellH M n)).bind fun l => (openLs M l).map .list := by
  unfold openD; rw [hmOf_cons, Option.bind_some]
  have hp : ¬ pureD (refD n) = true := by rintro h; have := pure_ref h; rw [refOf_ref] at this; cases this
  show deepD M 9 (refD n) = _
  have e : deepD M 9 (refD n) = if pureD (refD n) = true then some (refD n) else (match M.c[n]? with | some (.lst l) => (mapO (deepD M 8) l).map .list | _ => none) := rfl
  rw [e, if_neg hp]
  unfold cellH openLs
  cases M.c[n]? with
  | none => rfl
  | some c => cases c <;> rfl
/-! ### dict comprehensions, items -/
theorem asE_d {es : List (D × D)} : asE (.dict es) = if refOf (.dict es) = none then some es else none := rfl
theorem asE_nil : asE (.dict []) = some [] := rfl
theorem rp_iItM {a : Env Hm → Res Hm D} {P : List D → Env Hm → Prop} : RP (iItM a env) P X = RP (a env) (fun d e => atO (asE d) fun es => P (es.map fun p => .tuple [p.1, p.2]) e) X := by
  unfold iItM; rw [rp_bind]; refine rp_cg fun d e => ?_; cases asE d <;> with_unfolding_all rfl
theorem rp_iVaM {a : Env Hm → Res Hm D} {P : List D → Env Hm → Prop} : RP (iVaM a env) P X = RP (a env) (fun d e => atO (asE d) fun es => P (es.map (·.2)) e) X := by
  unfold iVaM; rw [rp_bind]; refine rp_cg fun d e => ?_; cases asE d <;> with_unfolding_all rfl
theorem rp_dc {P : SD Hm → Env Hm → Prop} {it : Env Hm → Res Hm (List D)} {g : D → Env Hm → Res Hm Unit} {t : Env Hm → Res Hm Bool} {ek ev : Env Hm → Res Hm D} {vs : List Nat} : RP (oDc it g t ek ev vs env) P X = RP (it env) (fun items e => items.length ≤ 1000000 ∧ RP (dcM g t ek ev vs items [] (wipeE vs e)) (fun l e' => P (.dct l) e') X) X := by
  unfold oDc; rw [rp_bind]; refine rp_cg fun d e => ?_
  rw [rp_if_bad, rp_bind]; congr 1
  refine rp_cg fun l e' => ?_; rw [rp_ok]
theorem rp_dcNil {P : List (D × D) → Env Hm → Prop} {g : D → Env Hm → Res Hm Unit} {t : Env Hm → Res Hm Bool} {ek ev : Env Hm → Res Hm D} {vs : List Nat} {acc : List (D × D)} : RP (dcM g t ek ev vs [] acc env) P X = P acc (wipeE vs env) := by with_unfolding_all rfl
theorem rp_dcCons {P : List (D × D) → Env Hm → Prop} {g : D → Env Hm → Res Hm Unit} {t : Env Hm → Res Hm Bool} {ek ev : Env Hm → Res Hm D} {vs : List Nat} {acc : List (D × D)} {r : List D} {d : D} : RP (dcM g t ek ev vs (d :: r) acc env) P X =
    RP (g d env) (fun _ e1 => RP (t e1) (fun b e2 => if b = true then RP (ek e2) (fun y e3 => RP (ev e3) (fun z e4 => atO (keyD y) fun kk => RP (dcM g t ek ev vs r (putE acc kk z) (wipeE vs e4)) P X) noX) noX else RP (dcM g t ek ev vs r acc (wipeE vs e2)) P X) noX) noX := by
  with_unfolding_all show RP ((g d env).ne.bind _) P X = _
  rw [rp_bind, rp_ne]
  refine rp_cg fun x e => ?_
  rw [rp_bind, rp_ne]; refine rp_cg fun b e2 => ?_
  cases b with
  | false => with_unfolding_all rfl
  | true =>
    with_unfolding_all show RP ((ek e2).ne.bind _) P X = _
    rw [rp_bind, rp_ne]
    show RP (ek e2) _ _ = RP (ek e2) _ _
    refine rp_cg fun y e3 => ?_
    rw [rp_bind, rp_ne]; refine rp_cg fun z e4 => ?_
    cases keyD y <;> with_unfolding_all rfl
theorem rp_dcInv {P : List (D × D) → Env Hm → Prop} {g : D → Env Hm → Res Hm Unit} {t : Env Hm → Res Hm Bool} {ek ev : Env Hm → Res Hm D} {vs : List Nat} {items : List D} (I : Nat → List (D × D) → Env Hm → Prop) (h0 : I 0 [] env)
    (hs : ∀ n d acc e, I n acc e → items[n]? = some d → RP (g d e) (fun _ e1 => RP (t e1) (fun b e2 => if b = true then RP (ek e2) (fun y e3 => RP (ev e3) (fun z e4 => atO (keyD y) fun kk => I (n + 1) (putE acc kk z) (wipeE vs e4)) noX) noX else I (n + 1) acc (wipeE vs e2)) noX) noX)
    (hN : ∀ acc e, I items.length acc e → Tr (P acc (wipeE vs e))) : RP (dcM g t ek ev vs items [] env) P X := by
  have H : ∀ (r : List D) (n : Nat) (acc : List (D × D)) (e : Env Hm), I n acc e → (∀ j, items[n + j]? = r[j]?) → n + r.length = items.length → RP (dcM g t ek ev vs r acc e) P X := by
    intro r
    induction r with
    | nil => intro n acc e hI _ hl; rw [rp_dcNil]; exact tr_of (hN acc e (by rw [← hl]; exact hI))
    | cons d r ih =>
      intro n acc e hI hj hl
      rw [rp_dcCons]
      have hd := hs n d acc e hI (by have z := hj 0; simpa using z)
      have hk : ∀ acc e2, I (n + 1) acc e2 → RP (dcM g t ek ev vs r acc e2) P X := fun acc e2 h2 => ih (n + 1) acc e2 h2 (fun j => by
        have z := hj (j + 1)
        rw [show n + 1 + j = n + (j + 1) by omega, z]; simp) (by simp only [List.length_cons] at hl; omega)
      refine rp_imp hd (fun _ e1 h => rp_imp h (fun b e2 h => ?_) fun _ _ _ z => z.elim) fun _ _ _ z => z.elim
      cases b with
      | false => exact hk _ _ h
      | true =>
        refine rp_imp (h : RP (ek e2) _ _) (fun y e3 h => rp_imp h (fun z e4 h => ?_) fun _ _ _ z => z.elim) fun _ _ _ z => z.elim
        revert h
        cases keyD y with
        | none => rw [atO_none]; exact fun h => h.elim
        | some kk => rw [atO_some, atO_some]; exact fun h => hk _ _ h
  exact H items 0 [] env h0 (fun j => by rw [Nat.zero_add]) (by omega)
/-! ### loops -/
theorem fp_forN {f : Nat → D → D} {a : Env Hm → Res Hm D} {g : D → Env Hm → Res Hm Unit} {body : Env Hm → Flow Hm} : FP (bForN f a g body env) N k = RP (a env) (fun d e => atO (refOf d) fun n => (lstC (cellA e n)).isSome = true ∧ FP (loopN f g body n 2000 0 e) N k) k.er := by
  unfold bForN; rw [fp_fl]; refine rp_cg fun d e => ?_
  cases refOf d with
  | none => with_unfolding_all rfl
  | some n =>
    rw [atO_some]
    show FP (if (cellL n e).isSome = true then _ else .bad) N k = _
    rw [fp_if_bad, cellL_A]
theorem fp_loopN {f : Nat → D → D} {g : D → Env Hm → Res Hm Unit} {body : Env Hm → Flow Hm} {n : Nat} (I : Nat → Env Hm → Prop) (h0 : I 0 env)
    (hs : ∀ i e, I i e → ∃ l, lstC (cellA e n) = some l ∧ i ≤ l.length ∧ l.length < 2000 ∧ ∀ d, l[i]? = some d → Tr (RP (g (f i d) e) (fun _ e1 => FP (body e1) (fun e2 => I (i + 1) e2) ⟨N, fun e2 => I (i + 1) e2, k.rt, k.er⟩) k.er))
    (hN : ∀ e l, I l.length e → lstC (cellA e n) = some l → Tr (N e)) : FP (loopN f g body n 2000 0 env) N k := by
  suffices H : ∀ (kk i : Nat) (e : Env Hm), kk + i = 2000 → I i e → FP (loopN f g body n kk i e) N k from H 2000 0 env rfl h0
  intro kk
  induction kk with
  | zero =>
    intro i e hi hI
    obtain ⟨l, hl, hb, hb2, h⟩ := hs i e hI
    exact absurd hi (by omega)
  | succ kk ih =>
    intro i e hi hI
    obtain ⟨l, hl, hb, hb2, h⟩ := hs i e hI
    unfold loopN
    rw [cellL_A, hl]
    dsimp only
    cases ei : l[i]? with
    | none =>
      have : i = l.length := Nat.le_antisymm hb (List.getElem?_eq_none_iff.mp ei)
      subst this
      dsimp only
      rw [fp_nx]; exact tr_of (hN e l hI hl)
    | some d =>
      dsimp only
      rw [fp_fl]
      refine rp_imp (tr_of (h d ei)) (fun _ e1 h => ?_) fun _ _ _ z => z
      revert h
      cases body e1 with
      | nx e2 => intro h; rw [fp_nx] at h; exact ih (i + 1) e2 (by omega) h
      | ct e2 => with_unfolding_all exact fun h => ih (i + 1) e2 (by omega) h
      | _ => with_unfolding_all exact fun h => h
theorem fp_loopN0 {f : Nat → D → D} {g : D → Env Hm → Res Hm Unit} {body : Env Hm → Flow Hm} {n : Nat} (h : lstC (cellA env n) = some []) : FP (loopN f g body n 2000 0 env) N k = N env := by
  show FP (loopN f g body n (1999 + 1) 0 env) N k = _
  unfold loopN
  rw [cellL_A, h]
  dsimp only [List.getElem?_nil]
  rw [fp_nx]
end
end Ve

set_option Elab.async false
set_option linter.all false
set_option maxRecDepth 100000
set_option maxHeartbeats 4000000
set_option synthInstance.maxHeartbeats 1000000
set_option synthInstance.maxSize 100000
namespace My
open PySem PySem.Spec PyProof.Rows L2 Evl Ny Ve
abbrev Om := Empty
abbrev ctab : CTab := [("Leaf", ["busy", "done", "fresh", "kept", "last", "number", "rows", "rule", "top"]), ("Room", ["busy", "done", "fresh", "kept", "last", "number", "rows", "rule", "top"]), ("Store", ["busy", "done", "fresh", "kept", "last", "number", "rows", "rule", "top"])]
theorem ct_Leaf_busy : inTab ctab "Leaf" "busy" = true := by decide +kernel
theorem ct_Leaf_done : inTab ctab "Leaf" "done" = true := by decide +kernel
theorem ct_Leaf_fresh : inTab ctab "Leaf" "fresh" = true := by decide +kernel
theorem ct_Leaf_kept : inTab ctab "Leaf" "kept" = true := by decide +kernel
theorem ct_Leaf_last : inTab ctab "Leaf" "last" = true := by decide +kernel
theorem ct_Leaf_number : inTab ctab "Leaf" "number" = true := by decide +kernel
theorem ct_Leaf_rows : inTab ctab "Leaf" "rows" = true := by decide +kernel
theorem ct_Leaf_rule : inTab ctab "Leaf" "rule" = true := by decide +kernel
theorem ct_Leaf_top : inTab ctab "Leaf" "top" = true := by decide +kernel
theorem ct_Room_busy : inTab ctab "Room" "busy" = true := by decide +kernel
theorem ct_Room_done : inTab ctab "Room" "done" = true := by decide +kernel
theorem ct_Room_fresh : inTab ctab "Room" "fresh" = true := by decide +kernel
theorem ct_Room_kept : inTab ctab "Room" "kept" = true := by decide +kernel
theorem ct_Room_last : inTab ctab "Room" "last" = true := by decide +kernel
theorem ct_Room_number : inTab ctab "Room" "number" = true := by decide +kernel
theorem ct_Room_rows : inTab ctab "Room" "rows" = true := by decide +kernel
theorem ct_Room_rule : inTab ctab "Room" "rule" = true := by decide +kernel
theorem ct_Room_top : inTab ctab "Room" "top" = true := by decide +kernel
theorem ct_Store_busy : inTab ctab "Store" "busy" = true := by decide +kernel
theorem ct_Store_done : inTab ctab "Store" "done" = true := by decide +kernel
theorem ct_Store_fresh : inTab ctab "Store" "fresh" = true := by decide +kernel
theorem ct_Store_kept : inTab ctab "Store" "kept" = true := by decide +kernel
theorem ct_Store_last : inTab ctab "Store" "last" = true := by decide +kernel
theorem ct_Store_number : inTab ctab "Store" "number" = true := by decide +kernel
theorem ct_Store_rows : inTab ctab "Store" "rows" = true := by decide +kernel
theorem ct_Store_rule : inTab ctab "Store" "rule" = true := by decide +kernel
theorem ct_Store_top : inTab ctab "Store" "top" = true := by decide +kernel
abbrev etab : ETab := [("NoMany", "FallError", true), ("NoMany", "NoRule", false), ("NoMark", "FallError", true), ("NoMark", "NoRule", false), ("NoRule", "FallError", true), ("NoRule", "NoRule", true), ("NoStretch", "FallError", true), ("NoStretch", "NoRule", false)]
theorem et_0 : tabE etab "NoMany" "FallError" = some true := by decide +kernel
theorem et_1 : tabE etab "NoMany" "NoRule" = some false := by decide +kernel
theorem et_2 : tabE etab "NoMark" "FallError" = some true := by decide +kernel
theorem et_3 : tabE etab "NoMark" "NoRule" = some false := by decide +kernel
theorem et_4 : tabE etab "NoRule" "FallError" = some true := by decide +kernel
theorem et_5 : tabE etab "NoRule" "NoRule" = some true := by decide +kernel
theorem et_6 : tabE etab "NoStretch" "FallError" = some true := by decide +kernel
theorem et_7 : tabE etab "NoStretch" "NoRule" = some false := by decide +kernel
abbrev lay_value_of_1_at : List Src := [.pos 0, .kw 0]
abbrev lay_stretch_1 : List Src := [.pos 0, .dfl (.int 0) (.int 0), .dfl (.int 1000000000000) (.int 1000000000000), .dfl .non .none, .dfl .non .none, .dfl (.bl false) (.bool false)]
/-! is_whole: 0 thing 1 low 2 high -/
abbrev l_is_whole : List Bool := []
def b_is_whole : Env Om → Flow Om :=
  (bRet (eAnd (eIsi .int (eVar 0)) (eAnd (eUn dNot (eIsi .bl (eVar 0))) (eChain dLe dLe (eVar 1) (eVar 0) (eVar 2)))))
def m_is_whole : List (SD Om) → RetM Om := fnM l_is_whole 3 3 b_is_whole
/-! is_rule: 0 thing 1 tray 2 fan 3 rows 4 plan -/
abbrev l_is_rule : List Bool := []
def b_is_rule : Env Om → Flow Om :=
  (bSeq (bIf (tOrM (tNotM (tE truD (eIsi .tup (eVar 0)))) (tE asB (eOp dNe (eLenV 0) (eC (.int 4))))) (bRet (eC (.bool false))) bNx)
  (bSeq (bAsg (eVar 0) (gT 4 (gsCons (gN 1) (gsCons (gN 2) (gsCons (gN 3) (gsCons (gN 4) gsNil))))))
  (bSeq (bIf (tOrM (tNotM (tE truD (eCall l_is_whole 3 m_is_whole (aVar 1 (aE (eC (.int 1)) (aE (eC (.int 64)) aNil)))))) (tOrM (tNotM (tE truD (eCall l_is_whole 3 m_is_whole (aVar 2 (aE (eC (.int 3)) (aE (eC (.int 16)) aNil)))))) (tNotM (tE truD (eCall l_is_whole 3 m_is_whole (aVar 3 (aE (eC (.int 1)) (aE (eC (.int 64)) aNil)))))))) (bRet (eC (.bool false))) bNx)
  (bRet (eAnd (eIsi .str (eVar 4)) (eOp dIn (eVar 4) (eC (.tuple [(.str "fullest"), (.str "eldest")]))))))))
def m_is_rule : List (SD Om) → RetM Om := fnM l_is_rule 1 5 b_is_rule
/-! _law_cell_at: 0 script 1 k -/
abbrev l_law_cell_at : List Bool := []
def b_law_cell_at : Env Om → Flow Om :=
  (bSeq (bIf (tE asB (eOp dLt (eVar 1) (eLenV 0))) (bRet (eIxV 0 (eVar 1))) bNx)
  (bRet (eC (.int 0))))
def m_law_cell_at : List (SD Om) → RetM Om := fnM l_law_cell_at 2 2 b_law_cell_at
/-! _law_digit: 0 state 1 base 2 cell 3 found 4 number -/
abbrev l_law_digit : List Bool := [false]
def b_law_digit : Env Om → Flow Om :=
  (bSeq (bIf (tE asB (eOp dEq (eLenV 0) (eC (.int 1)))) (bSeq (bAsg (eIxV 0 (eC (.int 0))) (gN 2))
  (bSeq (bSetV 0 (eOp dIx (eFrz (oLst (lCons (eC (.int 0)) (lCons (eVar 2) lNil)))) (eCB dInt (lCons (eOp dGe (eVar 2) (eOp dPow (eC (.int 10)) (eC (.int 18)))) lNil))) (eC (.int 0)) setAt)
  (bDrop (eExtend 0 (oLst (lCons (eOp dMod (eVar 2) (eC (.int 2147483647))) (lCons (eC (.int 0)) lNil))))))) bNx)
  (bSeq (bIf (tE asB (eOp dGt (eIxV 0 (eC (.int 0))) (eC (.int 0)))) (bSeq (bAsg (eOp dMod (eIxV 0 (eC (.int 0))) (eVar 1)) (gN 3))
  (bSeq (bSetV 0 (eOp dDiv (eIxV 0 (eC (.int 0))) (eVar 1)) (eC (.int 0)) setAt)
  (bRet (eVar 3)))) bNx)
  (bSeq (bSetV 0 (eOp dAdd (eIxV 0 (eC (.int 2))) (eC (.int 1))) (eC (.int 2)) setAt)
  (bSeq (bAsg (eOp dMod (eOp dMul (eOp dAdd (eOp dAdd (eIxV 0 (eC (.int 1))) (eOp dMul (eC (.int 7919)) (eIxV 0 (eC (.int 2))))) (eC (.int 1))) (eC (.int 48271))) (eC (.int 2147483647))) (gN 4))
  (bSeq (bAsg (eOp dMod (eOp dMul (eVar 4) (eOp dAdd (eOp dDiv (eVar 4) (eC (.int 1009))) (eC (.int 69621)))) (eC (.int 2147483647))) (gN 4))
  (bRet (eOp dMod (eOp dMod (eOp dMul (eVar 4) (eOp dAdd (eOp dDiv (eVar 4) (eC (.int 2003))) (eC (.int 40692)))) (eC (.int 2147483399))) (eVar 1))))))))
def m_law_digit : List (SD Om) → RetM Om := fnM l_law_digit 2 5 b_law_digit
/-! _law_good: 0 state 1 tray 2 fan 3 rows -/
abbrev l_law_good : List Bool := [false]
def b_law_good : Env Om → Flow Om :=
  (bSeq (bAsg (eOp dIx (eFrz (oLst (lCons (eC (.int 1)) (lCons (eC (.int 64)) (lCons (eOp dAdd (eC (.int 1)) (eCall l_law_digit 2 m_law_digit (aVar 0 (aE (eC (.int 64)) aNil)))) lNil))))) (eCall l_law_digit 2 m_law_digit (aVar 0 (aE (eC (.int 3)) aNil)))) (gN 1))
  (bSeq (bAsg (eOp dIx (eFrz (oLst (lCons (eC (.int 3)) (lCons (eC (.int 16)) (lCons (eOp dAdd (eC (.int 3)) (eCall l_law_digit 2 m_law_digit (aVar 0 (aE (eC (.int 14)) aNil)))) lNil))))) (eCall l_law_digit 2 m_law_digit (aVar 0 (aE (eC (.int 3)) aNil)))) (gN 2))
  (bSeq (bAsg (eOp dIx (eFrz (oLst (lCons (eC (.int 1)) (lCons (eC (.int 64)) (lCons (eOp dAdd (eC (.int 1)) (eCall l_law_digit 2 m_law_digit (aVar 0 (aE (eC (.int 64)) aNil)))) lNil))))) (eCall l_law_digit 2 m_law_digit (aVar 0 (aE (eC (.int 3)) aNil)))) (gN 3))
  (bRet (eTup (lCons (eVar 1) (lCons (eVar 2) (lCons (eVar 3) (lCons (eOp dIx (eFrz (oLst (lCons (eC (.str "fullest")) (lCons (eC (.str "eldest")) lNil)))) (eCall l_law_digit 2 m_law_digit (aVar 0 (aE (eC (.int 2)) aNil)))) lNil)))))))))
def m_law_good : List (SD Om) → RetM Om := fnM l_law_good 1 4 b_law_good
/-! _law_truth: 0 found 1 due -/
abbrev l_law_truth : List Bool := []
def b_law_truth : Env Om → Flow Om :=
  (bRet (eAnd (eIsi .bl (eVar 0)) (eEqV false 0 (eVar 1))))
def m_law_truth : List (SD Om) → RetM Om := fnM l_law_truth 2 2 b_law_truth
/-! _law_between: 0 thing 1 low 2 high -/
abbrev l_law_between : List Bool := []
def b_law_between : Env Om → Flow Om :=
  (bRet (eAnd (eIsi .int (eVar 0)) (eAnd (eUn dNot (eIsi .bl (eVar 0))) (eChain dLe dLe (eVar 1) (eVar 0) (eVar 2)))))
def m_law_between : List (SD Om) → RetM Om := fnM l_law_between 3 3 b_law_between
/-! _law_is_rule: 0 thing -/
abbrev l_law_is_rule : List Bool := []
def b_law_is_rule : Env Om → Flow Om :=
  (bSeq (bIf (tOrM (tNotM (tE truD (eIsi .tup (eVar 0)))) (tE asB (eOp dNe (eLenV 0) (eC (.int 4))))) (bRet (eC (.bool false))) bNx)
  (bSeq (bIf (tOrM (tNotM (tE truD (eCall l_law_between 3 m_law_between (aE (eIxV 0 (eC (.int 0))) (aE (eC (.int 1)) (aE (eC (.int 64)) aNil)))))) (tNotM (tE truD (eCall l_law_between 3 m_law_between (aE (eIxV 0 (eC (.int 1))) (aE (eC (.int 3)) (aE (eC (.int 16)) aNil))))))) (bRet (eC (.bool false))) bNx)
  (bRet (eAnd (eCall l_law_between 3 m_law_between (aE (eIxV 0 (eC (.int 2))) (aE (eC (.int 1)) (aE (eC (.int 64)) aNil)))) (eAnd (eIsi .str (eIxV 0 (eC (.int 3)))) (eOp dIn (eIxV 0 (eC (.int 3))) (eFrz (oLst (lCons (eC (.str "fullest")) (lCons (eC (.str "eldest")) lNil))))))))))
def m_law_is_rule : List (SD Om) → RetM Om := fnM l_law_is_rule 1 1 b_law_is_rule
/-! _law_spoilt: 0 state 1 rule 2 way 3 place 4 some -/
abbrev l_law_spoilt : List Bool := [false]
def b_law_spoilt : Env Om → Flow Om :=
  (bSeq (bAsg (eCall l_law_digit 2 m_law_digit (aVar 0 (aE (eC (.int 8)) aNil))) (gN 2))
  (bSeq (bAsg (eCall l_law_digit 2 m_law_digit (aVar 0 (aE (eC (.int 4)) aNil))) (gN 3))
  (bSeq (bAsg (eFrz (oLst (lCons (eC (.int 0)) (lCons (eC (.int 1)) (lCons (eC (.int 2)) (lCons (eC (.int 3)) (lCons (eC (.int 16)) (lCons (eC (.int 17)) (lCons (eC (.int 64)) (lCons (eC (.int 65)) (lCons (eUn dNeg (eC (.int 1))) (lCons (eOp dPow (eC (.int 10)) (eC (.int 9))) (lCons (eC (.bool true)) (lCons (eC (.bool false)) (lCons (eC .none) (lCons (eC (.str "3")) (lCons (eC (.str "fullest")) (lCons (eC (.str "eldest")) (lCons (eC (.str "full")) (lCons (eC (.str "")) (lCons (eFrz (oLst (lCons (eC (.int 3)) lNil))) (lCons (eTup (lCons (eC (.int 3)) lNil)) lNil)))))))))))))))))))))) (gN 4))
  (bSeq (bIf (tE asB (eEqV false 2 (eC (.int 0)))) (bRet (eFrz (oListM (lCons (eVar 1) lNil)))) bNx)
  (bSeq (bIf (tE asB (eEqV false 2 (eC (.int 1)))) (bRet (eOp dAdd (eVar 1) (eTup (lCons (eC (.int 3)) lNil)))) bNx)
  (bSeq (bIf (tE asB (eEqV false 2 (eC (.int 2)))) (bRet (eOp dAdd (eSl (eVar 1) pNo (pI (eVar 3))) (eSl (eVar 1) (pI (eOp dAdd (eVar 3) (eC (.int 1)))) pNo))) bNx)
  (bSeq (bIf (tE asB (eEqV false 2 (eC (.int 3)))) (bRet (eOp dIx (eFrz (oLst (lCons (eC .none) (lCons (eC (.str "rule")) (lCons (eC (.int 4)) (lCons (eTup (lCons (eVar 1) lNil)) (lCons (eTup lNil) lNil))))))) (eCall l_law_digit 2 m_law_digit (aVar 0 (aE (eC (.int 5)) aNil))))) bNx)
  (bRet (eOp dAdd (eOp dAdd (eSl (eVar 1) pNo (pI (eVar 3))) (eTup (lCons (eIxV 4 (eCall l_law_digit 2 m_law_digit (aVar 0 (aE (eC (.int 20)) aNil)))) lNil))) (eSl (eVar 1) (pI (eOp dAdd (eVar 3) (eC (.int 1)))) pNo))))))))))
def m_law_spoilt : List (SD Om) → RetM Om := fnM l_law_spoilt 2 5 b_law_spoilt
/-! Room.__init__: 0 self 1 number -/
abbrev l_Room___init__ : List Bool := []
def hb_Room___init__ : Env Hm → Flow Hm :=
  (bFld ctab "number" (eVar 1) (eVar 2))
def hm_Room___init__ : List (SD Hm) → RetM Hm := fnM (false :: l_Room___init__) 3 3 hb_Room___init__
/-! Leaf.__init__: 0 self 1 number 2 rows -/
abbrev l_Leaf___init__ : List Bool := []
def hb_Leaf___init__ : Env Hm → Flow Hm :=
  (bSeq (bDrop (rvE (eUnM [false] 3 hm_Room___init__ (aVar 1 (aVar 2 aNil)))))
  (bFld ctab "rows" (eVar 1) (eVar 3)))
def hm_Leaf___init__ : List (SD Hm) → RetM Hm := fnM (false :: l_Leaf___init__) 4 4 hb_Leaf___init__
/-! Store.__init__: 0 self 1 rule -/
abbrev l_Store___init__ : List Bool := []
def hb_Store___init__ : Env Hm → Flow Hm :=
  (bSeq (bIf (tNotM (tE truD (rvE (eCallP l_is_rule 1 m_is_rule (lCons (eVar 2) lNil))))) (bRaise "NoRule") bNx)
  (bSeq (bFld ctab "rule" (eVar 1) (eVar 2))
  (bSeq (bFld ctab "last" (eVar 1) (eC (.int 0)))
  (bSeq (bFld ctab "kept" (eVar 1) (eNmO (oLst lNil)))
  (bSeq (bFld ctab "fresh" (eVar 1) (eC (.int 1)))
  (bSeq (bFld ctab "top" (eVar 1) (eNew "Leaf" 4 hm_Leaf___init__ (aE (eC (.int 0)) (aE (eFrz (oLst lNil)) aNil))))
  (bSeq (bFld ctab "done" (eVar 1) (eNmO (oLst lNil)))
  (bFld ctab "busy" (eVar 1) (eC (.int 0))))))))))
def hm_Store___init__ : List (SD Hm) → RetM Hm := fnM (false :: l_Store___init__) 3 3 hb_Store___init__
/-! Store.marks: 0 self -/
abbrev l_Store_marks : List Bool := []
def hb_Store_marks : Env Hm → Flow Hm :=
  (bRetO (oListR (eFld ctab "kept" (eVar 1))))
def hm_Store_marks : List (SD Hm) → RetM Hm := fnM (false :: l_Store_marks) 2 2 hb_Store_marks
/-! is_number: 0 thing -/
abbrev l_is_number : List Bool := []
def b_is_number : Env Om → Flow Om :=
  (bRet (eAnd (eIsi .int (eVar 0)) (eUn dNot (eIsi .bl (eVar 0)))))
def m_is_number : List (SD Om) → RetM Om := fnM l_is_number 1 1 b_is_number
/-! is_key: 0 thing -/
abbrev l_is_key : List Bool := []
def b_is_key : Env Om → Flow Om :=
  (bRet (eCall l_is_whole 3 m_is_whole (aVar 0 (aE (eC (.int 0)) (aE (eOp dSub (eC (.int 1000000000000)) (eC (.int 1))) aNil)))))
def m_is_key : List (SD Om) → RetM Om := fnM l_is_key 1 1 b_is_key
/-! is_stretch: 0 low 1 high -/
abbrev l_is_stretch : List Bool := []
def b_is_stretch : Env Om → Flow Om :=
  (bRet (eAnd (eCall l_is_key 1 m_is_key (aVar 0 aNil)) (eCall l_is_whole 3 m_is_whole (aVar 1 (aE (eOp dAdd (eVar 0) (eC (.int 1))) (aE (eC (.int 1000000000000)) aNil))))))
def m_is_stretch : List (SD Om) → RetM Om := fnM l_is_stretch 2 2 b_is_stretch
/-! value_of: 0 versions 1 at 2 found 3 number 4 value -/
abbrev l_value_of : List Bool := []
def b_value_of : Env Om → Flow Om :=
  (bSeq (bAsg (eC .none) (gN 2))
  (bSeq (bFor (iL (eVar 0)) (gT 2 (gsCons (gN 3) (gsCons (gN 4) gsNil))) (bEnd [3, 4] (bIf (tOrM (tE asB (eOp dIs (eVar 1) (eC .none))) (tE asB (eOp dLe (eVar 3) (eVar 1)))) (bAsg (eVar 4) (gN 2)) bNx)))
  (bRet (eVar 2))))
def m_value_of : List (SD Om) → RetM Om := fnM l_value_of 2 5 b_value_of
/-! Room.is_leaf: 0 self -/
abbrev l_Room_is_leaf : List Bool := []
def hb_Room_is_leaf : Env Hm → Flow Hm :=
  (bRet (eC (.bool true)))
def hm_Room_is_leaf : List (SD Hm) → RetM Hm := fnM (false :: l_Room_is_leaf) 2 2 hb_Room_is_leaf
/-! values_in: 0 room 1 low 2 high 3 at 4 found 5 key 6 versions 7 value 8 k 9 child 10 first 11 end 12 note -/
abbrev l_values_in : List Bool := []
def hb_values_in : Env Hm → Flow Hm :=
  (bSeq (bIf (tE truD (rvE (eMethO "is_leaf" [("Room", 2, hm_Room_is_leaf), ("Leaf", 2, hm_Room_is_leaf)] (eVar 1) aNil))) (bSeq (bOwn 5 (oDc (iL (eFld ctab "rows" (eVar 1))) (gT 2 (gsCons (gN 6) (gsCons (gN 7) gsNil))) (tE asB (eChain dLe dLt (eVar 2) (eVar 6) (eVar 3))) (eVar 6) (rvE (eCallPK lay_value_of_1_at 1 1 l_value_of 2 m_value_of (lCons (eVar 7) lNil) (lCons (eVar 4) lNil))) [6, 7]))
  (bFrzK 5 (bRetO (oDc (iItM (eVar 5)) (gT 2 (gsCons (gN 6) (gsCons (gN 8) gsNil))) (tE asB (eOp dIsN (eVar 8) (eC .none))) (eVar 6) (eVar 8) [6, 8])))) bNx)
  bBad)
def hm_values_in : List (SD Hm) → RetM Hm := fnM (false :: l_values_in) 5 14 hb_values_in
/-! pairs_in: 0 room 1 low 2 high 3 at 4 found 5 key -/
abbrev l_pairs_in : List Bool := []
def hb_pairs_in : Env Hm → Flow Hm :=
  (bSeq (bAsg (eNmO (oCall (false :: l_values_in) 5 hm_values_in (aVar 1 (aVar 2 (aVar 3 (aVar 4 aNil)))))) (gN 5))
  (bRetO (oLc (iL (eFrz (oSortX (eVar 5)))) (gN 6) tYesM (eTup (lCons (eVar 6) (lCons (eIxR (eVar 5) (eVar 6)) lNil))) [6])))
def hm_pairs_in : List (SD Hm) → RetM Hm := fnM (false :: l_pairs_in) 5 7 hb_pairs_in
/-! Store.look: 0 self 1 at -/
abbrev l_Store_look : List Bool := []
def hb_Store_look : Env Hm → Flow Hm :=
  (bIf (tAndM (tE asB (eOp dIsN (eVar 2) (eC .none))) (tOrM (tNotM (tE truD (rvE (eCallP l_is_number 1 m_is_number (lCons (eVar 2) lNil))))) (tE asB (eOpO dNin (eVar 2) (eFld ctab "kept" (eVar 1)))))) (bRaise "NoMark") bNx)
def hm_Store_look : List (SD Hm) → RetM Hm := fnM (false :: l_Store_look) 3 3 hb_Store_look
/-! Store.pairs: 0 self 1 low 2 high 3 at -/
abbrev l_Store_pairs : List Bool := []
def hb_Store_pairs : Env Hm → Flow Hm :=
  (bSeq (bIf (tNotM (tE truD (rvE (eCallP l_is_stretch 2 m_is_stretch (lCons (eVar 2) (lCons (eVar 3) lNil)))))) (bRaise "NoStretch") bNx)
  (bSeq (bDrop (rvE (eMethO "look" [("Store", 3, hm_Store_look)] (eVar 1) (aVar 4 aNil))))
  (bRetO (oCall (false :: l_pairs_in) 5 hm_pairs_in (aE (eFld ctab "top" (eVar 1)) (aVar 2 (aVar 3 (aVar 4 aNil))))))))
def hm_Store_pairs : List (SD Hm) → RetM Hm := fnM (false :: l_Store_pairs) 5 5 hb_Store_pairs
/-! Store.stretch: 0 self 1 low 2 high 3 at 4 most 5 back 6 pairs -/
abbrev l_Store_stretch : List Bool := []
def hb_Store_stretch : Env Hm → Flow Hm :=
  (bSeq (bAsg (rvE (eMethO "pairs" [("Store", 5, hm_Store_pairs)] (eVar 1) (aVar 2 (aVar 3 (aVar 4 aNil))))) (gN 7))
  (bSeq (bIf (tAndM (tE asB (eOp dIsN (eVar 5) (eC .none))) (tOrM (tNotM (tE truD (rvE (eCallP l_is_number 1 m_is_number (lCons (eVar 5) lNil))))) (tE asB (eOp dLt (eVar 5) (eC (.int 0)))))) (bRaise "NoMany") bNx)
  (bSeq (bIf (tTrV 6) (bAsg (eRevL (eVar 7)) (gN 7)) bNx)
  (bSeq (bIf (tE asB (eOp dIsN (eVar 5) (eC .none))) (bAsg (eSlR (eVar 7) pNo (pI (eVar 5))) (gN 7)) bNx)
  (bRet (eVar 7))))))
def hm_Store_stretch : List (SD Hm) → RetM Hm := fnM (false :: l_Store_stretch) 7 8 hb_Store_stretch
/-! Store.__len__: 0 self -/
abbrev l_Store___len__ : List Bool := []
def hb_Store___len__ : Env Hm → Flow Hm :=
  (bRet (eLenR (eCall (false :: l_pairs_in) 5 hm_pairs_in (aE (eFld ctab "top" (eVar 1)) (aE (eC (.int 0)) (aE (eC (.int 1000000000000)) (aE (eC .none) aNil)))))))
def hm_Store___len__ : List (SD Hm) → RetM Hm := fnM (false :: l_Store___len__) 2 2 hb_Store___len__
/-! Store.steps: 0 self 1 told 2 step -/
abbrev l_Store_steps : List Bool := []
def hb_Store_steps : Env Hm → Flow Hm :=
  (bSeq (bOwn 2 (oLst lNil))
  (bSeq (bForN fItem (eFld ctab "done" (eVar 1)) (gN 3) (bEnd [3] (bSeq (bIf (tE asB (eOpO dEq (eIxR (eVar 3) (eC (.int 0))) (eC (.str "part")))) (bAsg (eTup (lCons (eC (.str "part")) (lCons (eIxR (eVar 3) (eC (.int 1))) (lCons (eFrz (oListR (eIxR (eVar 3) (eC (.int 2))))) (lCons (eFrz (oListR (eIxR (eVar 3) (eC (.int 3))))) lNil))))) (gN 3)) bNx)
  (bDrop (eMt mAppend 2 (lCons (eVar 3) lNil))))))
  (bRetO (oMove 2))))
def hm_Store_steps : List (SD Hm) → RetM Hm := fnM (false :: l_Store_steps) 2 4 hb_Store_steps
/-! _law_stands: 0 rule 1 store -/
abbrev l_law_stands : List Bool := []
def hb_law_stands : Env Hm → Flow Hm :=
  (bSeq (bAsg (eNew "Store" 3 hm_Store___init__ (aVar 1 aNil)) (gN 2))
  (bSeq (bIf (tOrM (tE asB (eOp dNe (eFld ctab "rule" (eVar 2)) (eVar 1))) (tOrM (tE asB (eOp dNe (eFld ctab "last" (eVar 2)) (eC (.int 0)))) (tE truD (eIsi .bl (eFld ctab "last" (eVar 2)))))) (bRet (eC (.bool false))) bNx)
  (bRet (eAnd (eOpO dEq (rvE (eMethO "marks" [("Store", 2, hm_Store_marks)] (eVar 2) aNil)) (eFrz (oLst lNil))) (eAnd (eOpO dEq (rvE (eMethKO "stretch" [("Store", 7, hm_Store_stretch)] lay_stretch_1 1 0 (eVar 2) aNil aNil)) (eFrz (oLst lNil))) (eAnd (eOp dEq (eLenO [("Store", 2, hm_Store___len__)] (eVar 2)) (eC (.int 0))) (eOpO dEq (rvE (eMethO "steps" [("Store", 2, hm_Store_steps)] (eVar 2) aNil)) (eFrz (oLst lNil)))))))))
def hm_law_stands : List (SD Hm) → RetM Hm := fnM (false :: l_law_stands) 2 3 hb_law_stands
/-! _law_refused: 0 rule 1 e -/
abbrev l_law_refused : List Bool := []
def hb_law_refused : Env Hm → Flow Hm :=
  (bSeq (bTryA etab "NoRule" 2 (bDrop (eNew "Store" 3 hm_Store___init__ (aVar 1 aNil))) (fun ec => (bRet (eIsE etab ec "FallError"))))
  (bRet (eC (.bool false))))
def hm_law_refused : List (SD Hm) → RetM Hm := fnM (false :: l_law_refused) 2 3 hb_law_refused
/-! law: 0 script 1 k 2 state 3 rule 4 thing 5 due -/
abbrev l_law : List Bool := []
def b_law : Env Hm → Flow Hm :=
  (bSeq (bFor (iB rngI (lCons (eCB dMaxA (lCons (eC (.int 1)) (lCons (eCB dMinA (lCons (eC (.int 16)) (lCons (eLenV 1) lNil))) lNil))) lNil)) (gN 2) (bEnd [2, 3, 4, 5] (bSeq (bOwn 3 (oLst (lCons (eOp dAdd (rvE (eCallP l_law_cell_at 2 m_law_cell_at (lCons (eVar 1) (lCons (eVar 2) lNil)))) (eOp dMul (eC (.int 23)) (eVar 2))) lNil)))
  (bSeq (bAsg (eLow [true, true, false, true, true, true] (eCall l_law_good 1 m_law_good (aVar 2 aNil))) (gN 4))
  (bFor (iL (eFrz (oLst (lCons (eVar 4) (lCons (eLow [true, true, false, true, true, true] (eCall l_law_spoilt 2 m_law_spoilt (aVar 2 (aVar 3 aNil)))) lNil))))) (gN 5) (bEnd [5, 6] (bSeq (bAsg (rvE (eCallP l_law_is_rule 1 m_law_is_rule (lCons (eVar 5) lNil))) (gN 6))
  (bSeq (bIf (tNotM (tE truD (rvE (eCallP l_law_truth 2 m_law_truth (lCons (rvE (eCallP l_is_rule 1 m_is_rule (lCons (eVar 5) lNil))) (lCons (eVar 6) lNil)))))) (bRet (eC (.bool false))) bNx)
  (bIf (tOrM (tAndM (tTrV 6) (tNotM (tE truD (eCall (false :: l_law_stands) 2 hm_law_stands (aVar 5 aNil))))) (tAndM (tNotM (tTrV 6)) (tNotM (tE truD (eCall (false :: l_law_refused) 2 hm_law_refused (aVar 5 aNil)))))) (bRet (eC (.bool false))) bNx)))))))))
  (bRet (eC (.bool true))))
def hh_law : List (SD Hm) → RetM Hm := fnM (false :: l_law) 2 7 b_law
def m_law : List (SD Om) → RetM Om := hmM hh_law
end My
namespace My
open PySem PySem.Spec PyProof.Rows L2 Evl Ny Ve
local macro_rules | `(tactic| walk_at "ev") => `(tactic| simp -dsimp -implicitDefEqProofs only [↓reduceIte, ↓tr_e, ↓rp_low, ↓rp_lowT, ↓rp_lowL, ↓rp_lowO, ↓fp_low, ↓rp_lend, ↓rp_lendT, ↓rp_lendO, ↓fp_lendD, ↓rp_nm, ↓rp_nmo, ↓rp_mtR, ↓fp_forR, ↓rp_callHO, ↓rm_hm, ↓rp_bind, ↓rp_ok, ↓rp_err, ↓fp_fl, ↓fp_nx, ↓fp_rt, ↓fp_bNx, ↓fp_bBk, ↓fp_bCt, ↓fp_seq, ↓fp_if, ↓fp_ret, ↓fp_retO, ↓fp_retN, ↓fp_drop, ↓fp_asg, ↓fp_own, ↓fp_raise, ↓fp_end, ↓fp_for, ↓fp_frz, ↓fp_setV, ↓fp_forNil, ↓retK_rt, ↓retK_er, ↓rp_var, ↓rp_c, ↓rp_op, ↓rp_un, ↓rp_cb, ↓rp_lnil, ↓rp_lcons, ↓rp_tup, ↓rp_lst, ↓rp_newD, ↓rp_frz, ↓rp_if, ↓rp_and, ↓rp_or, ↓rp_chain, ↓rp_te, ↓rp_tand, ↓rp_tor, ↓rp_tnot, ↓rp_yes, ↓rp_ixv, ↓rp_lenv, ↓rp_eqv, ↓rp_trv, ↓rp_isi, ↓rp_pno, ↓rp_pi, ↓rp_sl, ↓rp_slv, ↓rp_osl, ↓rp_mt, ↓rp_listM, ↓rp_oadd, ↓rp_sorti, ↓rp_sortr, ↓rp_move, ↓rp_gn, ↓rp_gt, ↓rp_gst, ↓rp_gnil, ↓rp_gcons, ↓rp_il, ↓rp_it, ↓rp_is, ↓rp_ib, ↓rp_lc, ↓rp_lcNil, ↓rp_anil, ↓rp_avar, ↓rp_ae, ↓rp_callO, ↓rp_call, ↓rp_ocall, ↓rp_go, ↓rp_callKO, ↓rp_callK, ↓rp_ocallK, ↓fp_slc, ↓rp_ao, ↓rp_aet, ↓rp_avart, ↓rp_callTO, ↓rp_callT, ↓rp_ocallT, ↓rp_sortu, ↓rp_bor, ↓rp_m0, ↓rp_m1, ↓rp_disp1, ↓rp_rgl, ↓rp_extend, ↓fp_putD, ↓rp_clearD, ↓fp_frzK, ↓rp_frzK, ↓rp_dictM, ↓rp_inv, ↓rp_ik, ↓rp_revL, ↓rp_borD, ↓rp_lendK, ↓fp_tryO, ↓fp_tryA, ↓rp_isE, ↓rp_rvE, ↓rp_rvO, ↓rp_fld, ↓fp_fld, ↓fp_fldA, ↓rp_new, ↓rp_meth, ↓rp_methK, ↓rp_goH, ↓rp_unM, ↓rp_lenO, ↓rp_callP, ↓rp_callPK, ↓rp_goP, ↓rp_ixR, ↓rp_lenR, ↓rp_inD, ↓rp_dget, ↓rp_opO, ↓rp_cbO, ↓rp_trO, ↓rp_listR, ↓rp_addR, ↓rp_oslR, ↓rp_slR, ↓rp_sortX, ↓fp_putR, ↓fp_setR, ↓rp_extR, ↓rp_mtR2, ↓rp_isO, ↓fp_forN, fp_loopN0, ↓rp_iItM, ↓rp_iVaM, ↓rp_dc, ↓rp_dcNil, Nat.add_zero, cellA_cons, cell_hx, cell_hx0, rvI_i, ap_last, eqb_l0, clen_hx, set_hx, set_hx0, app_hx, len_hx, app_app, lstC_l, lstC_d, dctC_d, dctC_l, dctW_d, dctW_l, dctC_o, lstC_o, atOb_o, atM2_s, atL_l, fget_n, fget_c, fput_n, fput_c, mLook_n, mLook_c, inc_i, dec_i, refOf_ref, resR_v, resR_o, upRv_v, upRv_o, resX_n, resX_s, mapO_n, mapO_c, opnd_n, ixR_l, ixR_t, ixR_s, lenR_l, lenR_t, dctO_r, seqL_c, ixR_c, lenR_c, copyR_c, slR_c, sortX_c, sortX_l, orO_s, orO_n, intsOf_n, intsOf_c, sortI_nil, sortI_one, nameC_o, isO_c, openD_c, openLs_p, asE_nil, seqL_l, copy_l, copy_t, slR_l, slR_s, slR_t, layD, argP_p, argP_r, opnd_p, resOk_b, resOk_i, resOk_s, resOk_n, resOk_p, resOk_f, resRs_p, openD_p, opens_p, et_0, et_1, et_2, et_3, et_4, et_5, et_6, et_7, ct_Leaf_busy, ct_Leaf_done, ct_Leaf_fresh, ct_Leaf_kept, ct_Leaf_last, ct_Leaf_number, ct_Leaf_rows, ct_Leaf_rule, ct_Leaf_top, ct_Room_busy, ct_Room_done, ct_Room_fresh, ct_Room_kept, ct_Room_last, ct_Room_number, ct_Room_rows, ct_Room_rule, ct_Room_top, ct_Store_busy, ct_Store_done, ct_Store_fresh, ct_Store_kept, ct_Store_last, ct_Store_number, ct_Store_rows, ct_Store_rule, ct_Store_top, 
  pu_n, pu_i, pu_b, pu_s, pu_l, pu_t, pus_nil, pus_cons, pus_app, pus_ints, lendV_pure, lendW_pure, lendE_cons, lendL_nil, lendL_none, lendL_val, lendL_lst, lendL_dct, flatO_n, flatO_b, flatO_i, flatO_s, dnE_cons, dnL_nil, dnL_none, dnL_val, dnL_lst, dnL_dct, upE_cons, upL_nil, upL_none, upL_val, upL_lst, upL_dct, upS_val, upS_lst, upS_dct, upR_val, upR_own, lok_nil, lok_n, lok_t, lok_f, valO_none, valO_val, hmOf_cons, cellS_lst, cellS_dct, cellL_cons, putC_cons, refOf_r, pua_nil, pua_val, pua_lst, pur_val, pur_lst, puo_cons, puo_nil, puL_nil, puL_none, puL_val, puL_lst, atO_some, atO_none, atV_some, atM_lst, atM_dct, atO_ite, atO_map, atO_bind, atI_lit, atI_m1, ixN_lit, as_b, as_t, as_l, as_s, as_i, tr_n, tr_b, tr_i, tr_l, tr_t, tr_d, tr_s, not_b, neg_i, add_i, add_l, add_s, add_t, sub_i, lt_i, le_i, gt_i, ge_i, atO_mul, atO_mod, atO_div, atO_pow, eqb_i, eqb_s, eqb_b, deq_e, dne_e, isn_n, isn_b, isN_n, isN_b, no_n, no_i, no_b, no_s, noo_l, no_t, nr_n, nr_b, nr_i, nr_s, nr_l, nr_t, nr_d0, nr_di, nr_ds, dix_l, dix_t, len_l, len_t, len_s, int_i, int_b, max_ii, min_ii, abs_i, frz_l, frz_d, set_i, rv_v, rv_o, rvo_o, mt_app, isl_l, isl_t, lst_of, valS, flatD, ints1_l, one_l, one_d, ol_l, ol_t, tup_l, tup_t, mt_clr, isstr_s, part_s, split_s, join_l, strip_s, starts_s, upper_s, str_i, str_s, str_n, slotE, as_l, muls_s, keyd_i, keyd_s, adv_e, adc_e, isl_s, dix_s, sep1, sep2, sep3, sep4, sep5, sep6, sep7, layAD, Src.pick, List.filterMap_cons, List.filterMap_nil, cutd_to, cutd_13, rngD_0, rngD_s, rng_1, rng_2, enu_l, zip_l, zip_t, eqb_nn, rev_l,
  List.isEmpty_nil, List.isEmpty_cons, List.map_cons, List.map_nil, List.take_succ_cons, List.take_zero, List.drop_succ_cons, List.drop_zero, List.replicate_succ, List.replicate_zero, List.nil_append, List.cons_append, List.length_cons, List.length_nil, List.set_cons_zero, List.set_cons_succ, List.getElem?_cons_zero, List.getElem?_cons_succ, List.getElem?_nil, Nat.reduceAdd, Nat.reduceSub, Nat.reduceLT, Nat.reduceLeDiff, Nat.reduceEqDiff, Int.reducePow, Int.reduceAdd, Int.reduceSub, Int.reduceMul, Int.reduceNeg, Int.reduceLT, Int.reduceLE, Int.reduceToNat, Int.reduceMod, Int.reduceDiv, Int.reduceEq, Int.reduceNe,
  slotD, slotL, hasS, frzAt, resAs, resA, valA, isVal, okA, wb, padE, outsE, dropE, wipeE, isSomeS, List.take_succ_cons, isiB, PyData.kd, Kd.isi, Option.isSome_some, Option.isSome_none, Option.bind_some, Option.bind_none, Option.map_some, Option.map_none, true_and, and_true, false_and, and_false, Bool.not_true, Bool.not_false, Bool.not_not, Bool.and_true, Bool.true_and, Bool.and_false, Bool.false_and, List.all_nil, List.all_cons, List.contains_nil, Bool.false_eq_true, decide_eq_true_eq, Bool.not_eq_true', decide_eq_false_iff_not, reduceCtorEq, Int.cast_ofNat_Int, not_true_eq_false, not_false_eq_true, ne_eq, true_or, or_true, false_or, or_false, str_inj, String.reduceEq, decide_true, decide_false])
local macro_rules | `(tactic| walk_at "ei") => `(tactic| simp -dsimp -implicitDefEqProofs only [↓reduceIte, ↓tr_e, ↓rp_low, ↓rp_lowT, ↓rp_lowL, ↓rp_lowO, ↓fp_low, ↓rp_lend, ↓rp_lendT, ↓rp_lendO, ↓fp_lendD, ↓rp_nm, ↓rp_nmo, ↓rp_mtR, ↓fp_forR, ↓rp_callHO, ↓rm_hm, ↓rp_bind, ↓rp_ok, ↓rp_err, ↓fp_fl, ↓fp_nx, ↓fp_rt, ↓fp_bNx, ↓fp_bBk, ↓fp_bCt, ↓fp_seq, ↓fp_ret, ↓fp_retO, ↓fp_retN, ↓fp_drop, ↓fp_asg, ↓fp_own, ↓fp_raise, ↓fp_end, ↓fp_for, ↓fp_frz, ↓fp_setV, ↓fp_forNil, ↓retK_rt, ↓retK_er, ↓rp_var, ↓rp_c, ↓rp_op, ↓rp_un, ↓rp_cb, ↓rp_lnil, ↓rp_lcons, ↓rp_tup, ↓rp_lst, ↓rp_newD, ↓rp_frz, ↓rp_if, ↓rp_and, ↓rp_or, ↓rp_chain, ↓rp_te, ↓rp_tand, ↓rp_tor, ↓rp_tnot, ↓rp_yes, ↓rp_ixv, ↓rp_lenv, ↓rp_eqv, ↓rp_trv, ↓rp_isi, ↓rp_pno, ↓rp_pi, ↓rp_sl, ↓rp_slv, ↓rp_osl, ↓rp_mt, ↓rp_listM, ↓rp_oadd, ↓rp_sorti, ↓rp_sortr, ↓rp_move, ↓rp_gn, ↓rp_gt, ↓rp_gst, ↓rp_gnil, ↓rp_gcons, ↓rp_il, ↓rp_it, ↓rp_is, ↓rp_ib, ↓rp_lc, ↓rp_lcNil, ↓rp_anil, ↓rp_avar, ↓rp_ae, ↓rp_callO, ↓rp_call, ↓rp_ocall, ↓rp_go, ↓rp_callKO, ↓rp_callK, ↓rp_ocallK, ↓fp_slc, ↓rp_ao, ↓rp_aet, ↓rp_avart, ↓rp_callTO, ↓rp_callT, ↓rp_ocallT, ↓rp_sortu, ↓rp_bor, ↓rp_m0, ↓rp_m1, ↓rp_disp1, ↓rp_rgl, ↓rp_extend, ↓fp_putD, ↓rp_clearD, ↓fp_frzK, ↓rp_frzK, ↓rp_dictM, ↓rp_inv, ↓rp_ik, ↓rp_revL, ↓rp_borD, ↓rp_lendK, ↓fp_tryO, ↓fp_tryA, ↓rp_isE, ↓rp_rvE, ↓rp_rvO, ↓rp_fld, ↓fp_fld, ↓fp_fldA, ↓rp_new, ↓rp_meth, ↓rp_methK, ↓rp_goH, ↓rp_unM, ↓rp_lenO, ↓rp_callP, ↓rp_callPK, ↓rp_goP, ↓rp_ixR, ↓rp_lenR, ↓rp_inD, ↓rp_dget, ↓rp_opO, ↓rp_cbO, ↓rp_trO, ↓rp_listR, ↓rp_addR, ↓rp_oslR, ↓rp_slR, ↓rp_sortX, ↓fp_putR, ↓fp_setR, ↓rp_extR, ↓rp_mtR2, ↓rp_isO, ↓fp_forN, fp_loopN0, ↓rp_iItM, ↓rp_iVaM, ↓rp_dc, ↓rp_dcNil, Nat.add_zero, cellA_cons, cell_hx, cell_hx0, rvI_i, ap_last, eqb_l0, clen_hx, set_hx, set_hx0, app_hx, len_hx, app_app, lstC_l, lstC_d, dctC_d, dctC_l, dctW_d, dctW_l, dctC_o, lstC_o, atOb_o, atM2_s, atL_l, fget_n, fget_c, fput_n, fput_c, mLook_n, mLook_c, inc_i, dec_i, refOf_ref, resR_v, resR_o, upRv_v, upRv_o, resX_n, resX_s, mapO_n, mapO_c, opnd_n, ixR_l, ixR_t, ixR_s, lenR_l, lenR_t, dctO_r, seqL_c, ixR_c, lenR_c, copyR_c, slR_c, sortX_c, sortX_l, orO_s, orO_n, intsOf_n, intsOf_c, sortI_nil, sortI_one, nameC_o, isO_c, openD_c, openLs_p, asE_nil, seqL_l, copy_l, copy_t, slR_l, slR_s, slR_t, layD, argP_p, argP_r, opnd_p, resOk_b, resOk_i, resOk_s, resOk_n, resOk_p, resOk_f, resRs_p, openD_p, opens_p, et_0, et_1, et_2, et_3, et_4, et_5, et_6, et_7, ct_Leaf_busy, ct_Leaf_done, ct_Leaf_fresh, ct_Leaf_kept, ct_Leaf_last, ct_Leaf_number, ct_Leaf_rows, ct_Leaf_rule, ct_Leaf_top, ct_Room_busy, ct_Room_done, ct_Room_fresh, ct_Room_kept, ct_Room_last, ct_Room_number, ct_Room_rows, ct_Room_rule, ct_Room_top, ct_Store_busy, ct_Store_done, ct_Store_fresh, ct_Store_kept, ct_Store_last, ct_Store_number, ct_Store_rows, ct_Store_rule, ct_Store_top, 
  pu_n, pu_i, pu_b, pu_s, pu_l, pu_t, pus_nil, pus_cons, pus_app, pus_ints, lendV_pure, lendW_pure, lendE_cons, lendL_nil, lendL_none, lendL_val, lendL_lst, lendL_dct, flatO_n, flatO_b, flatO_i, flatO_s, dnE_cons, dnL_nil, dnL_none, dnL_val, dnL_lst, dnL_dct, upE_cons, upL_nil, upL_none, upL_val, upL_lst, upL_dct, upS_val, upS_lst, upS_dct, upR_val, upR_own, lok_nil, lok_n, lok_t, lok_f, valO_none, valO_val, hmOf_cons, cellS_lst, cellS_dct, cellL_cons, putC_cons, refOf_r, pua_nil, pua_val, pua_lst, pur_val, pur_lst, puo_cons, puo_nil, puL_nil, puL_none, puL_val, puL_lst, atO_some, atO_none, atV_some, atM_lst, atM_dct, atO_ite, atO_map, atO_bind, atI_lit, atI_m1, ixN_lit, as_b, as_t, as_l, as_s, as_i, tr_n, tr_b, tr_i, tr_l, tr_t, tr_d, tr_s, not_b, neg_i, add_i, add_l, add_s, add_t, sub_i, lt_i, le_i, gt_i, ge_i, atO_mul, atO_mod, atO_div, atO_pow, eqb_i, eqb_s, eqb_b, deq_e, dne_e, isn_n, isn_b, isN_n, isN_b, no_n, no_i, no_b, no_s, noo_l, no_t, nr_n, nr_b, nr_i, nr_s, nr_l, nr_t, nr_d0, nr_di, nr_ds, dix_l, dix_t, len_l, len_t, len_s, int_i, int_b, max_ii, min_ii, abs_i, frz_l, frz_d, set_i, rv_v, rv_o, rvo_o, mt_app, isl_l, isl_t, lst_of, valS, flatD, ints1_l, one_l, one_d, ol_l, ol_t, tup_l, tup_t, mt_clr, isstr_s, part_s, split_s, join_l, strip_s, starts_s, upper_s, str_i, str_s, str_n, slotE, as_l, muls_s, keyd_i, keyd_s, adv_e, adc_e, isl_s, dix_s, sep1, sep2, sep3, sep4, sep5, sep6, sep7, layAD, Src.pick, List.filterMap_cons, List.filterMap_nil, cutd_to, cutd_13, rngD_0, rngD_s, rng_1, rng_2, enu_l, zip_l, zip_t, eqb_nn, rev_l,
  List.isEmpty_nil, List.isEmpty_cons, List.map_cons, List.map_nil, List.take_succ_cons, List.take_zero, List.drop_succ_cons, List.drop_zero, List.replicate_succ, List.replicate_zero, List.nil_append, List.cons_append, List.length_cons, List.length_nil, List.set_cons_zero, List.set_cons_succ, List.getElem?_cons_zero, List.getElem?_cons_succ, List.getElem?_nil, Nat.reduceAdd, Nat.reduceSub, Nat.reduceLT, Nat.reduceLeDiff, Nat.reduceEqDiff, Int.reducePow, Int.reduceAdd, Int.reduceSub, Int.reduceMul, Int.reduceNeg, Int.reduceLT, Int.reduceLE, Int.reduceToNat, Int.reduceMod, Int.reduceDiv, Int.reduceEq, Int.reduceNe,
  slotD, slotL, hasS, frzAt, resAs, resA, valA, isVal, okA, wb, padE, outsE, dropE, wipeE, isSomeS, List.take_succ_cons, isiB, PyData.kd, Kd.isi, Option.isSome_some, Option.isSome_none, Option.bind_some, Option.bind_none, Option.map_some, Option.map_none, true_and, and_true, false_and, and_false, Bool.not_true, Bool.not_false, Bool.not_not, Bool.and_true, Bool.true_and, Bool.and_false, Bool.false_and, List.all_nil, List.all_cons, List.contains_nil, Bool.false_eq_true, decide_eq_true_eq, Bool.not_eq_true', decide_eq_false_iff_not, reduceCtorEq, Int.cast_ofNat_Int, not_true_eq_false, not_false_eq_true, ne_eq, true_or, or_true, false_or, or_false, str_inj, String.reduceEq, decide_true, decide_false])
local macro_rules | `(tactic| walk_at "sd") => `(tactic| first
  | (with_reducible assumption) | (with_reducible exact True.intro)
  | (with_reducible exact mulOk_r (by omega) (by omega))
  | (with_reducible exact mulOk_l (by omega) (by omega))
  | omega
  | (simp only [List.length_map, List.length_append, List.length_cons, List.length_nil, List.length_range] <;> omega)
  | ((with_reducible refine And.intro ?_ ?_) <;> walk_at "sd")
  | decide)
local macro_rules | `(tactic| walk_at "st") => `(tactic| repeat' (first | walk_at "ev" | ((with_reducible refine And.intro ?side ?_); (case side => walk_at "sd")) | fail))
local macro_rules | `(tactic| walk_at "si") => `(tactic| repeat' (first | walk_at "ei" | ((with_reducible refine And.intro ?side ?_); (case side => walk_at "sd")) | fail))
local macro_rules | `(tactic| walk_at "un") => `(tactic| simp -dsimp -implicitDefEqProofs only [↓rp_lcCons, ↓fp_forCons])
local macro_rules | `(tactic| walk_at "fn") => `(tactic| (refine rm_fn rfl ?_))
-- @@
-- @fields list: kept done dict: data: rule last fresh busy number rows tray
-- @deadrest values_in 1
-- @obj _law_stands._law_store
-- @om pairs_in found found!
theorem rng_any {lo : Int} {n : Nat} {d : D} (h : d ∈ rngD lo n) : ∃ i : Nat, i < n ∧ d = .int (lo + i) := by
  obtain ⟨i, hi, rfl⟩ := List.mem_map.mp h
  exact ⟨i, List.mem_range.mp hi, rfl⟩
theorem rngD_len {lo : Int} {n : Nat} : (rngD lo n).length = n := by unfold rngD; rw [List.length_map, List.length_range]
def Sd (st : List D) : Prop := (∃ c, st = [.int c]) ∨ ∃ a b c, st = [.int a, .int b, .int c]
theorem r_digit {st : List D} {n : Int} (hs : Sd st) {Q X} (hn : 0 < n) (hb : n < 10 ^ 200) (h : ∀ d st', Sd st' → 0 ≤ d → d < n → Q (.val (.int d)) [some (.lst st')]) : RM (m_law_digit [.lst st, .val (.int n)]) Q X := by
  have done : ∀ (d a b c : Int), 0 ≤ d → d < n → Q (.val (.int d)) [some (.lst [.int a, .int b, .int c])] := fun d a b c h0 h1 => h d _ (.inr ⟨a, b, c, rfl⟩) h0 h1
  unfold m_law_digit
  refine rm_fn rfl ?_
  unfold b_law_digit
  rcases hs with ⟨c, rfl⟩ | ⟨a, b, c, rfl⟩
  · walk_at "st"
    refine atO_ixI [0, c] (by split <;> omega) (by simp; split <;> omega) ?_
    intro x _
    walk_at "ev"
    refine ite_intro (fun h0 => ?_) (fun h0 => ?_)
    · exact ⟨hn, ⟨hn, hb⟩, done _ _ _ _ (Int.emod_nonneg _ (by omega)) (Int.emod_lt_of_pos _ hn)⟩
    · refine ⟨mulOk_l (by omega) (by omega), mulOk_r (by omega) (by omega), mulOk_l (by omega) (by omega), mulOk_l (by omega) (by omega), hn, done _ _ _ _ (Int.emod_nonneg _ (by omega)) (Int.emod_lt_of_pos _ hn)⟩
  · walk_at "ev"
    refine ite_intro (fun h0 => ?_) (fun h0 => ?_)
    · exact ⟨hn, ⟨hn, hb⟩, done _ _ _ _ (Int.emod_nonneg _ (by omega)) (Int.emod_lt_of_pos _ hn)⟩
    · refine ⟨mulOk_l (by omega) (by omega), mulOk_r (by omega) (by omega), mulOk_l (by omega) (by omega), mulOk_l (by omega) (by omega), hn, done _ _ _ _ (Int.emod_nonneg _ (by omega)) (Int.emod_lt_of_pos _ hn)⟩
local macro_rules | `(tactic| walk_at "dig") => `(tactic| (refine r_digit (by first | assumption | (exact Or.inl ⟨_, rfl⟩)) (by walk_at "sd") (by walk_at "sd") ?_))
theorem r_cellAt {ns : List Int} {k : Nat} {Q X} (h : ∀ c, Q (.val (.int c)) []) : RM (m_law_cell_at [.val (intsD ns), .val (.int k)]) Q X := by
  unfold m_law_cell_at b_law_cell_at
  walk_at "fn"; walk_at "st"
  refine ite_intro (fun hk => ?_) (fun hk => ?_)
  · walk_at "st"
    refine atO_ixI ns (by omega) (by simpa using hk) ?_
    intro c _; walk_at "st"; exact h c
  · walk_at "st"; exact h _
theorem pure_nr {d : D} (h : pureD d = true) : noRef d = true := by unfold noRef; rw [pure_ref h]; rfl
/-- a thing told: pure, shaped -/
structure Th (d : D) : Prop where
  p : pureD d = true
  c : d.canLay0 = true
theorem Th.str {x : Str} (h : Th (.str x)) : Sh 0 (.str x) := ⟨h.c, Nat.le_refl _⟩
theorem th_all {l : List D} (h : pureDs l = true) (hc : PyData.canLayAll0 l = true) : ∀ d ∈ l, Th d := by
  induction l with
  | nil => nofun
  | cons a l ih =>
    rw [pureDs, Bool.and_eq_true] at h
    rw [PyData.canLayAll0, Bool.and_eq_true] at hc
    intro d hd
    rcases List.mem_cons.mp hd with rfl | hd
    · exact ⟨h.1, hc.1⟩
    · exact ih h.2 hc.2 d hd
theorem Th.tup {l : List D} (h : Th (.tuple l)) : ∀ d ∈ l, Th d := th_all (by have := h.p; rw [pureD] at this; exact this) (by have := h.c; rw [PyData.canLay0] at this; exact this)
theorem th_of {l : List D} (h : ∀ d ∈ l, Th d) : pureDs l = true ∧ PyData.canLayAll0 l = true := by
  induction l with
  | nil => exact ⟨rfl, rfl⟩
  | cons a l ih =>
    obtain ⟨i1, i2⟩ := ih fun d hd => h d (List.mem_cons_of_mem _ hd)
    have q := h a List.mem_cons_self
    rw [pureDs, PyData.canLayAll0, i1, i2, q.p, q.c]; exact ⟨rfl, rfl⟩
theorem Th.mk_tup {l : List D} (h : ∀ d ∈ l, Th d) : Th (.tuple l) := ⟨by rw [pureD]; exact (th_of h).1, by rw [PyData.canLay0]; exact (th_of h).2⟩
theorem Th.mk_lst {l : List D} (h : ∀ d ∈ l, Th d) : Th (.list l) := ⟨by rw [pureD]; exact (th_of h).1, by rw [PyData.canLay0]; exact (th_of h).2⟩
theorem Th.int {i : Int} : Th (.int i) := ⟨rfl, rfl⟩
theorem Th.bool {i : Bool} : Th (.bool i) := ⟨rfl, rfl⟩
theorem Th.none : Th .none := ⟨rfl, rfl⟩
theorem Th.lit {s : String} : Th (.str s) := ⟨rfl, (sh_str (n := 0) (okS_lit s)).1⟩
def wholeB : D → Int → Int → Bool
  | .int i, a, b => decide (a ≤ i) && decide (i ≤ b)
  | _, _, _ => false
theorem whole_i {i a b : Int} : wholeB (.int i) a b = (decide (a ≤ i) && decide (i ≤ b)) := rfl
def planB (p : Str) : Bool := Str.ofString "fullest" == p || Str.ofString "eldest" == p
theorem in_plans {p : Str} (h : Th (.str p)) : dIn (.str p) (.list [.str "fullest", .str "eldest"]) = some (.bool (planB p)) := by
  rw [in_l, if_pos ⟨h.str.shaped, by decide +kernel⟩]; simp [PyData.eqv, planB]
theorem in_plant {p : Str} : dIn (.str p) (.tuple [.str "fullest", .str "eldest"]) = some (.bool (planB p)) := by
  rw [in_t, if_pos ⟨rfl, rfl⟩]; simp [PyData.eqv, planB]
def planD : D → Bool
  | .str p => planB p
  | _ => false
def ruleB : D → Bool
  | .tuple [a, b, c, p] => wholeB a 1 64 && (wholeB b 3 16 && (wholeB c 1 64 && planD p))
  | _ => false
theorem r_whole {d : D} (hp : Th d) {a b : Int} {Q X} (h : Q (.val (.bool (wholeB d a b))) []) : RM (m_is_whole [.val d, .val (.int a), .val (.int b)]) Q X := by
  have hn := pure_nr hp.p
  unfold m_is_whole b_is_whole
  cases d
  all_goals
    walk_at "fn"; walk_at "ev"
    try first | exact h | exact ⟨hn, h⟩
  rename_i i
  rw [whole_i] at h
  by_cases q : a ≤ i
  · rw [if_pos q]; rw [decide_eq_true q, Bool.true_and] at h; exact h
  · rw [if_neg q]; rw [decide_eq_false q, Bool.false_and] at h; exact h
theorem r_between {d : D} (hp : Th d) {a b : Int} {Q X} (h : Q (.val (.bool (wholeB d a b))) []) : RM (m_law_between [.val d, .val (.int a), .val (.int b)]) Q X := by
  have hn := pure_nr hp.p
  unfold m_law_between b_law_between
  cases d
  all_goals
    walk_at "fn"; walk_at "ev"
    try first | exact h | exact ⟨hn, h⟩
  rename_i i
  rw [whole_i] at h
  by_cases q : a ≤ i
  · rw [if_pos q]; rw [decide_eq_true q, Bool.true_and] at h; exact h
  · rw [if_neg q]; rw [decide_eq_false q, Bool.false_and] at h; exact h
theorem rule_len {l : List D} (h : l.length ≠ 4) : ruleB (.tuple l) = false := by
  match l, h with
  | [], _ => rfl
  | [_], _ => rfl
  | [_, _], _ => rfl
  | [_, _, _], _ => rfl
  | [_, _, _, _], h => exact absurd rfl h
  | _ :: _ :: _ :: _ :: _ :: _, _ => rfl
theorem four {l : List D} (h : l.length = 4) : ∃ a b c d, l = [a, b, c, d] := by
  match l, h with
  | [a, b, c, d], _ => exact ⟨a, b, c, d, rfl⟩
theorem rule_4 {a b c p : D} : ruleB (.tuple [a, b, c, p]) = (wholeB a 1 64 && (wholeB b 3 16 && (wholeB c 1 64 && planD p))) := rfl
theorem r_isRule {d : D} (hp : Th d) {Q X} (h : Q (.val (.bool (ruleB d))) []) : RM (m_is_rule [.val d]) Q X := by
  have hn := pure_nr hp.p
  unfold m_is_rule b_is_rule
  cases d
  all_goals
    walk_at "fn"; walk_at "ev"
    try first | exact h | exact ⟨hn, h⟩
  rename_i l
  refine ite_intro (fun q => ?_) (fun q => ?_)
  · rw [rule_len (by omega)] at h; exact h
  obtain ⟨a, b, c, d, rfl⟩ := four (l := l) (by simp only [ne_eq, Classical.not_not] at q; omega)
  have hm := hp.tup
  simp only [List.mem_cons, List.not_mem_nil, or_false, forall_eq_or_imp, forall_eq] at hm
  obtain ⟨ha, hb, hc, hd⟩ := hm
  rw [rule_4] at h
  walk_at "st"; refine r_whole ha ?_
  generalize wholeB a 1 64 = wa at h ⊢
  cases wa
  · walk_at "st"; exact h
  walk_at "st"; refine r_whole hb ?_
  generalize wholeB b 3 16 = wb at h ⊢
  cases wb
  · walk_at "st"; exact h
  walk_at "st"; refine r_whole hc ?_
  generalize wholeB c 1 64 = wc at h ⊢
  cases wc
  · walk_at "st"; exact h
  have hn := pure_nr hd.p
  cases d
  all_goals
    walk_at "ev"
    try first | exact h | exact ⟨hn, h⟩
  rw [in_plant, atO_some]; exact h
theorem r_lawIsRule {d : D} (hp : Th d) {Q X} (h : Q (.val (.bool (ruleB d))) []) : RM (m_law_is_rule [.val d]) Q X := by
  have hn := pure_nr hp.p
  unfold m_law_is_rule b_law_is_rule
  cases d
  all_goals
    walk_at "fn"; walk_at "ev"
    try first | exact h | exact ⟨hn, h⟩
  rename_i l
  refine ite_intro (fun q => ?_) (fun q => ?_)
  · rw [rule_len (by omega)] at h; exact h
  obtain ⟨a, b, c, d, rfl⟩ := four (l := l) (by simp only [ne_eq, Classical.not_not] at q; omega)
  have hm := hp.tup
  simp only [List.mem_cons, List.not_mem_nil, or_false, forall_eq_or_imp, forall_eq] at hm
  obtain ⟨ha, hb, hc, hd⟩ := hm
  rw [rule_4] at h
  walk_at "st"; refine r_between ha ?_
  generalize wholeB a 1 64 = wa at h ⊢
  cases wa
  · walk_at "st"; exact h
  walk_at "st"; refine r_between hb ?_
  generalize wholeB b 3 16 = wb at h ⊢
  cases wb
  · walk_at "st"; exact h
  walk_at "st"; refine r_between hc ?_
  generalize wholeB c 1 64 = wc at h ⊢
  cases wc
  · walk_at "st"; exact h
  have hn := pure_nr hd.p
  cases d
  all_goals
    walk_at "st"
    try first | exact h | exact ⟨hn, h⟩
  rw [in_plans hd, atO_some]; exact h
theorem whole_form {d : D} {a b : Int} (h : wholeB d a b = true) : ∃ i, d = .int i := by
  cases d <;> first | exact ⟨_, rfl⟩ | cases h
theorem rule_form {d : D} (h : ruleB d = true) : ∃ (a b c : Int) (p : Str), d = .tuple [.int a, .int b, .int c, .str p] := by
  cases d
  case tuple l =>
    by_cases q : l.length = 4
    · obtain ⟨a, b, c, p, rfl⟩ := four q
      rw [rule_4] at h
      simp only [Bool.and_eq_true] at h
      obtain ⟨h1, h2, h3, h4⟩ := h
      obtain ⟨i, rfl⟩ := whole_form h1
      obtain ⟨j, rfl⟩ := whole_form h2
      obtain ⟨k, rfl⟩ := whole_form h3
      cases p <;> first | exact ⟨_, _, _, _, rfl⟩ | cases h4
    · rw [rule_len q] at h; cases h
  all_goals cases h
theorem rule_shaped {d : D} (hp : Th d) (h : ruleB d = true) : SeqAt.shaped d = true := by
  obtain ⟨a, b, c, p, rfl⟩ := rule_form h
  have := hp.tup (.str p) (by simp)
  exact (Sh.tup (n := 0) (by simp only [List.mem_cons, List.not_mem_nil, or_false, forall_eq_or_imp, forall_eq]; exact ⟨.int, .int, .int, this.str⟩)).shaped
theorem r_isKey {k : Int} (h0 : 0 ≤ k) (h1 : k < 1000000000000) {Q X} (h : Q (.val (.bool true)) []) : RM (m_is_key [.val (.int k)]) Q X := by
  unfold m_is_key b_is_key
  walk_at "fn"; walk_at "st"
  unfold m_is_whole b_is_whole
  walk_at "fn"; walk_at "st"
  rw [if_pos h0, decide_eq_true (show k ≤ 999999999999 by omega)]; exact h
theorem r_isStretch {lo hi : Int} (h0 : 0 ≤ lo) (h1 : lo < hi) (h2 : hi ≤ 1000000000000) {Q X} (h : Q (.val (.bool true)) []) : RM (m_is_stretch [.val (.int lo), .val (.int hi)]) Q X := by
  unfold m_is_stretch b_is_stretch
  walk_at "fn"; walk_at "st"; refine r_isKey h0 (by omega) ?_; walk_at "st"
  unfold m_is_whole b_is_whole
  walk_at "fn"; walk_at "st"
  rw [if_pos (show lo + 1 ≤ hi by omega), decide_eq_true h2]; exact h
theorem r_good {st : List D} (hs : Sd st) {Q X} (h : ∀ (a b c : Int) (p : String) st', Sd st' → Q (.val (.tuple [.int a, .int b, .int c, .str p])) [some (.lst st')]) : RM (m_law_good [.lst st]) Q X := by
  unfold m_law_good b_law_good
  walk_at "fn"; walk_at "st"; walk_at "dig"; intro d st hs d0 d1
  walk_at "st"; walk_at "dig"; intro e st hs e0 e1; walk_at "st"
  refine atO_ixI [1, 64, 1 + d] e0 (by simp; omega) ?_
  intro a _
  walk_at "st"; walk_at "dig"; intro d st hs d0 d1
  walk_at "st"; walk_at "dig"; intro e st hs e0 e1; walk_at "st"
  refine atO_ixI [3, 16, 3 + d] e0 (by simp; omega) ?_
  intro b _
  walk_at "st"; walk_at "dig"; intro d st hs d0 d1
  walk_at "st"; walk_at "dig"; intro e st hs e0 e1; walk_at "st"
  refine atO_ixI [1, 64, 1 + d] e0 (by simp; omega) ?_
  intro c _
  walk_at "st"; walk_at "dig"; intro e st hs e0 e1; walk_at "st"
  refine atO_ix e0 (by simp; omega) ?_
  intro p hp; walk_at "st"
  simp only [List.mem_cons, List.not_mem_nil, or_false] at hp
  rcases hp with rfl | rfl <;> exact h a b c _ _ hs
theorem cutd_mem {l : List D} {lo hi : Option Int} {x : D} (h : x ∈ Ve.cutD l lo hi) : x ∈ l := by
  unfold Ve.cutD at h; exact List.mem_of_mem_drop (List.mem_of_mem_take h)
theorem cutd_len {l : List D} {lo hi : Option Int} : (Ve.cutD l lo hi).length ≤ l.length := by
  unfold Ve.cutD; rw [List.length_take, List.length_drop]; omega
def ruD (a b c : Int) (p : String) : D := .tuple [.int a, .int b, .int c, .str p]
theorem th_ru {a b c : Int} {p : String} : Th (ruD a b c p) := Th.mk_tup (by
  simp only [List.mem_cons, List.not_mem_nil, or_false, forall_eq_or_imp, forall_eq]
  exact ⟨.int, .int, .int, .lit⟩)
theorem r_spoilt {st : List D} (hs : Sd st) {a b c : Int} {p : String} {Q X} (h : ∀ d st', Th d → Sd st' → Q (.val d) [some (.lst st')]) : RM (m_law_spoilt [.lst st, .val (ruD a b c p)]) Q X := by
  unfold m_law_spoilt b_law_spoilt
  walk_at "fn"; walk_at "st"; walk_at "dig"; intro w st hs w0 w1
  walk_at "st"; walk_at "dig"; intro e st hs e0 e1; walk_at "st"
  unfold ruD
  have hlits : ∀ x ∈ [PyData.int 0, PyData.int 1, PyData.int 2, PyData.int 3, PyData.int 16, PyData.int 17, PyData.int 64, PyData.int 65, PyData.int (-1), PyData.int 1000000000, PyData.bool true, PyData.bool false, PyData.none, PyData.str (Str.ofString "3"), PyData.str (Str.ofString "fullest"), PyData.str (Str.ofString "eldest"), PyData.str (Str.ofString "full"), PyData.str (Str.ofString ""), PyData.list [PyData.int 3], PyData.tuple [PyData.int 3]], Th x := by
    simp only [List.mem_cons, List.not_mem_nil, or_false, forall_eq_or_imp, forall_eq]
    exact ⟨.int, .int, .int, .int, .int, .int, .int, .int, .int, .int, .bool, .bool, .none, .lit, .lit, .lit, .lit, .lit, ⟨rfl, rfl⟩, ⟨rfl, rfl⟩⟩
  refine ite_intro (fun _ => ?_) (fun _ => ?_)
  · walk_at "st"
    exact h _ _ (Th.mk_lst (by simp only [List.mem_cons, List.not_mem_nil, or_false, forall_eq_or_imp, forall_eq]; exact ⟨.int, .int, .int, .lit⟩)) hs
  refine ite_intro (fun _ => ?_) (fun _ => ?_)
  · walk_at "st"
    exact h _ _ (Th.mk_tup (by simp only [List.mem_cons, List.not_mem_nil, or_false, forall_eq_or_imp, forall_eq]; exact ⟨.int, .int, .int, .lit, .int⟩)) hs
  have hm : ∀ x ∈ [PyData.int a, .int b, .int c, .str p], Th x := by
    simp only [List.mem_cons, List.not_mem_nil, or_false, forall_eq_or_imp, forall_eq]; exact ⟨.int, .int, .int, .lit⟩
  have hl : ∀ lo hi, (Ve.cutD [PyData.int a, .int b, .int c, .str p] lo hi).length ≤ 4 := fun lo hi => cutd_len
  refine ite_intro (fun _ => ?_) (fun _ => ?_)
  · have h1 := hl none (some e)
    have h2 := hl (some (e + 1)) none
    walk_at "st"
    refine h _ _ (Th.mk_tup fun x hx => ?_) hs
    rcases List.mem_append.mp hx with hx | hx <;> exact hm x (cutd_mem hx)
  refine ite_intro (fun _ => ?_) (fun _ => ?_)
  · walk_at "dig"; intro i st hs i0 i1; walk_at "st"
    refine atO_ix i0 (by simp; omega) ?_
    intro x hx; walk_at "st"
    refine h _ _ ?_ hs
    revert x
    simp only [List.mem_cons, List.not_mem_nil, or_false, forall_eq_or_imp, forall_eq]
    exact ⟨.none, .lit, .int, Th.mk_tup (by simp only [List.mem_cons, List.not_mem_nil, or_false, forall_eq]; exact th_ru), ⟨rfl, rfl⟩⟩
  · have h1 := hl none (some e)
    have h2 := hl (some (e + 1)) none
    walk_at "st"; walk_at "dig"; intro i st hs i0 i1; walk_at "st"
    refine atO_ix i0 (by simp; omega) ?_
    intro x hx; walk_at "st"
    refine h _ _ (Th.mk_tup fun y hy => ?_) hs
    rcases List.mem_append.mp hy with hy | hy
    · rcases List.mem_append.mp hy with hy | hy
      · exact hm y (cutd_mem hy)
      · rw [List.mem_singleton.mp hy]; exact hlits x hx
    · exact hm y (cutd_mem hy)
-- @cut
theorem r_lawCellAt {ns : List Int} {k : Nat} {Q X} (h : ∀ c, Q (.val (.int c)) []) : RM (m_law_cell_at [.val (intsD ns), .val (.int k)]) Q X := r_cellAt h
theorem r_refused {M : Hm} {d : D} (hp : Th d) (hr : ruleB d = false) {Q X} (h : ∀ M', Q (.val (.bool true)) [some (.ob M')]) : RM (hm_law_refused [.ob M, .val d]) Q X := by
  rw [hx_of (M := M)]
  unfold hm_law_refused hb_law_refused
  walk_at "fn"; walk_at "st"
  unfold hm_Store___init__ hb_Store___init__
  walk_at "fn"; walk_at "st"
  simp -dsimp -implicitDefEqProofs only [argP_p hp.p, opnd_p hp.p]
  walk_at "st"
  refine r_isRule hp ?_
  rw [hr]
  walk_at "st"
  exact h _
/-- what a fresh store is made of -/
def fr (d : D) (n : Nat) (g : List Cell) : List Cell := Cell.obj (Str.ofString "Store") [(Str.ofString "rule", d), (Str.ofString "last", PyData.int 0), (Str.ofString "kept", refD (n + 1)), (Str.ofString "fresh", PyData.int 1), (Str.ofString "top", refD (n + 2)), (Str.ofString "done", refD (n + 3)), (Str.ofString "busy", PyData.int 0)] ::
  Cell.lst [] :: Cell.obj (Str.ofString "Leaf") [(Str.ofString "number", PyData.int 0), (Str.ofString "rows", PyData.list [])] :: Cell.lst [] :: g
theorem r_marks {b : List Cell} {d : D} {g : List Cell} {Q X} (h : Q (.own (.lst [])) [some (.ob (hx b (fr d b.length g)))]) : RM (hm_Store_marks [.ob (hx b (fr d b.length g)), .val (refD b.length)]) Q X := by
  unfold fr at h ⊢
  unfold hm_Store_marks hb_Store_marks
  walk_at "fn"; walk_at "st"
  exact h
theorem r_values {b : List Cell} {d : D} {g : List Cell} {Q X} (h : Q (.own (.dct [])) [some (.ob (hx b (fr d b.length g)))]) : RM (hm_values_in [.ob (hx b (fr d b.length g)), .val (refD (b.length + 2)), .val (.int 0), .val (.int 1000000000000), .val .none]) Q X := by
  unfold fr at h ⊢
  unfold hm_values_in hb_values_in
  walk_at "fn"; walk_at "st"
  unfold hm_Room_is_leaf hb_Room_is_leaf
  walk_at "fn"; walk_at "st"
  exact h
theorem r_pairs {b : List Cell} {d : D} {g : List Cell} {Q X} (h : Q (.own (.lst [])) [some (.ob (hx b (fr d b.length (g ++ [.dct []]))))]) : RM (hm_pairs_in [.ob (hx b (fr d b.length g)), .val (refD (b.length + 2)), .val (.int 0), .val (.int 1000000000000), .val .none]) Q X := by
  unfold hm_pairs_in hb_pairs_in
  walk_at "fn"; walk_at "st"
  refine r_values ?_
  walk_at "st"
  exact h
theorem r_len {b : List Cell} {d : D} {g : List Cell} {Q X} (h : Q (.val (.int 0)) [some (.ob (hx b (fr d b.length (g ++ [.dct []]))))]) : RM (hm_Store___len__ [.ob (hx b (fr d b.length g)), .val (refD b.length)]) Q X := by
  unfold fr at h ⊢
  unfold hm_Store___len__ hb_Store___len__
  walk_at "fn"; walk_at "st"
  refine r_pairs ?_
  walk_at "st"
  exact h
theorem r_spairs {b : List Cell} {d : D} {g : List Cell} {Q X} (h : Q (.own (.lst [])) [some (.ob (hx b (fr d b.length (g ++ [.dct []]))))]) : RM (hm_Store_pairs [.ob (hx b (fr d b.length g)), .val (refD b.length), .val (.int 0), .val (.int 1000000000000), .val .none]) Q X := by
  unfold fr at h ⊢
  unfold hm_Store_pairs hb_Store_pairs
  walk_at "fn"; walk_at "st"
  refine r_isStretch (by decide) (by decide) (by decide) ?_
  walk_at "st"
  unfold hm_Store_look hb_Store_look
  walk_at "fn"; walk_at "st"
  refine r_pairs ?_
  walk_at "st"
  exact h
theorem r_stretch {b : List Cell} {d : D} {g : List Cell} {Q X} (h : Q (.val (.list [])) [some (.ob (hx b (fr d b.length (g ++ [.dct []]))))]) : RM (hm_Store_stretch [.ob (hx b (fr d b.length g)), .val (refD b.length), .val (.int 0), .val (.int 1000000000000), .val .none, .val .none, .val (.bool false)]) Q X := by
  unfold fr at h ⊢
  unfold hm_Store_stretch hb_Store_stretch
  walk_at "fn"; walk_at "st"
  refine r_spairs ?_
  walk_at "st"
  exact h
theorem r_steps {b : List Cell} {d : D} {g : List Cell} {Q X} (h : Q (.own (.lst [])) [some (.ob (hx b (fr d b.length g)))]) : RM (hm_Store_steps [.ob (hx b (fr d b.length g)), .val (refD b.length)]) Q X := by
  unfold fr at h ⊢
  unfold hm_Store_steps hb_Store_steps
  walk_at "fn"; walk_at "st"
  exact h
theorem r_stands {M : Hm} {d : D} (hp : Th d) (hr : ruleB d = true) {Q X} (h : ∀ M', Q (.val (.bool true)) [some (.ob M')]) : RM (hm_law_stands [.ob M, .val d]) Q X := by
  have hn := pure_nr hp.p
  rw [hx_of (M := M)]
  unfold hm_law_stands hb_law_stands
  walk_at "fn"; walk_at "st"
  unfold hm_Store___init__ hb_Store___init__
  walk_at "fn"; walk_at "st"
  simp -dsimp -implicitDefEqProofs only [argP_p hp.p, opnd_p hp.p]
  walk_at "st"
  refine r_isRule hp ?_
  rw [hr]
  walk_at "st"
  unfold hm_Leaf___init__ hb_Leaf___init__
  walk_at "fn"; walk_at "st"
  unfold hm_Room___init__ hb_Room___init__
  walk_at "fn"; walk_at "st"
  rw [eqb_same (rule_shaped hp hr), atO_some]
  walk_at "st"
  refine r_marks (g := []) ?_
  unfold fr
  walk_at "st"
  refine r_stretch (g := []) ?_
  unfold fr
  walk_at "st"
  refine r_len ?_
  unfold fr
  walk_at "st"
  refine r_steps ?_
  unfold fr
  walk_at "st"
  exact h _
-- @cut
theorem law_true : ∀ ns : List Int, ns.length ≤ 63 → m_law [.val (.list (ns.map PyData.int))] = .ok (.val (.bool true)) [] := by
  intro ns hns
  refine ret_of_rm ?_
  unfold m_law
  rw [rm_hm]
  unfold hh_law b_law
  walk_at "st"
  walk_at "fn"; walk_at "st"
  refine fp_loopU (fun en => ∃ M, en = [some (.ob M), some (.val (intsD ns)), none, none, none, none, none]) ⟨_, rfl⟩ ?_ ?_
  · rintro d hd en ⟨M, rfl⟩
    obtain ⟨i, _, rfl⟩ := rng_any hd
    rw [Int.zero_add]
    walk_at "st"
    refine r_cellAt ?_; intro c; walk_at "st"
    refine r_good (.inl ⟨_, rfl⟩) ?_; intro a b c p st hs; walk_at "st"
    refine r_spoilt hs ?_; intro d st hd hs; walk_at "st"
    refine fp_loopU (fun en => ∃ M, en = [some (.ob M), some (.val (intsD ns)), some (.val (.int (i : Int))), some (.lst st), some (.val (ruD a b c p)), none, none]) ⟨_, rfl⟩ ?_ ?_
    · rintro x hx en ⟨M, rfl⟩
      have hx : Th x := by
        simp only [List.mem_cons, List.not_mem_nil, or_false] at hx
        rcases hx with rfl | rfl
        · exact th_ru
        · exact hd
      walk_at "st"
      have h1 := hx.p
      simp -dsimp -implicitDefEqProofs only [argP_p h1, opnd_p h1]; walk_at "st"
      refine r_lawIsRule hx ?_
      cases e : ruleB x
      all_goals
        walk_at "st"
        simp -dsimp -implicitDefEqProofs only [argP_p h1, opnd_p h1]; walk_at "st"
        refine r_isRule hx ?_
        rw [e]
        walk_at "st"
        unfold m_law_truth b_law_truth
        walk_at "fn"; walk_at "st"
      · refine r_refused hx e fun M' => ?_
        walk_at "st"
        exact ⟨_, rfl⟩
      · refine r_stands hx e fun M' => ?_
        walk_at "st"
        exact ⟨_, rfl⟩
    · rintro en ⟨M, rfl⟩
      walk_at "st"
      exact ⟨_, rfl⟩
  · rintro en ⟨M, rfl⟩
    walk_at "st"

end My
namespace My
open PySem PySem.Spec PyProof.Rows L2 Evl Ny Ve
def top (i : Nat) : Stmt := PySem.Challenge.pw_notefall_k02_rules.main.body.getD i (.Pass ⟨0, 0, 0, 0⟩)
abbrev s_is_whole : Stmt := top 4
abbrev s_is_rule : Stmt := top 8
abbrev s_law_cell_at : Stmt := top 41
abbrev s_law_digit : Stmt := top 42
abbrev s_law_good : Stmt := top 43
abbrev s_law_truth : Stmt := top 44
abbrev s_law_between : Stmt := top 45
abbrev s_law_is_rule : Stmt := top 46
abbrev s_law_spoilt : Stmt := top 47
abbrev s_Room___init__ : Stmt := inClass (top 30) 0
abbrev s_Leaf___init__ : Stmt := inClass (top 31) 0
abbrev s_Store___init__ : Stmt := inClass (top 39) 0
abbrev s_Store_marks : Stmt := inClass (top 39) 4
abbrev s_is_number : Stmt := top 5
abbrev s_is_key : Stmt := top 6
abbrev s_is_stretch : Stmt := top 7
abbrev s_value_of : Stmt := top 26
abbrev s_Room_is_leaf : Stmt := inClass (top 30) 1
abbrev s_values_in : Stmt := top 36
abbrev s_pairs_in : Stmt := top 37
abbrev s_Store_look : Stmt := inClass (top 39) 6
abbrev s_Store_pairs : Stmt := inClass (top 39) 8
abbrev s_Store_stretch : Stmt := inClass (top 39) 10
abbrev s_Store___len__ : Stmt := inClass (top 39) 11
abbrev s_Store_steps : Stmt := inClass (top 39) 22
abbrev s_law_stands : Stmt := top 48
abbrev s_law_refused : Stmt := top 49
abbrev s_law : Stmt := top 50
structure Txt (K : PySem.W.Frag) (mg : Str → Option Value) : Prop where
  z_bool : mg "bool" = none
  z_int : mg "int" = none
  z_isinstance : mg "isinstance" = none
  z_len : mg "len" = none
  z_list : mg "list" = none
  z_max : mg "max" = none
  z_min : mg "min" = none
  z_range : mg "range" = none
  z_sorted : mg "sorted" = none
  z_str : mg "str" = none
  z_tuple : mg "tuple" = none
  k_END : ∃ t, mg "END" = some (.int 1000000000000 t)
  k_PLANS : mg "PLANS" = some (.ref (He.ga K "PLANS"))
  n_PLANS : ∀ H, Dp K H (.ref (He.ga K "PLANS")) (.tuple [(.str "fullest"), (.str "eldest")])
  x_FallError : ExcTxt K mg "FallError" (He.ga K "FallError")
  x_NoMany : ExcTxt K mg "NoMany" (He.ga K "NoMany")
  x_NoMark : ExcTxt K mg "NoMark" (He.ga K "NoMark")
  x_NoRule : ExcTxt K mg "NoRule" (He.ga K "NoRule")
  x_NoStretch : ExcTxt K mg "NoStretch" (He.ga K "NoStretch")
  ef : EF K etab
  cf : CF K ctab
  g_Leaf : mg "Leaf" = some (.ref (He.ga K "Leaf"))
  g_Room : mg "Room" = some (.ref (He.ga K "Room"))
  g_Store : mg "Store" = some (.ref (He.ga K "Store"))
  c_Leaf : Cls K (He.ga K "Leaf")
  c_Room : Cls K (He.ga K "Room")
  c_Store : Cls K (He.ga K "Store")
  n_Leaf : Mk K (He.ga K "Leaf") (He.ma K (He.ga K "Leaf") "__init__")
  n_Store : Mk K (He.ga K "Store") (He.ma K (He.ga K "Store") "__init__")
  m_Leaf_is_leaf : Meth K (He.ga K "Leaf") "is_leaf" (He.ma K (He.ga K "Leaf") "is_leaf")
  m_Room_is_leaf : Meth K (He.ga K "Room") "is_leaf" (He.ma K (He.ga K "Room") "is_leaf")
  m_Store___len__ : Meth K (He.ga K "Store") "__len__" (He.ma K (He.ga K "Store") "__len__")
  m_Store_look : Meth K (He.ga K "Store") "look" (He.ma K (He.ga K "Store") "look")
  m_Store_marks : Meth K (He.ga K "Store") "marks" (He.ma K (He.ga K "Store") "marks")
  m_Store_pairs : Meth K (He.ga K "Store") "pairs" (He.ma K (He.ga K "Store") "pairs")
  m_Store_steps : Meth K (He.ga K "Store") "steps" (He.ma K (He.ga K "Store") "steps")
  m_Store_stretch : Meth K (He.ga K "Store") "stretch" (He.ma K (He.ga K "Store") "stretch")
  u_Room___init__ : UnB K (He.ga K "Room") "__init__" (He.ma K (He.ga K "Room") "__init__")
  d_is_whole : ∃ f fd, mg "is_whole" = some (.ref f) ∧ FunD K "is_whole" "is_whole" (defArgs s_is_whole) (defBody s_is_whole) (defScope s_is_whole) [] [] f fd
  d_is_rule : ∃ f fd, mg "is_rule" = some (.ref f) ∧ FunD K "is_rule" "is_rule" (defArgs s_is_rule) (defBody s_is_rule) (defScope s_is_rule) [] [] f fd
  d_law_cell_at : ∃ f fd, mg "_law_cell_at" = some (.ref f) ∧ FunD K "_law_cell_at" "_law_cell_at" (defArgs s_law_cell_at) (defBody s_law_cell_at) (defScope s_law_cell_at) [] [] f fd
  d_law_digit : ∃ f fd, mg "_law_digit" = some (.ref f) ∧ FunD K "_law_digit" "_law_digit" (defArgs s_law_digit) (defBody s_law_digit) (defScope s_law_digit) [] [] f fd
  d_law_good : ∃ f fd, mg "_law_good" = some (.ref f) ∧ FunD K "_law_good" "_law_good" (defArgs s_law_good) (defBody s_law_good) (defScope s_law_good) [] [] f fd
  d_law_truth : ∃ f fd, mg "_law_truth" = some (.ref f) ∧ FunD K "_law_truth" "_law_truth" (defArgs s_law_truth) (defBody s_law_truth) (defScope s_law_truth) [] [] f fd
  d_law_between : ∃ f fd, mg "_law_between" = some (.ref f) ∧ FunD K "_law_between" "_law_between" (defArgs s_law_between) (defBody s_law_between) (defScope s_law_between) [] [] f fd
  d_law_is_rule : ∃ f fd, mg "_law_is_rule" = some (.ref f) ∧ FunD K "_law_is_rule" "_law_is_rule" (defArgs s_law_is_rule) (defBody s_law_is_rule) (defScope s_law_is_rule) [] [] f fd
  d_law_spoilt : ∃ f fd, mg "_law_spoilt" = some (.ref f) ∧ FunD K "_law_spoilt" "_law_spoilt" (defArgs s_law_spoilt) (defBody s_law_spoilt) (defScope s_law_spoilt) [] [] f fd
  d_is_number : ∃ f fd, mg "is_number" = some (.ref f) ∧ FunD K "is_number" "is_number" (defArgs s_is_number) (defBody s_is_number) (defScope s_is_number) [] [] f fd
  d_is_key : ∃ f fd, mg "is_key" = some (.ref f) ∧ FunD K "is_key" "is_key" (defArgs s_is_key) (defBody s_is_key) (defScope s_is_key) [] [] f fd
  d_is_stretch : ∃ f fd, mg "is_stretch" = some (.ref f) ∧ FunD K "is_stretch" "is_stretch" (defArgs s_is_stretch) (defBody s_is_stretch) (defScope s_is_stretch) [] [] f fd
  d_value_of : ∃ f fd, mg "value_of" = some (.ref f) ∧ FunD K "value_of" "value_of" (defArgs s_value_of) (defBody s_value_of) (defScope s_value_of) [] [("at", .non)] f fd
  d_values_in : ∃ f fd, mg "values_in" = some (.ref f) ∧ FunD K "values_in" "values_in" (defArgs s_values_in) (defBody s_values_in) (defScope s_values_in) [] [] f fd
  d_pairs_in : ∃ f fd, mg "pairs_in" = some (.ref f) ∧ FunD K "pairs_in" "pairs_in" (defArgs s_pairs_in) (defBody s_pairs_in) (defScope s_pairs_in) [] [] f fd
  d_law_stands : ∃ f fd, mg "_law_stands" = some (.ref f) ∧ FunD K "_law_stands" "_law_stands" (defArgs s_law_stands) (defBody s_law_stands) (defScope s_law_stands) [] [] f fd
  d_law_refused : ∃ f fd, mg "_law_refused" = some (.ref f) ∧ FunD K "_law_refused" "_law_refused" (defArgs s_law_refused) (defBody s_law_refused) (defScope s_law_refused) [] [] f fd
  d_law : ∃ f fd, mg "law" = some (.ref f) ∧ FunD K "law" "law" (defArgs s_law) (defBody s_law) (defScope s_law) [] [] f fd
  d_Leaf___init__ : ∃ fd, FunD K "__init__" "Leaf.__init__" (defArgs s_Leaf___init__) (defBody s_Leaf___init__) (defScope s_Leaf___init__) [] [] (He.ma K (He.ga K "Leaf") "__init__") fd
  d_Leaf_is_leaf : ∃ fd, FunD K "is_leaf" "Room.is_leaf" (defArgs s_Room_is_leaf) (defBody s_Room_is_leaf) (defScope s_Room_is_leaf) [] [] (He.ma K (He.ga K "Leaf") "is_leaf") fd
  d_Room___init__ : ∃ fd, FunD K "__init__" "Room.__init__" (defArgs s_Room___init__) (defBody s_Room___init__) (defScope s_Room___init__) [] [] (He.ma K (He.ga K "Room") "__init__") fd
  d_Room_is_leaf : ∃ fd, FunD K "is_leaf" "Room.is_leaf" (defArgs s_Room_is_leaf) (defBody s_Room_is_leaf) (defScope s_Room_is_leaf) [] [] (He.ma K (He.ga K "Room") "is_leaf") fd
  d_Store___init__ : ∃ fd, FunD K "__init__" "Store.__init__" (defArgs s_Store___init__) (defBody s_Store___init__) (defScope s_Store___init__) [] [] (He.ma K (He.ga K "Store") "__init__") fd
  d_Store___len__ : ∃ fd, FunD K "__len__" "Store.__len__" (defArgs s_Store___len__) (defBody s_Store___len__) (defScope s_Store___len__) [] [] (He.ma K (He.ga K "Store") "__len__") fd
  d_Store_look : ∃ fd, FunD K "look" "Store.look" (defArgs s_Store_look) (defBody s_Store_look) (defScope s_Store_look) [] [] (He.ma K (He.ga K "Store") "look") fd
  d_Store_marks : ∃ fd, FunD K "marks" "Store.marks" (defArgs s_Store_marks) (defBody s_Store_marks) (defScope s_Store_marks) [] [] (He.ma K (He.ga K "Store") "marks") fd
  d_Store_pairs : ∃ fd, FunD K "pairs" "Store.pairs" (defArgs s_Store_pairs) (defBody s_Store_pairs) (defScope s_Store_pairs) [] [] (He.ma K (He.ga K "Store") "pairs") fd
  d_Store_steps : ∃ fd, FunD K "steps" "Store.steps" (defArgs s_Store_steps) (defBody s_Store_steps) (defScope s_Store_steps) [] [] (He.ma K (He.ga K "Store") "steps") fd
  d_Store_stretch : ∃ fd, FunD K "stretch" "Store.stretch" (defArgs s_Store_stretch) (defBody s_Store_stretch) (defScope s_Store_stretch) [(.int 0), (.int 1000000000000)] [("at", .non), ("most", .non), ("back", (.bl false))] (He.ma K (He.ga K "Store") "stretch") fd
theorem pe_k_END {X : Cx} {pos : Pos} (T : Txt X.K X.mg) (hg : Gl X "END" := by rfl) : PE X (.Name "END" pos) (tC (.int 1000000000000)) := by
  obtain ⟨t, h⟩ := T.k_END
  exact pe_glob hg h ⟨t, rfl⟩
theorem pe_k_PLANS {X : Cx} {pos : Pos} (T : Txt X.K X.mg) (hg : Gl X "PLANS" := by rfl) : PE X (.Name "PLANS" pos) (tC (.ref (He.ga X.K "PLANS"))) := pe_glob hg T.k_PLANS rfl
section
variable {P : Program} {w : World} {K : PySem.W.Frag} {mg : Str → Option Value} {base : Heap}
/-! ### is_whole -/
theorem sc_is_whole : FnScope ["thing", "low", "high"] ["thing", "low", "high"] (defScope s_is_whole) := ⟨rfl, rfl, rfl, by decide +kernel, rfl, by decide +kernel, by decide +kernel⟩
theorem f_is_whole (T : Txt K mg) {f : Addr} {fd : FuncData} (F : FunD K "is_whole" "is_whole" (defArgs s_is_whole) (defBody s_is_whole) (defScope s_is_whole) [] [] f fd) : FnOk P w K mg base (L2.CX P w) 1 f fd ["thing", "low", "high"] (spV l_is_whole 3 m_is_whole K) := by
  haveI i_PLANS : KDat K (He.ga K "PLANS") (.tuple [(.str "fullest"), (.str "eldest")]) := ⟨fun H => rp_dp _ (T.n_PLANS H)⟩
  refine F.ok sc_is_whole (fun vs H Q E h => (spV_len h : vs.length + 0 = _)) (fun cdv A outer s H vs Q E hr h => ⟨_, (pss_one (ps_ret (pe_and (pe_callB cu_isi (by rfl) T.z_isinstance bo_isinstance (pa_cons (pv 0) (pa_cons (pe_bltn (v := .ty "int") (by rfl) T.z_int bo_int rfl) pa_nil))) (pe_and (pe_not (pe_callB cu_isi (by rfl) T.z_isinstance bo_isinstance (pa_cons (pv 0) (pa_cons (pe_bltn (v := .ty "bool") (by rfl) T.z_bool bo_bool rfl) pa_nil)))) (pe_one (pe_chain ou_le ou_le (pv 1) (pv 0) (pv 2))))))), ?_⟩)
  try dsimp only [L2.cxOf, List.map]
  exact fn_sat (m := b_is_whole) inferInstance (by decide) rfl h
theorem c_is_whole (T : Txt K mg) : CallOk P w K mg base (L2.CX P w) 1 "is_whole" ["thing", "low", "high"] [] (spV l_is_whole 3 m_is_whole K) := by
  obtain ⟨f, fd, hm, F⟩ := T.d_is_whole
  exact ⟨f, fd, [], hm, F.kp, F.bindsN (fun _ _ _ _ _ _ us hl => match us, hl with | [_, _, _], _ => rfl), .nil, f_is_whole T F⟩
/-! ### is_rule -/
theorem sc_is_rule : FnScope ["thing", "tray", "fan", "rows", "plan"] ["thing"] (defScope s_is_rule) := ⟨rfl, rfl, rfl, by decide +kernel, rfl, by decide +kernel, by decide +kernel⟩
theorem f_is_rule (T : Txt K mg) {f : Addr} {fd : FuncData} (F : FunD K "is_rule" "is_rule" (defArgs s_is_rule) (defBody s_is_rule) (defScope s_is_rule) [] [] f fd) : FnOk P w K mg base (L2.CX P w) 2 f fd ["thing"] (spV l_is_rule 1 m_is_rule K) := by
  haveI i_PLANS : KDat K (He.ga K "PLANS") (.tuple [(.str "fullest"), (.str "eldest")]) := ⟨fun H => rp_dp _ (T.n_PLANS H)⟩
  refine F.ok sc_is_rule (fun vs H Q E h => (spV_len h : vs.length + 0 = _)) (fun cdv A outer s H vs Q E hr h => ⟨_, (pss_cons (ps_if (PW.pt (pw_or (pt_not (pt_tr (pe_callB cu_isi (by rfl) T.z_isinstance bo_isinstance (pa_cons (pv 0) (pa_cons (pe_bltn (v := .ty "tuple") (by rfl) T.z_tuple bo_tuple rfl) pa_nil))))) (pw_or1 (pt_cmpR (ou_ne hr.units) (pe_callB cu_len (by rfl) T.z_len bo_len (pa_cons (pv 0) pa_nil)) pe_int (nomark _))))) (pss_one (ps_ret pe_bl)) pss_nil)
      (pss_cons (ps_asg (pv 0) (pg_tup (n := 4) rfl (pgs_cons (pg_name (i := 1) sc_is_rule.nd rfl (Or.inl rfl)) (pgs_cons (pg_name (i := 2) sc_is_rule.nd rfl (Or.inl rfl)) (pgs_cons (pg_name (i := 3) sc_is_rule.nd rfl (Or.inl rfl)) (pgs_cons (pg_name (i := 4) sc_is_rule.nd rfl (Or.inl rfl)) pgs_nil))))))
      (pss_cons (ps_if (PW.pt (pw_or (pt_not (pt_tr (pe_cF (c_is_whole T) (hr.mono (by decide)) (takes_of rfl rfl rfl rfl) (pa_cons (pv 1) (pa_cons pe_int (pa_cons pe_int pa_nil)))))) (pw_or (pt_not (pt_tr (pe_cF (c_is_whole T) (hr.mono (by decide)) (takes_of rfl rfl rfl rfl) (pa_cons (pv 2) (pa_cons pe_int (pa_cons pe_int pa_nil)))))) (pw_or1 (pt_not (pt_tr (pe_cF (c_is_whole T) (hr.mono (by decide)) (takes_of rfl rfl rfl rfl) (pa_cons (pv 3) (pa_cons pe_int (pa_cons pe_int pa_nil)))))))))) (pss_one (ps_ret pe_bl)) pss_nil)
      (pss_one (ps_ret (pe_and (pe_callB cu_isi (by rfl) T.z_isinstance bo_isinstance (pa_cons (pv 4) (pa_cons (pe_bltn (v := .ty "str") (by rfl) T.z_str bo_str rfl) pa_nil))) (pe_one (pe_cmpR (ov_in hr.units hr.units65) (pv 4) (pe_k_PLANS T) (by rfl))))))))), ?_⟩)
  try dsimp only [L2.cxOf, List.map]
  exact fn_sat (m := b_is_rule) inferInstance (by decide) rfl h
theorem c_is_rule (T : Txt K mg) : CallOk P w K mg base (L2.CX P w) 2 "is_rule" ["thing"] [] (spV l_is_rule 1 m_is_rule K) := by
  obtain ⟨f, fd, hm, F⟩ := T.d_is_rule
  exact ⟨f, fd, [], hm, F.kp, F.bindsN (fun _ _ _ _ _ _ us hl => match us, hl with | [_], _ => rfl), .nil, f_is_rule T F⟩
/-! ### _law_cell_at -/
theorem sc_law_cell_at : FnScope ["_law_script", "_law_k"] ["_law_script", "_law_k"] (defScope s_law_cell_at) := ⟨rfl, rfl, rfl, by decide +kernel, rfl, by decide +kernel, by decide +kernel⟩
theorem f_law_cell_at (T : Txt K mg) {f : Addr} {fd : FuncData} (F : FunD K "_law_cell_at" "_law_cell_at" (defArgs s_law_cell_at) (defBody s_law_cell_at) (defScope s_law_cell_at) [] [] f fd) : FnOk P w K mg base (L2.CX P w) 1 f fd ["_law_script", "_law_k"] (spV l_law_cell_at 2 m_law_cell_at K) := by
  haveI i_PLANS : KDat K (He.ga K "PLANS") (.tuple [(.str "fullest"), (.str "eldest")]) := ⟨fun H => rp_dp _ (T.n_PLANS H)⟩
  refine F.ok sc_law_cell_at (fun vs H Q E h => (spV_len h : vs.length + 0 = _)) (fun cdv A outer s H vs Q E hr h => ⟨_, (pss_cons (ps_if (pt_cmpR ou_lt (pv 1) (pe_callB cu_len (by rfl) T.z_len bo_len (pa_cons (pv 0) pa_nil)) (nomark _)) (pss_one (ps_ret (pe_ix (ix_sd hr.units) (pv 0) (pv 1) (fun _ _ => rfl)))) pss_nil)
      (pss_one (ps_ret pe_int))), ?_⟩)
  try dsimp only [L2.cxOf, List.map]
  exact fn_sat (m := b_law_cell_at) inferInstance (by decide) rfl h
theorem c_law_cell_at (T : Txt K mg) : CallOk P w K mg base (L2.CX P w) 1 "_law_cell_at" ["_law_script", "_law_k"] [] (spV l_law_cell_at 2 m_law_cell_at K) := by
  obtain ⟨f, fd, hm, F⟩ := T.d_law_cell_at
  exact ⟨f, fd, [], hm, F.kp, F.bindsN (fun _ _ _ _ _ _ us hl => match us, hl with | [_, _], _ => rfl), .nil, f_law_cell_at T F⟩
/-! ### _law_digit -/
theorem sc_law_digit : FnScope ["_law_state", "_law_base", "_law_cell", "_law_found", "_law_number"] ["_law_state", "_law_base"] (defScope s_law_digit) := ⟨rfl, rfl, rfl, by decide +kernel, rfl, by decide +kernel, by decide +kernel⟩
theorem f_law_digit (T : Txt K mg) {f : Addr} {fd : FuncData} (F : FunD K "_law_digit" "_law_digit" (defArgs s_law_digit) (defBody s_law_digit) (defScope s_law_digit) [] [] f fd) : FnOk P w K mg base (L2.CX P w) 1 f fd ["_law_state", "_law_base"] (spV l_law_digit 2 m_law_digit K) := by
  haveI i_PLANS : KDat K (He.ga K "PLANS") (.tuple [(.str "fullest"), (.str "eldest")]) := ⟨fun H => rp_dp _ (T.n_PLANS H)⟩
  refine F.ok sc_law_digit (fun vs H Q E h => (spV_len h : vs.length + 0 = _)) (fun cdv A outer s H vs Q E hr h => ⟨_, (pss_cons (ps_if (pt_cmpR (ou_eq hr.units) (pe_callB cu_len (by rfl) T.z_len bo_len (pa_cons (pv 0) pa_nil)) pe_int (nomark _)) (pss_cons (ps_asg (pe_ix (ix_sd hr.units) (pv 0) pe_int (fun _ _ => rfl)) (pg_name (i := 2) sc_law_digit.nd rfl (Or.inl rfl)))
      (pss_cons (ps_asg (pe_ix (ix_sd hr.units) (pe_lst (pa_cons pe_int (pa_cons (pv 2) pa_nil))) (pe_callTy cu_int (by rfl) T.z_int bo_int (pa_cons (pe_cmpR ou_ge (pv 2) (pe_op ou_pow pe_int pe_int) (nomark _)) pa_nil)) (fun _ _ => rfl)) (pg_sub (pv 0) pe_int set_list))
      (pss_one (ps_expr (pe_bm PySem.F.plainAttrs_list PySem.F.slot_list_extend PySem.F.type_list_extend mt_extend (pv 0) (pa_cons (pe_lst (pa_cons (pe_op ou_mod (pv 2) pe_int) (pa_cons pe_int pa_nil))) pa_nil)))))) pss_nil)
      (pss_cons (ps_if (pt_cmpR ou_gt (pe_ix (ix_sd hr.units) (pv 0) pe_int (fun _ _ => rfl)) pe_int (nomark _)) (pss_cons (ps_asg (pe_op ou_mod (pe_ix (ix_sd hr.units) (pv 0) pe_int (fun _ _ => rfl)) (pv 1)) (pg_name (i := 3) sc_law_digit.nd rfl (Or.inl rfl)))
      (pss_cons (ps_asg (pe_op ou_div (pe_ix (ix_sd hr.units) (pv 0) pe_int (fun _ _ => rfl)) (pv 1)) (pg_sub (pv 0) pe_int set_list))
      (pss_one (ps_ret (pv 3))))) pss_nil)
      (pss_cons (ps_asg (pe_op ou_add (pe_ix (ix_sd hr.units) (pv 0) pe_int (fun _ _ => rfl)) pe_int) (pg_sub (pv 0) pe_int set_list))
      (pss_cons (ps_asg (pe_op ou_mod (pe_op ou_mul (pe_op ou_add (pe_op ou_add (pe_ix (ix_sd hr.units) (pv 0) pe_int (fun _ _ => rfl)) (pe_op ou_mul pe_int (pe_ix (ix_sd hr.units) (pv 0) pe_int (fun _ _ => rfl)))) pe_int) pe_int) pe_int) (pg_name (i := 4) sc_law_digit.nd rfl (Or.inl rfl)))
      (pss_cons (ps_asg (pe_op ou_mod (pe_op ou_mul (pv 4) (pe_op ou_add (pe_op ou_div (pv 4) pe_int) pe_int)) pe_int) (pg_name (i := 4) sc_law_digit.nd rfl (Or.inl rfl)))
      (pss_one (ps_ret (pe_op ou_mod (pe_op ou_mod (pe_op ou_mul (pv 4) (pe_op ou_add (pe_op ou_div (pv 4) pe_int) pe_int)) pe_int) (pv 1))))))))), ?_⟩)
  try dsimp only [L2.cxOf, List.map]
  exact fn_sat (m := b_law_digit) inferInstance (by decide) rfl h
theorem c_law_digit (T : Txt K mg) : CallOk P w K mg base (L2.CX P w) 1 "_law_digit" ["_law_state", "_law_base"] [] (spV l_law_digit 2 m_law_digit K) := by
  obtain ⟨f, fd, hm, F⟩ := T.d_law_digit
  exact ⟨f, fd, [], hm, F.kp, F.bindsN (fun _ _ _ _ _ _ us hl => match us, hl with | [_, _], _ => rfl), .nil, f_law_digit T F⟩
/-! ### _law_good -/
theorem sc_law_good : FnScope ["_law_state", "_law_tray", "_law_fan", "_law_rows"] ["_law_state"] (defScope s_law_good) := ⟨rfl, rfl, rfl, by decide +kernel, rfl, by decide +kernel, by decide +kernel⟩
theorem f_law_good (T : Txt K mg) {f : Addr} {fd : FuncData} (F : FunD K "_law_good" "_law_good" (defArgs s_law_good) (defBody s_law_good) (defScope s_law_good) [] [] f fd) : FnOk P w K mg base (L2.CX P w) 2 f fd ["_law_state"] (spV l_law_good 1 m_law_good K) := by
  haveI i_PLANS : KDat K (He.ga K "PLANS") (.tuple [(.str "fullest"), (.str "eldest")]) := ⟨fun H => rp_dp _ (T.n_PLANS H)⟩
  refine F.ok sc_law_good (fun vs H Q E h => (spV_len h : vs.length + 0 = _)) (fun cdv A outer s H vs Q E hr h => ⟨_, (pss_cons (ps_asg (pe_ix (ix_sd hr.units) (pe_lst (pa_cons pe_int (pa_cons pe_int (pa_cons (pe_op ou_add pe_int (pe_cF (c_law_digit T) (hr.mono (by decide)) (takes_of rfl rfl rfl rfl) (pa_cons (pv 0) (pa_cons pe_int pa_nil)))) pa_nil)))) (pe_cF (c_law_digit T) (hr.mono (by decide)) (takes_of rfl rfl rfl rfl) (pa_cons (pv 0) (pa_cons pe_int pa_nil))) (fun _ _ => rfl)) (pg_name (i := 1) sc_law_good.nd rfl (Or.inl rfl)))
      (pss_cons (ps_asg (pe_ix (ix_sd hr.units) (pe_lst (pa_cons pe_int (pa_cons pe_int (pa_cons (pe_op ou_add pe_int (pe_cF (c_law_digit T) (hr.mono (by decide)) (takes_of rfl rfl rfl rfl) (pa_cons (pv 0) (pa_cons pe_int pa_nil)))) pa_nil)))) (pe_cF (c_law_digit T) (hr.mono (by decide)) (takes_of rfl rfl rfl rfl) (pa_cons (pv 0) (pa_cons pe_int pa_nil))) (fun _ _ => rfl)) (pg_name (i := 2) sc_law_good.nd rfl (Or.inl rfl)))
      (pss_cons (ps_asg (pe_ix (ix_sd hr.units) (pe_lst (pa_cons pe_int (pa_cons pe_int (pa_cons (pe_op ou_add pe_int (pe_cF (c_law_digit T) (hr.mono (by decide)) (takes_of rfl rfl rfl rfl) (pa_cons (pv 0) (pa_cons pe_int pa_nil)))) pa_nil)))) (pe_cF (c_law_digit T) (hr.mono (by decide)) (takes_of rfl rfl rfl rfl) (pa_cons (pv 0) (pa_cons pe_int pa_nil))) (fun _ _ => rfl)) (pg_name (i := 3) sc_law_good.nd rfl (Or.inl rfl)))
      (pss_one (ps_ret (pe_tup (pa_cons (pv 1) (pa_cons (pv 2) (pa_cons (pv 3) (pa_cons (pe_ix (ix_sd hr.units) (pe_lst (pa_cons pe_str (pa_cons pe_str pa_nil))) (pe_cF (c_law_digit T) (hr.mono (by decide)) (takes_of rfl rfl rfl rfl) (pa_cons (pv 0) (pa_cons pe_int pa_nil))) (fun _ _ => rfl)) pa_nil)))))))))), ?_⟩)
  try dsimp only [L2.cxOf, List.map]
  exact fn_sat (m := b_law_good) inferInstance (by decide) rfl h
theorem c_law_good (T : Txt K mg) : CallOk P w K mg base (L2.CX P w) 2 "_law_good" ["_law_state"] [] (spV l_law_good 1 m_law_good K) := by
  obtain ⟨f, fd, hm, F⟩ := T.d_law_good
  exact ⟨f, fd, [], hm, F.kp, F.bindsN (fun _ _ _ _ _ _ us hl => match us, hl with | [_], _ => rfl), .nil, f_law_good T F⟩
/-! ### _law_truth -/
theorem sc_law_truth : FnScope ["_law_found", "_law_due"] ["_law_found", "_law_due"] (defScope s_law_truth) := ⟨rfl, rfl, rfl, by decide +kernel, rfl, by decide +kernel, by decide +kernel⟩
theorem f_law_truth (T : Txt K mg) {f : Addr} {fd : FuncData} (F : FunD K "_law_truth" "_law_truth" (defArgs s_law_truth) (defBody s_law_truth) (defScope s_law_truth) [] [] f fd) : FnOk P w K mg base (L2.CX P w) 1 f fd ["_law_found", "_law_due"] (spV l_law_truth 2 m_law_truth K) := by
  haveI i_PLANS : KDat K (He.ga K "PLANS") (.tuple [(.str "fullest"), (.str "eldest")]) := ⟨fun H => rp_dp _ (T.n_PLANS H)⟩
  refine F.ok sc_law_truth (fun vs H Q E h => (spV_len h : vs.length + 0 = _)) (fun cdv A outer s H vs Q E hr h => ⟨_, (pss_one (ps_ret (pe_and (pe_callB cu_isi (by rfl) T.z_isinstance bo_isinstance (pa_cons (pv 0) (pa_cons (pe_bltn (v := .ty "bool") (by rfl) T.z_bool bo_bool rfl) pa_nil))) (pe_one (pe_cmpR (ou_eq hr.units) (pv 0) (pv 1) (nomark _)))))), ?_⟩)
  try dsimp only [L2.cxOf, List.map]
  exact fn_sat (m := b_law_truth) inferInstance (by decide) rfl h
theorem c_law_truth (T : Txt K mg) : CallOk P w K mg base (L2.CX P w) 1 "_law_truth" ["_law_found", "_law_due"] [] (spV l_law_truth 2 m_law_truth K) := by
  obtain ⟨f, fd, hm, F⟩ := T.d_law_truth
  exact ⟨f, fd, [], hm, F.kp, F.bindsN (fun _ _ _ _ _ _ us hl => match us, hl with | [_, _], _ => rfl), .nil, f_law_truth T F⟩
/-! ### _law_between -/
theorem sc_law_between : FnScope ["_law_thing", "_law_low", "_law_high"] ["_law_thing", "_law_low", "_law_high"] (defScope s_law_between) := ⟨rfl, rfl, rfl, by decide +kernel, rfl, by decide +kernel, by decide +kernel⟩
theorem f_law_between (T : Txt K mg) {f : Addr} {fd : FuncData} (F : FunD K "_law_between" "_law_between" (defArgs s_law_between) (defBody s_law_between) (defScope s_law_between) [] [] f fd) : FnOk P w K mg base (L2.CX P w) 1 f fd ["_law_thing", "_law_low", "_law_high"] (spV l_law_between 3 m_law_between K) := by
  haveI i_PLANS : KDat K (He.ga K "PLANS") (.tuple [(.str "fullest"), (.str "eldest")]) := ⟨fun H => rp_dp _ (T.n_PLANS H)⟩
  refine F.ok sc_law_between (fun vs H Q E h => (spV_len h : vs.length + 0 = _)) (fun cdv A outer s H vs Q E hr h => ⟨_, (pss_one (ps_ret (pe_and (pe_callB cu_isi (by rfl) T.z_isinstance bo_isinstance (pa_cons (pv 0) (pa_cons (pe_bltn (v := .ty "int") (by rfl) T.z_int bo_int rfl) pa_nil))) (pe_and (pe_not (pe_callB cu_isi (by rfl) T.z_isinstance bo_isinstance (pa_cons (pv 0) (pa_cons (pe_bltn (v := .ty "bool") (by rfl) T.z_bool bo_bool rfl) pa_nil)))) (pe_one (pe_chain ou_le ou_le (pv 1) (pv 0) (pv 2))))))), ?_⟩)
  try dsimp only [L2.cxOf, List.map]
  exact fn_sat (m := b_law_between) inferInstance (by decide) rfl h
theorem c_law_between (T : Txt K mg) : CallOk P w K mg base (L2.CX P w) 1 "_law_between" ["_law_thing", "_law_low", "_law_high"] [] (spV l_law_between 3 m_law_between K) := by
  obtain ⟨f, fd, hm, F⟩ := T.d_law_between
  exact ⟨f, fd, [], hm, F.kp, F.bindsN (fun _ _ _ _ _ _ us hl => match us, hl with | [_, _, _], _ => rfl), .nil, f_law_between T F⟩
/-! ### _law_is_rule -/
theorem sc_law_is_rule : FnScope ["_law_thing"] ["_law_thing"] (defScope s_law_is_rule) := ⟨rfl, rfl, rfl, by decide +kernel, rfl, by decide +kernel, by decide +kernel⟩
theorem f_law_is_rule (T : Txt K mg) {f : Addr} {fd : FuncData} (F : FunD K "_law_is_rule" "_law_is_rule" (defArgs s_law_is_rule) (defBody s_law_is_rule) (defScope s_law_is_rule) [] [] f fd) : FnOk P w K mg base (L2.CX P w) 2 f fd ["_law_thing"] (spV l_law_is_rule 1 m_law_is_rule K) := by
  haveI i_PLANS : KDat K (He.ga K "PLANS") (.tuple [(.str "fullest"), (.str "eldest")]) := ⟨fun H => rp_dp _ (T.n_PLANS H)⟩
  refine F.ok sc_law_is_rule (fun vs H Q E h => (spV_len h : vs.length + 0 = _)) (fun cdv A outer s H vs Q E hr h => ⟨_, (pss_cons (ps_if (PW.pt (pw_or (pt_not (pt_tr (pe_callB cu_isi (by rfl) T.z_isinstance bo_isinstance (pa_cons (pv 0) (pa_cons (pe_bltn (v := .ty "tuple") (by rfl) T.z_tuple bo_tuple rfl) pa_nil))))) (pw_or1 (pt_cmpR (ou_ne hr.units) (pe_callB cu_len (by rfl) T.z_len bo_len (pa_cons (pv 0) pa_nil)) pe_int (nomark _))))) (pss_one (ps_ret pe_bl)) pss_nil)
      (pss_cons (ps_if (PW.pt (pw_or (pt_not (pt_tr (pe_cF (c_law_between T) (hr.mono (by decide)) (takes_of rfl rfl rfl rfl) (pa_cons (pe_ix (ix_sd hr.units) (pv 0) pe_int (fun _ _ => rfl)) (pa_cons pe_int (pa_cons pe_int pa_nil)))))) (pw_or1 (pt_not (pt_tr (pe_cF (c_law_between T) (hr.mono (by decide)) (takes_of rfl rfl rfl rfl) (pa_cons (pe_ix (ix_sd hr.units) (pv 0) pe_int (fun _ _ => rfl)) (pa_cons pe_int (pa_cons pe_int pa_nil))))))))) (pss_one (ps_ret pe_bl)) pss_nil)
      (pss_one (ps_ret (pe_and (pe_cF (c_law_between T) (hr.mono (by decide)) (takes_of rfl rfl rfl rfl) (pa_cons (pe_ix (ix_sd hr.units) (pv 0) pe_int (fun _ _ => rfl)) (pa_cons pe_int (pa_cons pe_int pa_nil)))) (pe_and (pe_callB cu_isi (by rfl) T.z_isinstance bo_isinstance (pa_cons (pe_ix (ix_sd hr.units) (pv 0) pe_int (fun _ _ => rfl)) (pa_cons (pe_bltn (v := .ty "str") (by rfl) T.z_str bo_str rfl) pa_nil))) (pe_one (pe_cmpR (ov_in hr.units hr.units65) (pe_ix (ix_sd hr.units) (pv 0) pe_int (fun _ _ => rfl)) (pe_lst (pa_cons pe_str (pa_cons pe_str pa_nil))) (by rfl))))))))), ?_⟩)
  try dsimp only [L2.cxOf, List.map]
  exact fn_sat (m := b_law_is_rule) inferInstance (by decide) rfl h
theorem c_law_is_rule (T : Txt K mg) : CallOk P w K mg base (L2.CX P w) 2 "_law_is_rule" ["_law_thing"] [] (spV l_law_is_rule 1 m_law_is_rule K) := by
  obtain ⟨f, fd, hm, F⟩ := T.d_law_is_rule
  exact ⟨f, fd, [], hm, F.kp, F.bindsN (fun _ _ _ _ _ _ us hl => match us, hl with | [_], _ => rfl), .nil, f_law_is_rule T F⟩
/-! ### _law_spoilt -/
theorem sc_law_spoilt : FnScope ["_law_state", "_law_rule", "_law_way", "_law_place", "_law_some"] ["_law_state", "_law_rule"] (defScope s_law_spoilt) := ⟨rfl, rfl, rfl, by decide +kernel, rfl, by decide +kernel, by decide +kernel⟩
theorem f_law_spoilt (T : Txt K mg) {f : Addr} {fd : FuncData} (F : FunD K "_law_spoilt" "_law_spoilt" (defArgs s_law_spoilt) (defBody s_law_spoilt) (defScope s_law_spoilt) [] [] f fd) : FnOk P w K mg base (L2.CX P w) 2 f fd ["_law_state", "_law_rule"] (spV l_law_spoilt 2 m_law_spoilt K) := by
  haveI i_PLANS : KDat K (He.ga K "PLANS") (.tuple [(.str "fullest"), (.str "eldest")]) := ⟨fun H => rp_dp _ (T.n_PLANS H)⟩
  refine F.ok sc_law_spoilt (fun vs H Q E h => (spV_len h : vs.length + 0 = _)) (fun cdv A outer s H vs Q E hr h => ⟨_, (pss_cons (ps_asg (pe_cF (c_law_digit T) (hr.mono (by decide)) (takes_of rfl rfl rfl rfl) (pa_cons (pv 0) (pa_cons pe_int pa_nil))) (pg_name (i := 2) sc_law_spoilt.nd rfl (Or.inl rfl)))
      (pss_cons (ps_asg (pe_cF (c_law_digit T) (hr.mono (by decide)) (takes_of rfl rfl rfl rfl) (pa_cons (pv 0) (pa_cons pe_int pa_nil))) (pg_name (i := 3) sc_law_spoilt.nd rfl (Or.inl rfl)))
      (pss_cons (ps_asg (pe_lst (pa_cons pe_int (pa_cons pe_int (pa_cons pe_int (pa_cons pe_int (pa_cons pe_int (pa_cons pe_int (pa_cons pe_int (pa_cons pe_int (pa_cons (pe_un ou_neg pe_int) (pa_cons (pe_op ou_pow pe_int pe_int) (pa_cons pe_bl (pa_cons pe_bl (pa_cons pe_non (pa_cons pe_str (pa_cons pe_str (pa_cons pe_str (pa_cons pe_str (pa_cons pe_str (pa_cons (pe_lst (pa_cons pe_int pa_nil)) (pa_cons (pe_tup (pa_cons pe_int pa_nil)) pa_nil))))))))))))))))))))) (pg_name (i := 4) sc_law_spoilt.nd rfl (Or.inl rfl)))
      (pss_cons (ps_if (pt_cmpR (ou_eq hr.units) (pv 2) pe_int (nomark _)) (pss_one (ps_ret (pe_callTy cu_list (by rfl) T.z_list bo_list (pa_cons (pv 1) pa_nil)))) pss_nil)
      (pss_cons (ps_if (pt_cmpR (ou_eq hr.units) (pv 2) pe_int (nomark _)) (pss_one (ps_ret (pe_op ou_add (pv 1) (pe_tup (pa_cons pe_int pa_nil))))) pss_nil)
      (pss_cons (ps_if (pt_cmpR (ou_eq hr.units) (pv 2) pe_int (nomark _)) (pss_one (ps_ret (pe_op ou_add (pe_slice sv_sl (pv 1) po_none (po_some (pv 3))) (pe_slice sv_sl (pv 1) (po_some (pe_op ou_add (pv 3) pe_int)) po_none)))) pss_nil)
      (pss_cons (ps_if (pt_cmpR (ou_eq hr.units) (pv 2) pe_int (nomark _)) (pss_one (ps_ret (pe_ix (ix_sd hr.units) (pe_lst (pa_cons pe_non (pa_cons pe_str (pa_cons pe_int (pa_cons (pe_tup (pa_cons (pv 1) pa_nil)) (pa_cons (pe_tup pa_nil) pa_nil)))))) (pe_cF (c_law_digit T) (hr.mono (by decide)) (takes_of rfl rfl rfl rfl) (pa_cons (pv 0) (pa_cons pe_int pa_nil))) (fun _ _ => rfl)))) pss_nil)
      (pss_one (ps_ret (pe_op ou_add (pe_op ou_add (pe_slice sv_sl (pv 1) po_none (po_some (pv 3))) (pe_tup (pa_cons (pe_ix (ix_sd hr.units) (pv 4) (pe_cF (c_law_digit T) (hr.mono (by decide)) (takes_of rfl rfl rfl rfl) (pa_cons (pv 0) (pa_cons pe_int pa_nil))) (fun _ _ => rfl)) pa_nil))) (pe_slice sv_sl (pv 1) (po_some (pe_op ou_add (pv 3) pe_int)) po_none))))))))))), ?_⟩)
  try dsimp only [L2.cxOf, List.map]
  exact fn_sat (m := b_law_spoilt) inferInstance (by decide) rfl h
theorem c_law_spoilt (T : Txt K mg) : CallOk P w K mg base (L2.CX P w) 2 "_law_spoilt" ["_law_state", "_law_rule"] [] (spV l_law_spoilt 2 m_law_spoilt K) := by
  obtain ⟨f, fd, hm, F⟩ := T.d_law_spoilt
  exact ⟨f, fd, [], hm, F.kp, F.bindsN (fun _ _ _ _ _ _ us hl => match us, hl with | [_, _], _ => rfl), .nil, f_law_spoilt T F⟩
/-! ### Room.__init__ -/
theorem sc_Room___init__ : FnScope ["self", "number"] ["self", "number"] (defScope s_Room___init__) := ⟨rfl, rfl, rfl, by decide +kernel, rfl, by decide +kernel, by decide +kernel⟩
theorem hf_Room___init__ (T : Txt K mg) {f : Addr} {fd : FuncData} (F : FunD K "__init__" "Room.__init__" (defArgs s_Room___init__) (defBody s_Room___init__) (defScope s_Room___init__) [] [] f fd) : FnOk P w K mg base (L2.CX P w) 1 f fd ["self", "number"] (spV (false :: l_Room___init__) 3 hm_Room___init__ K) := by
  haveI i_PLANS : KDat K (He.ga K "PLANS") (.tuple [(.str "fullest"), (.str "eldest")]) := ⟨fun H => rp_dp _ (T.n_PLANS H)⟩
  haveI i_cf : CF K ctab := T.cf
  refine F.ok sc_Room___init__ (fun vs H Q E h => (Nat.add_right_cancel (m := 1) (spV_len h))) (fun cdv A outer s H vs Q E hr h => ⟨_, (pss_one (ps_fldK K (pv 0) (pv 1) rfl)), ?_⟩)
  try dsimp only [L2.cxOf, List.map]
  exact fn_sat (m := hb_Room___init__) inferInstance (by decide) rfl h
theorem cu_Room___init__ (T : Txt K mg) : UnOk P w K mg base (L2.CX P w) 1 "Room" "__init__" (spV (false :: l_Room___init__) 3 hm_Room___init__ K) := by
  obtain ⟨fd, F⟩ := T.d_Room___init__
  exact ⟨_, fd, ["self", "number"], T.g_Room, T.u_Room___init__, F.bindsN (fun _ _ _ _ _ _ us hl => match us, hl with | [_, _], _ => rfl), hf_Room___init__ T F⟩
/-! ### Leaf.__init__ -/
theorem sc_Leaf___init__ : FnScope ["self", "number", "rows"] ["self", "number", "rows"] (defScope s_Leaf___init__) := ⟨rfl, rfl, rfl, by decide +kernel, rfl, by decide +kernel, by decide +kernel⟩
theorem hf_Leaf___init__ (T : Txt K mg) {f : Addr} {fd : FuncData} (F : FunD K "__init__" "Leaf.__init__" (defArgs s_Leaf___init__) (defBody s_Leaf___init__) (defScope s_Leaf___init__) [] [] f fd) : FnOk P w K mg base (L2.CX P w) 2 f fd ["self", "number", "rows"] (spV (false :: l_Leaf___init__) 4 hm_Leaf___init__ K) := by
  haveI i_PLANS : KDat K (He.ga K "PLANS") (.tuple [(.str "fullest"), (.str "eldest")]) := ⟨fun H => rp_dp _ (T.n_PLANS H)⟩
  haveI i_cf : CF K ctab := T.cf
  refine F.ok sc_Leaf___init__ (fun vs H Q E h => (Nat.add_right_cancel (m := 1) (spV_len h))) (fun cdv A outer s H vs Q E hr h => ⟨_, (pss_cons (ps_expr (pe_un (cu_Room___init__ T) (hr.mono (by decide)) (takes_of rfl rfl rfl rfl) (pa_cons (pv 0) (pa_cons (pv 1) pa_nil))))
      (pss_one (ps_fldK K (pv 0) (pv 2) rfl))), ?_⟩)
  try dsimp only [L2.cxOf, List.map]
  exact fn_sat (m := hb_Leaf___init__) inferInstance (by decide) rfl h
theorem cn_Leaf (T : Txt K mg) : NewOk P w K mg base (L2.CX P w) 2 "Leaf" (spV (false :: l_Leaf___init__) 4 hm_Leaf___init__ K) := by
  obtain ⟨fd, F⟩ := T.d_Leaf___init__
  exact ⟨_, fd, ["self", "number", "rows"], T.g_Leaf, T.n_Leaf, F.bindsN (fun _ _ _ _ _ _ us hl => match us, hl with | [_, _, _], _ => rfl), hf_Leaf___init__ T F⟩
/-! ### Store.__init__ -/
theorem sc_Store___init__ : FnScope ["self", "rule"] ["self", "rule"] (defScope s_Store___init__) := ⟨rfl, rfl, rfl, by decide +kernel, rfl, by decide +kernel, by decide +kernel⟩
theorem hf_Store___init__ (T : Txt K mg) {f : Addr} {fd : FuncData} (F : FunD K "__init__" "Store.__init__" (defArgs s_Store___init__) (defBody s_Store___init__) (defScope s_Store___init__) [] [] f fd) : FnOk P w K mg base (L2.CX P w) 4 f fd ["self", "rule"] (spV (false :: l_Store___init__) 3 hm_Store___init__ K) := by
  haveI i_PLANS : KDat K (He.ga K "PLANS") (.tuple [(.str "fullest"), (.str "eldest")]) := ⟨fun H => rp_dp _ (T.n_PLANS H)⟩
  haveI i_cf : CF K ctab := T.cf
  refine F.ok sc_Store___init__ (fun vs H Q E h => (Nat.add_right_cancel (m := 1) (spV_len h))) (fun cdv A outer s H vs Q E hr h => ⟨_, (pss_cons (ps_if (pt_not (pt_tr (pe_pure (pe_cF (c_is_rule T) (hr.mono (by decide)) (takes_of rfl rfl rfl rfl) (pa_cons (pv 1) pa_nil))))) (pss_one (ps_rz rfl (takes_of rfl rfl rfl rfl) PySem.F.excBase_ValueError T.x_NoRule.1 T.x_NoRule.2.1 T.x_NoRule.2.2.1 (raises_own T.x_NoRule.2.2.2.1 T.x_NoRule.2.2.2.2))) pss_nil)
      (pss_cons (ps_fldK K (pv 0) (pv 1) rfl)
      (pss_cons (ps_fldK K (pv 0) pe_int rfl)
      (pss_cons (ps_fldK K (pv 0) (pe_nmo (pe_lst pa_nil)) rfl)
      (pss_cons (ps_fldK K (pv 0) pe_int rfl)
      (pss_cons (ps_fldK K (pv 0) (pe_mkK K (cn_Leaf T) (hr.mono (by decide)) (takes_of rfl rfl rfl rfl) (pa_cons pe_int (pa_cons (pe_lst pa_nil) pa_nil))) rfl)
      (pss_cons (ps_fldK K (pv 0) (pe_nmo (pe_lst pa_nil)) rfl)
      (pss_one (ps_fldK K (pv 0) pe_int rfl))))))))), ?_⟩)
  try dsimp only [L2.cxOf, List.map]
  exact fn_sat (m := hb_Store___init__) inferInstance (by decide) rfl h
theorem cn_Store (T : Txt K mg) : NewOk P w K mg base (L2.CX P w) 4 "Store" (spV (false :: l_Store___init__) 3 hm_Store___init__ K) := by
  obtain ⟨fd, F⟩ := T.d_Store___init__
  exact ⟨_, fd, ["self", "rule"], T.g_Store, T.n_Store, F.bindsN (fun _ _ _ _ _ _ us hl => match us, hl with | [_, _], _ => rfl), hf_Store___init__ T F⟩
/-! ### Store.marks -/
theorem sc_Store_marks : FnScope ["self"] ["self"] (defScope s_Store_marks) := ⟨rfl, rfl, rfl, by decide +kernel, rfl, by decide +kernel, by decide +kernel⟩
theorem hf_Store_marks (T : Txt K mg) {f : Addr} {fd : FuncData} (F : FunD K "marks" "Store.marks" (defArgs s_Store_marks) (defBody s_Store_marks) (defScope s_Store_marks) [] [] f fd) : FnOk P w K mg base (L2.CX P w) 1 f fd ["self"] (spV (false :: l_Store_marks) 2 hm_Store_marks K) := by
  haveI i_PLANS : KDat K (He.ga K "PLANS") (.tuple [(.str "fullest"), (.str "eldest")]) := ⟨fun H => rp_dp _ (T.n_PLANS H)⟩
  haveI i_cf : CF K ctab := T.cf
  refine F.ok sc_Store_marks (fun vs H Q E h => (Nat.add_right_cancel (m := 1) (spV_len h))) (fun cdv A outer s H vs Q E hr h => ⟨_, (pss_one (ps_retO (ps_ret (pe_callTy (cu_listD rfl) (by rfl) T.z_list bo_list (pa_cons (pe_fldK K (pv 0) rfl) pa_nil))))), ?_⟩)
  try dsimp only [L2.cxOf, List.map]
  exact fn_sat (m := hb_Store_marks) inferInstance (by decide) rfl h
theorem mt_marks (T : Txt K mg) : MethOk P w K mg base (L2.CX P w) 1 "marks" [("Store", 2, hm_Store_marks)] := by
  refine ⟨fun c n m h => ?_⟩
  simp only [List.mem_cons, List.not_mem_nil, or_false, Prod.mk.injEq] at h
  obtain ⟨rfl, rfl, rfl⟩ := h
  · obtain ⟨fd, F⟩ := T.d_Store_marks
    exact ⟨T.c_Store, _, fd, ["self"], T.m_Store_marks, F.bindsN (fun _ _ _ _ _ _ us hl => match us, hl with | [_], _ => rfl), (hf_Store_marks T F).mono (by decide)⟩
/-! ### is_number -/
theorem sc_is_number : FnScope ["thing"] ["thing"] (defScope s_is_number) := ⟨rfl, rfl, rfl, by decide +kernel, rfl, by decide +kernel, by decide +kernel⟩
theorem f_is_number (T : Txt K mg) {f : Addr} {fd : FuncData} (F : FunD K "is_number" "is_number" (defArgs s_is_number) (defBody s_is_number) (defScope s_is_number) [] [] f fd) : FnOk P w K mg base (L2.CX P w) 1 f fd ["thing"] (spV l_is_number 1 m_is_number K) := by
  haveI i_PLANS : KDat K (He.ga K "PLANS") (.tuple [(.str "fullest"), (.str "eldest")]) := ⟨fun H => rp_dp _ (T.n_PLANS H)⟩
  refine F.ok sc_is_number (fun vs H Q E h => (spV_len h : vs.length + 0 = _)) (fun cdv A outer s H vs Q E hr h => ⟨_, (pss_one (ps_ret (pe_and (pe_callB cu_isi (by rfl) T.z_isinstance bo_isinstance (pa_cons (pv 0) (pa_cons (pe_bltn (v := .ty "int") (by rfl) T.z_int bo_int rfl) pa_nil))) (pe_one (pe_not (pe_callB cu_isi (by rfl) T.z_isinstance bo_isinstance (pa_cons (pv 0) (pa_cons (pe_bltn (v := .ty "bool") (by rfl) T.z_bool bo_bool rfl) pa_nil)))))))), ?_⟩)
  try dsimp only [L2.cxOf, List.map]
  exact fn_sat (m := b_is_number) inferInstance (by decide) rfl h
theorem c_is_number (T : Txt K mg) : CallOk P w K mg base (L2.CX P w) 1 "is_number" ["thing"] [] (spV l_is_number 1 m_is_number K) := by
  obtain ⟨f, fd, hm, F⟩ := T.d_is_number
  exact ⟨f, fd, [], hm, F.kp, F.bindsN (fun _ _ _ _ _ _ us hl => match us, hl with | [_], _ => rfl), .nil, f_is_number T F⟩
/-! ### is_key -/
theorem sc_is_key : FnScope ["thing"] ["thing"] (defScope s_is_key) := ⟨rfl, rfl, rfl, by decide +kernel, rfl, by decide +kernel, by decide +kernel⟩
theorem f_is_key (T : Txt K mg) {f : Addr} {fd : FuncData} (F : FunD K "is_key" "is_key" (defArgs s_is_key) (defBody s_is_key) (defScope s_is_key) [] [] f fd) : FnOk P w K mg base (L2.CX P w) 2 f fd ["thing"] (spV l_is_key 1 m_is_key K) := by
  haveI i_PLANS : KDat K (He.ga K "PLANS") (.tuple [(.str "fullest"), (.str "eldest")]) := ⟨fun H => rp_dp _ (T.n_PLANS H)⟩
  refine F.ok sc_is_key (fun vs H Q E h => (spV_len h : vs.length + 0 = _)) (fun cdv A outer s H vs Q E hr h => ⟨_, (pss_one (ps_ret (pe_cF (c_is_whole T) (hr.mono (by decide)) (takes_of rfl rfl rfl rfl) (pa_cons (pv 0) (pa_cons pe_int (pa_cons (pe_op ou_sub (pe_k_END T) pe_int) pa_nil)))))), ?_⟩)
  try dsimp only [L2.cxOf, List.map]
  exact fn_sat (m := b_is_key) inferInstance (by decide) rfl h
theorem c_is_key (T : Txt K mg) : CallOk P w K mg base (L2.CX P w) 2 "is_key" ["thing"] [] (spV l_is_key 1 m_is_key K) := by
  obtain ⟨f, fd, hm, F⟩ := T.d_is_key
  exact ⟨f, fd, [], hm, F.kp, F.bindsN (fun _ _ _ _ _ _ us hl => match us, hl with | [_], _ => rfl), .nil, f_is_key T F⟩
/-! ### is_stretch -/
theorem sc_is_stretch : FnScope ["low", "high"] ["low", "high"] (defScope s_is_stretch) := ⟨rfl, rfl, rfl, by decide +kernel, rfl, by decide +kernel, by decide +kernel⟩
theorem f_is_stretch (T : Txt K mg) {f : Addr} {fd : FuncData} (F : FunD K "is_stretch" "is_stretch" (defArgs s_is_stretch) (defBody s_is_stretch) (defScope s_is_stretch) [] [] f fd) : FnOk P w K mg base (L2.CX P w) 3 f fd ["low", "high"] (spV l_is_stretch 2 m_is_stretch K) := by
  haveI i_PLANS : KDat K (He.ga K "PLANS") (.tuple [(.str "fullest"), (.str "eldest")]) := ⟨fun H => rp_dp _ (T.n_PLANS H)⟩
  refine F.ok sc_is_stretch (fun vs H Q E h => (spV_len h : vs.length + 0 = _)) (fun cdv A outer s H vs Q E hr h => ⟨_, (pss_one (ps_ret (pe_and (pe_cF (c_is_key T) (hr.mono (by decide)) (takes_of rfl rfl rfl rfl) (pa_cons (pv 0) pa_nil)) (pe_one (pe_cF (c_is_whole T) (hr.mono (by decide)) (takes_of rfl rfl rfl rfl) (pa_cons (pv 1) (pa_cons (pe_op ou_add (pv 0) pe_int) (pa_cons (pe_k_END T) pa_nil)))))))), ?_⟩)
  try dsimp only [L2.cxOf, List.map]
  exact fn_sat (m := b_is_stretch) inferInstance (by decide) rfl h
theorem c_is_stretch (T : Txt K mg) : CallOk P w K mg base (L2.CX P w) 3 "is_stretch" ["low", "high"] [] (spV l_is_stretch 2 m_is_stretch K) := by
  obtain ⟨f, fd, hm, F⟩ := T.d_is_stretch
  exact ⟨f, fd, [], hm, F.kp, F.bindsN (fun _ _ _ _ _ _ us hl => match us, hl with | [_, _], _ => rfl), .nil, f_is_stretch T F⟩
/-! ### value_of -/
theorem sc_value_of : FnScope ["versions", "at", "found", "number", "value"] ["versions", "at"] (defScope s_value_of) := ⟨rfl, rfl, rfl, by decide +kernel, rfl, by decide +kernel, by decide +kernel⟩
theorem f_value_of (T : Txt K mg) {f : Addr} {fd : FuncData} (F : FunD K "value_of" "value_of" (defArgs s_value_of) (defBody s_value_of) (defScope s_value_of) [] [("at", .non)] f fd) : FnOk P w K mg base (L2.CX P w) 1 f fd ["versions", "at"] (spV l_value_of 2 m_value_of K) := by
  haveI i_PLANS : KDat K (He.ga K "PLANS") (.tuple [(.str "fullest"), (.str "eldest")]) := ⟨fun H => rp_dp _ (T.n_PLANS H)⟩
  refine F.ok sc_value_of (fun vs H Q E h => (spV_len h : vs.length + 0 = _)) (fun cdv A outer s H vs Q E hr h => ⟨_, (pss_cons (ps_asg pe_non (pg_name (i := 2) sc_value_of.nd rfl (Or.inl rfl)))
      (pss_cons (ps_for (passes_of rfl) rfl (pi_list (pv 0)) (pg_tup (n := 2) rfl (pgs_cons (pg_name (i := 3) sc_value_of.nd rfl (Or.inl rfl)) (pgs_cons (pg_name (i := 4) sc_value_of.nd rfl (Or.inl rfl)) pgs_nil))) (pss_end [3, 4] (pss_one (ps_if (PW.pt (pw_or (pt_cmpR ov_is (pv 1) pe_non (nomark _)) (pw_or1 (pt_cmpR ou_le (pv 3) (pv 1) (nomark _))))) (pss_one (ps_asg (pv 4) (pg_name (i := 2) sc_value_of.nd rfl (Or.inl rfl)))) pss_nil))))
      (pss_one (ps_ret (pv 2))))), ?_⟩)
  try dsimp only [L2.cxOf, List.map]
  exact fn_sat (m := b_value_of) inferInstance (by decide) rfl h
theorem ck_value_of_1_at (T : Txt K mg) : CallK P w K mg base (L2.CX P w) 1 "value_of" ["versions", "at"] 1 ["at"] lay_value_of_1_at (spV l_value_of 2 m_value_of K) := by
  obtain ⟨f, fd, hm, F⟩ := T.d_value_of
  obtain ⟨mv, B⟩ := F.kbinds0 (ps := ["versions", "at"]) 1 ["at"] [] (fun us mv ws => layG [(0, 0), (1, 0)] us mv ws) (by intro z; cases z) (by decide) (fun r1 r2 r3 => vals_layG r1 r2 r3 _) (fun D doc pm an cdv ct us mv ws h1 h2 h3 => match us, mv, ws, h1, h2, h3 with | [_], [], [_], _, _, _ => rfl)
  exact ⟨f, fd, _, hm, F.kp, B, f_value_of T F⟩
/-! ### Room.is_leaf -/
theorem sc_Room_is_leaf : FnScope ["self"] ["self"] (defScope s_Room_is_leaf) := ⟨rfl, rfl, rfl, by decide +kernel, rfl, by decide +kernel, by decide +kernel⟩
theorem hf_Room_is_leaf (T : Txt K mg) {f : Addr} {fd : FuncData} (F : FunD K "is_leaf" "Room.is_leaf" (defArgs s_Room_is_leaf) (defBody s_Room_is_leaf) (defScope s_Room_is_leaf) [] [] f fd) : FnOk P w K mg base (L2.CX P w) 1 f fd ["self"] (spV (false :: l_Room_is_leaf) 2 hm_Room_is_leaf K) := by
  haveI i_PLANS : KDat K (He.ga K "PLANS") (.tuple [(.str "fullest"), (.str "eldest")]) := ⟨fun H => rp_dp _ (T.n_PLANS H)⟩
  haveI i_cf : CF K ctab := T.cf
  refine F.ok sc_Room_is_leaf (fun vs H Q E h => (Nat.add_right_cancel (m := 1) (spV_len h))) (fun cdv A outer s H vs Q E hr h => ⟨_, (pss_one (ps_ret pe_bl)), ?_⟩)
  try dsimp only [L2.cxOf, List.map]
  exact fn_sat (m := hb_Room_is_leaf) inferInstance (by decide) rfl h
theorem mt_is_leaf (T : Txt K mg) : MethOk P w K mg base (L2.CX P w) 1 "is_leaf" [("Room", 2, hm_Room_is_leaf), ("Leaf", 2, hm_Room_is_leaf)] := by
  refine ⟨fun c n m h => ?_⟩
  simp only [List.mem_cons, List.not_mem_nil, or_false, Prod.mk.injEq] at h
  rcases h with ⟨rfl, rfl, rfl⟩ | ⟨rfl, rfl, rfl⟩
  · obtain ⟨fd, F⟩ := T.d_Room_is_leaf
    exact ⟨T.c_Room, _, fd, ["self"], T.m_Room_is_leaf, F.bindsN (fun _ _ _ _ _ _ us hl => match us, hl with | [_], _ => rfl), (hf_Room_is_leaf T F).mono (by decide)⟩
  · obtain ⟨fd, F⟩ := T.d_Leaf_is_leaf
    exact ⟨T.c_Leaf, _, fd, ["self"], T.m_Leaf_is_leaf, F.bindsN (fun _ _ _ _ _ _ us hl => match us, hl with | [_], _ => rfl), (hf_Room_is_leaf T F).mono (by decide)⟩
/-! ### values_in -/
theorem sc_values_in : FnScope ["room", "low", "high", "at", "found", "key", "versions", "value", "k", "child", "first", "end", "note"] ["room", "low", "high", "at"] (defScope s_values_in) := ⟨rfl, rfl, rfl, by decide +kernel, rfl, by decide +kernel, by decide +kernel⟩
theorem hf_values_in (T : Txt K mg) {f : Addr} {fd : FuncData} (F : FunD K "values_in" "values_in" (defArgs s_values_in) (defBody s_values_in) (defScope s_values_in) [] [] f fd) : FnOk P w K mg base (L2.CX P w) 2 f fd ["room", "low", "high", "at"] (spV (false :: l_values_in) 5 hm_values_in K) := by
  haveI i_PLANS : KDat K (He.ga K "PLANS") (.tuple [(.str "fullest"), (.str "eldest")]) := ⟨fun H => rp_dp _ (T.n_PLANS H)⟩
  haveI i_cf : CF K ctab := T.cf
  refine F.ok sc_values_in (fun vs H Q E h => (Nat.add_right_cancel (m := 1) (spV_len h))) (fun cdv A outer s H vs Q E hr h => ⟨_, (pss_cons (ps_if (pt_tr (pe_m0K K (pv 0) (mt_is_leaf T) (hr.mono (by decide)) (takes_of rfl rfl rfl rfl))) (pss_cons (ps_own (ps_setDc (i := 4) (own := [("key", 5), ("versions", 6)]) (g := _) rfl sc_values_in.nd rfl rfl (sw_trueD rfl rfl rfl (by decide +kernel)) (pi_list (pe_fldK K (pv 0) rfl)) (blkOk_by (own := [("key", 5), ("versions", 6)]) (N := ["room", "low", "high", "at", "found", "key", "versions", "value", "k", "child", "first", "end", "note"]) (sc := defScope s_values_in) (by decide +kernel)) (fun _ _ _ _ _ => (pg_tupK K (n := 2) rfl (pgs_cons (pg_name (i := 5) sc_values_in.nd rfl (Or.inl rfl)) (pgs_cons (pg_name (i := 6) sc_values_in.nd rfl (Or.inl rfl)) pgs_nil)))) (fun _ _ _ _ _ => (pts_one (pt_chain ou_le ou_lt (pv 1) (pv 5) (pv 2)))) (fun _ _ _ _ _ => (pv 5)) (fun _ _ _ _ _ => (pe_pure (pe_cK (ck_value_of_1_at T) (hr.mono (by decide)) takesW0 (pa_cons (pv 6) pa_nil) (pk_cons (pv 3) pk_nil))))))
      (pss_one (ps_frzK 4 (ps_retO (ps_ret (pe_dc (own := [("key", 5), ("value", 7)]) (g := _) rfl sc_values_in.nd (pi_items (pv 4)) (blkOk_by (own := [("key", 5), ("value", 7)]) (N := ["room", "low", "high", "at", "found", "key", "versions", "value", "k", "child", "first", "end", "note"]) (sc := defScope s_values_in) (by decide +kernel)) (fun _ _ _ _ _ => (pg_tupK K (n := 2) rfl (pgs_cons (pg_name (i := 5) sc_values_in.nd rfl (Or.inl rfl)) (pgs_cons (pg_name (i := 7) sc_values_in.nd rfl (Or.inl rfl)) pgs_nil)))) (fun _ _ _ _ _ => (pts_one (pt_cmpR ov_isn (pv 7) pe_non (nomark _)))) (fun _ _ _ _ _ => (pv 5)) (fun _ _ _ _ _ => (pv 7)))))))) pss_nil)
      pss_dead), ?_⟩)
  try dsimp only [L2.cxOf, List.map]
  exact fn_sat (m := hb_values_in) inferInstance (by decide) rfl h
theorem ch_values_in (T : Txt K mg) : CallOk P w K mg base (L2.CX P w) 2 "values_in" ["room", "low", "high", "at"] [] (spV (false :: l_values_in) 5 hm_values_in K) := by
  obtain ⟨f, fd, hm, F⟩ := T.d_values_in
  exact ⟨f, fd, [], hm, F.kp, F.bindsN (fun _ _ _ _ _ _ us hl => match us, hl with | [_, _, _, _], _ => rfl), .nil, hf_values_in T F⟩
/-! ### pairs_in -/
theorem sc_pairs_in : FnScope ["room", "low", "high", "at", "found", "key"] ["room", "low", "high", "at"] (defScope s_pairs_in) := ⟨rfl, rfl, rfl, by decide +kernel, rfl, by decide +kernel, by decide +kernel⟩
theorem hf_pairs_in (T : Txt K mg) {f : Addr} {fd : FuncData} (F : FunD K "pairs_in" "pairs_in" (defArgs s_pairs_in) (defBody s_pairs_in) (defScope s_pairs_in) [] [] f fd) : FnOk P w K mg base (L2.CX P w) 3 f fd ["room", "low", "high", "at"] (spV (false :: l_pairs_in) 5 hm_pairs_in K) := by
  haveI i_PLANS : KDat K (He.ga K "PLANS") (.tuple [(.str "fullest"), (.str "eldest")]) := ⟨fun H => rp_dp _ (T.n_PLANS H)⟩
  haveI i_cf : CF K ctab := T.cf
  refine F.ok sc_pairs_in (fun vs H Q E h => (Nat.add_right_cancel (m := 1) (spV_len h))) (fun cdv A outer s H vs Q E hr h => ⟨_, (pss_cons (ps_asg (pe_nmo (pe_cF (ch_values_in T) (hr.mono (by decide)) (takes_of rfl rfl rfl rfl) (pa_cons (pv 0) (pa_cons (pv 1) (pa_cons (pv 2) (pa_cons (pv 3) pa_nil)))))) (pg_name (i := 4) sc_pairs_in.nd rfl (Or.inr rfl)))
      (pss_one (ps_retO (ps_ret (pe_lc (own := [("key", 5)]) (g := gName 5) (tt := tYes) rfl sc_pairs_in.nd (pi_list (pe_callB (cu_sortX rfl) (by rfl) T.z_sorted bo_sorted (pa_cons (pv 4) pa_nil))) (blkOk_by (own := [("key", 5)]) (N := ["room", "low", "high", "at", "found", "key"]) (sc := defScope s_pairs_in) (by decide +kernel)) (fun _ _ _ _ _ => (pg_name (i := 5) sc_pairs_in.nd rfl (Or.inl rfl))) (fun _ _ _ _ _ => pts_nil) (fun _ _ _ _ _ => (pe_tup (pa_cons (pv 5) (pa_cons (pe_refm (pe_ix (ky_ix K hr.units) (pv 4) (pv 5) (fun _ _ => rfl))) pa_nil))))))))), ?_⟩)
  try dsimp only [L2.cxOf, List.map]
  exact fn_sat (m := hb_pairs_in) inferInstance (by decide) rfl h
theorem ch_pairs_in (T : Txt K mg) : CallOk P w K mg base (L2.CX P w) 3 "pairs_in" ["room", "low", "high", "at"] [] (spV (false :: l_pairs_in) 5 hm_pairs_in K) := by
  obtain ⟨f, fd, hm, F⟩ := T.d_pairs_in
  exact ⟨f, fd, [], hm, F.kp, F.bindsN (fun _ _ _ _ _ _ us hl => match us, hl with | [_, _, _, _], _ => rfl), .nil, hf_pairs_in T F⟩
/-! ### Store.look -/
theorem sc_Store_look : FnScope ["self", "at"] ["self", "at"] (defScope s_Store_look) := ⟨rfl, rfl, rfl, by decide +kernel, rfl, by decide +kernel, by decide +kernel⟩
theorem hf_Store_look (T : Txt K mg) {f : Addr} {fd : FuncData} (F : FunD K "look" "Store.look" (defArgs s_Store_look) (defBody s_Store_look) (defScope s_Store_look) [] [] f fd) : FnOk P w K mg base (L2.CX P w) 2 f fd ["self", "at"] (spV (false :: l_Store_look) 3 hm_Store_look K) := by
  haveI i_PLANS : KDat K (He.ga K "PLANS") (.tuple [(.str "fullest"), (.str "eldest")]) := ⟨fun H => rp_dp _ (T.n_PLANS H)⟩
  haveI i_cf : CF K ctab := T.cf
  refine F.ok sc_Store_look (fun vs H Q E h => (Nat.add_right_cancel (m := 1) (spV_len h))) (fun cdv A outer s H vs Q E hr h => ⟨_, (pss_one (ps_if (PW.pt (pw_and (pt_cmpR ov_isn (pv 1) pe_non (nomark _)) (pw_and1 (PW.pt (pw_or (pt_not (pt_tr (pe_pure (pe_cF (c_is_number T) (hr.mono (by decide)) (takes_of rfl rfl rfl rfl) (pa_cons (pv 1) pa_nil))))) (pw_or1 (pt_refC (pt_cmpR (ov_nin hr.units hr.units65) (pv 1) (pe_fldK K (pv 0) rfl) (by rfl))))))))) (pss_one (ps_rz rfl (takes_of rfl rfl rfl rfl) PySem.F.excBase_ValueError T.x_NoMark.1 T.x_NoMark.2.1 T.x_NoMark.2.2.1 (raises_own T.x_NoMark.2.2.2.1 T.x_NoMark.2.2.2.2))) pss_nil)), ?_⟩)
  try dsimp only [L2.cxOf, List.map]
  exact fn_sat (m := hb_Store_look) inferInstance (by decide) rfl h
theorem mt_look (T : Txt K mg) : MethOk P w K mg base (L2.CX P w) 2 "look" [("Store", 3, hm_Store_look)] := by
  refine ⟨fun c n m h => ?_⟩
  simp only [List.mem_cons, List.not_mem_nil, or_false, Prod.mk.injEq] at h
  obtain ⟨rfl, rfl, rfl⟩ := h
  · obtain ⟨fd, F⟩ := T.d_Store_look
    exact ⟨T.c_Store, _, fd, ["self", "at"], T.m_Store_look, F.bindsN (fun _ _ _ _ _ _ us hl => match us, hl with | [_, _], _ => rfl), (hf_Store_look T F).mono (by decide)⟩
/-! ### Store.pairs -/
theorem sc_Store_pairs : FnScope ["self", "low", "high", "at"] ["self", "low", "high", "at"] (defScope s_Store_pairs) := ⟨rfl, rfl, rfl, by decide +kernel, rfl, by decide +kernel, by decide +kernel⟩
theorem hf_Store_pairs (T : Txt K mg) {f : Addr} {fd : FuncData} (F : FunD K "pairs" "Store.pairs" (defArgs s_Store_pairs) (defBody s_Store_pairs) (defScope s_Store_pairs) [] [] f fd) : FnOk P w K mg base (L2.CX P w) 4 f fd ["self", "low", "high", "at"] (spV (false :: l_Store_pairs) 5 hm_Store_pairs K) := by
  haveI i_PLANS : KDat K (He.ga K "PLANS") (.tuple [(.str "fullest"), (.str "eldest")]) := ⟨fun H => rp_dp _ (T.n_PLANS H)⟩
  haveI i_cf : CF K ctab := T.cf
  refine F.ok sc_Store_pairs (fun vs H Q E h => (Nat.add_right_cancel (m := 1) (spV_len h))) (fun cdv A outer s H vs Q E hr h => ⟨_, (pss_cons (ps_if (pt_not (pt_tr (pe_pure (pe_cF (c_is_stretch T) (hr.mono (by decide)) (takes_of rfl rfl rfl rfl) (pa_cons (pv 1) (pa_cons (pv 2) pa_nil)))))) (pss_one (ps_rz rfl (takes_of rfl rfl rfl rfl) PySem.F.excBase_ValueError T.x_NoStretch.1 T.x_NoStretch.2.1 T.x_NoStretch.2.2.1 (raises_own T.x_NoStretch.2.2.2.1 T.x_NoStretch.2.2.2.2))) pss_nil)
      (pss_cons (ps_expr (pe_mKK K (pv 0) (mt_look T) (hr.mono (by decide)) (takes_of rfl rfl rfl rfl) (pa_cons (pv 3) pa_nil)))
      (pss_one (ps_retO (ps_ret (pe_cF (ch_pairs_in T) (hr.mono (by decide)) (takes_of rfl rfl rfl rfl) (pa_cons (pe_fldK K (pv 0) rfl) (pa_cons (pv 1) (pa_cons (pv 2) (pa_cons (pv 3) pa_nil)))))))))), ?_⟩)
  try dsimp only [L2.cxOf, List.map]
  exact fn_sat (m := hb_Store_pairs) inferInstance (by decide) rfl h
theorem mt_pairs (T : Txt K mg) : MethOk P w K mg base (L2.CX P w) 4 "pairs" [("Store", 5, hm_Store_pairs)] := by
  refine ⟨fun c n m h => ?_⟩
  simp only [List.mem_cons, List.not_mem_nil, or_false, Prod.mk.injEq] at h
  obtain ⟨rfl, rfl, rfl⟩ := h
  · obtain ⟨fd, F⟩ := T.d_Store_pairs
    exact ⟨T.c_Store, _, fd, ["self", "low", "high", "at"], T.m_Store_pairs, F.bindsN (fun _ _ _ _ _ _ us hl => match us, hl with | [_, _, _, _], _ => rfl), (hf_Store_pairs T F).mono (by decide)⟩
/-! ### Store.stretch -/
theorem sc_Store_stretch : FnScope ["self", "low", "high", "at", "most", "back", "pairs"] ["self", "low", "high", "at", "most", "back"] (defScope s_Store_stretch) := ⟨rfl, rfl, rfl, by decide +kernel, rfl, by decide +kernel, by decide +kernel⟩
theorem hf_Store_stretch (T : Txt K mg) {f : Addr} {fd : FuncData} (F : FunD K "stretch" "Store.stretch" (defArgs s_Store_stretch) (defBody s_Store_stretch) (defScope s_Store_stretch) [(.int 0), (.int 1000000000000)] [("at", .non), ("most", .non), ("back", (.bl false))] f fd) : FnOk P w K mg base (L2.CX P w) 5 f fd ["self", "low", "high", "at", "most", "back"] (spV (false :: l_Store_stretch) 7 hm_Store_stretch K) := by
  haveI i_PLANS : KDat K (He.ga K "PLANS") (.tuple [(.str "fullest"), (.str "eldest")]) := ⟨fun H => rp_dp _ (T.n_PLANS H)⟩
  haveI i_cf : CF K ctab := T.cf
  refine F.ok sc_Store_stretch (fun vs H Q E h => (Nat.add_right_cancel (m := 1) (spV_len h))) (fun cdv A outer s H vs Q E hr h => ⟨_, (pss_cons (ps_asg (pe_mKK K (pv 0) (mt_pairs T) (hr.mono (by decide)) (takes_of rfl rfl rfl rfl) (pa_cons (pv 1) (pa_cons (pv 2) (pa_cons (pv 3) pa_nil)))) (pg_name (i := 6) sc_Store_stretch.nd rfl (Or.inl rfl)))
      (pss_cons (ps_if (PW.pt (pw_and (pt_cmpR ov_isn (pv 4) pe_non (nomark _)) (pw_and1 (PW.pt (pw_or (pt_not (pt_tr (pe_pure (pe_cF (c_is_number T) (hr.mono (by decide)) (takes_of rfl rfl rfl rfl) (pa_cons (pv 4) pa_nil))))) (pw_or1 (pt_cmpR ou_lt (pv 4) pe_int (nomark _)))))))) (pss_one (ps_rz rfl (takes_of rfl rfl rfl rfl) PySem.F.excBase_ValueError T.x_NoMany.1 T.x_NoMany.2.1 T.x_NoMany.2.2.1 (raises_own T.x_NoMany.2.2.2.1 T.x_NoMany.2.2.2.2))) pss_nil)
      (pss_cons (ps_if (pt_tr (pv 5)) (pss_one (ps_asg (pe_revL (pv 6)) (pg_name (i := 6) sc_Store_stretch.nd rfl (Or.inl rfl)))) pss_nil)
      (pss_cons (ps_if (pt_cmpR ov_isn (pv 4) pe_non (nomark _)) (pss_one (ps_asg (pe_refm (pe_slice sv_sl (pv 6) po_none (po_some (pv 4)))) (pg_name (i := 6) sc_Store_stretch.nd rfl (Or.inl rfl)))) pss_nil)
      (pss_one (ps_ret (pv 6))))))), ?_⟩)
  try dsimp only [L2.cxOf, List.map]
  exact fn_sat (m := hb_Store_stretch) inferInstance (by decide) rfl h
theorem mk_stretch_1 (T : Txt K mg) : MethK P w K mg base (L2.CX P w) 5 "stretch" 1 [] lay_stretch_1 [("Store", 7, hm_Store_stretch)] := by
  refine ⟨fun c n m h => ?_⟩
  simp only [List.mem_cons, List.not_mem_nil, or_false, Prod.mk.injEq] at h
  obtain ⟨rfl, rfl, rfl⟩ := h
  · obtain ⟨fd, F⟩ := T.d_Store_stretch
    obtain ⟨iv, mv, B⟩ := F.kbinds (ps := ["self", "low", "high", "at", "most", "back"]) 1 [] [("at", .non), ("most", .non), ("back", (.bl false))] (fun us iv mv ws => layG4 [(0, 0), (3, 0), (3, 1), (2, 0), (2, 1), (2, 2)] us iv mv ws) (by intro z; cases z) (by intro z; cases z) (by decide) (fun r1 r2 r3 r4 => vals_layG4 r1 r2 r3 r4 _) (fun T D doc pm an cdv ct us iv mv ws h1 h2 h3 h4 => match us, iv, mv, ws, h1, h2, h3, h4 with | [_], [_, _], [_, _, _], [], _, _, _, _ => ⟨_, rfl, ⟨_, _, _, _, _, _, rfl, rfl, ⟨_, _, _, _, _, _, rfl, rfl, ⟨_, _, _, _, _, _, rfl, rfl, rfl⟩⟩⟩⟩)
    exact ⟨T.c_Store, _, fd, ["self", "low", "high", "at", "most", "back"], _, T.m_Store_stretch, B, (hf_Store_stretch T F).mono (by decide)⟩
/-! ### Store.__len__ -/
theorem sc_Store___len__ : FnScope ["self"] ["self"] (defScope s_Store___len__) := ⟨rfl, rfl, rfl, by decide +kernel, rfl, by decide +kernel, by decide +kernel⟩
theorem hf_Store___len__ (T : Txt K mg) {f : Addr} {fd : FuncData} (F : FunD K "__len__" "Store.__len__" (defArgs s_Store___len__) (defBody s_Store___len__) (defScope s_Store___len__) [] [] f fd) : FnOk P w K mg base (L2.CX P w) 4 f fd ["self"] (spV (false :: l_Store___len__) 2 hm_Store___len__ K) := by
  haveI i_PLANS : KDat K (He.ga K "PLANS") (.tuple [(.str "fullest"), (.str "eldest")]) := ⟨fun H => rp_dp _ (T.n_PLANS H)⟩
  haveI i_cf : CF K ctab := T.cf
  refine F.ok sc_Store___len__ (fun vs H Q E h => (Nat.add_right_cancel (m := 1) (spV_len h))) (fun cdv A outer s H vs Q E hr h => ⟨_, (pss_one (ps_ret (pe_refm (pe_callB cu_len (by rfl) T.z_len bo_len (pa_cons (pe_cF (ch_pairs_in T) (hr.mono (by decide)) (takes_of rfl rfl rfl rfl) (pa_cons (pe_fldK K (pv 0) rfl) (pa_cons pe_int (pa_cons (pe_k_END T) (pa_cons pe_non pa_nil))))) pa_nil))))), ?_⟩)
  try dsimp only [L2.cxOf, List.map]
  exact fn_sat (m := hb_Store___len__) inferInstance (by decide) rfl h
theorem mt___len__ (T : Txt K mg) : MethOk P w K mg base (L2.CX P w) 4 "__len__" [("Store", 2, hm_Store___len__)] := by
  refine ⟨fun c n m h => ?_⟩
  simp only [List.mem_cons, List.not_mem_nil, or_false, Prod.mk.injEq] at h
  obtain ⟨rfl, rfl, rfl⟩ := h
  · obtain ⟨fd, F⟩ := T.d_Store___len__
    exact ⟨T.c_Store, _, fd, ["self"], T.m_Store___len__, F.bindsN (fun _ _ _ _ _ _ us hl => match us, hl with | [_], _ => rfl), (hf_Store___len__ T F).mono (by decide)⟩
/-! ### Store.steps -/
theorem sc_Store_steps : FnScope ["self", "told", "step"] ["self"] (defScope s_Store_steps) := ⟨rfl, rfl, rfl, by decide +kernel, rfl, by decide +kernel, by decide +kernel⟩
theorem hf_Store_steps (T : Txt K mg) {f : Addr} {fd : FuncData} (F : FunD K "steps" "Store.steps" (defArgs s_Store_steps) (defBody s_Store_steps) (defScope s_Store_steps) [] [] f fd) : FnOk P w K mg base (L2.CX P w) 1 f fd ["self"] (spV (false :: l_Store_steps) 2 hm_Store_steps K) := by
  haveI i_PLANS : KDat K (He.ga K "PLANS") (.tuple [(.str "fullest"), (.str "eldest")]) := ⟨fun H => rp_dp _ (T.n_PLANS H)⟩
  haveI i_cf : CF K ctab := T.cf
  refine F.ok sc_Store_steps (fun vs H Q E h => (Nat.add_right_cancel (m := 1) (spV_len h))) (fun cdv A outer s H vs Q E hr h => ⟨_, (pss_cons (ps_own (ps_asg (pe_lst pa_nil) (pg_name (i := 1) sc_Store_steps.nd rfl (Or.inl rfl))))
      (pss_cons (ps_forN (ps_for (passes_of rfl) rfl (pi_list (pe_fldK K (pv 0) rfl)) (pg_name (i := 2) sc_Store_steps.nd rfl (Or.inl rfl)) (pss_end [3] (pss_cons (ps_if (pt_refC (pt_cmpR (ou_eq hr.units) (pe_refm (pe_ix (ix_sd hr.units) (pv 2) pe_int (fun _ _ => rfl))) pe_str (nomark _))) (pss_one (ps_asg (pe_tup (pa_cons pe_str (pa_cons (pe_refm (pe_ix (ix_sd hr.units) (pv 2) pe_int (fun _ _ => rfl))) (pa_cons (pe_callTy (cu_listD rfl) (by rfl) T.z_list bo_list (pa_cons (pe_refm (pe_ix (ix_sd hr.units) (pv 2) pe_int (fun _ _ => rfl))) pa_nil)) (pa_cons (pe_callTy (cu_listD rfl) (by rfl) T.z_list bo_list (pa_cons (pe_refm (pe_ix (ix_sd hr.units) (pv 2) pe_int (fun _ _ => rfl))) pa_nil)) pa_nil))))) (pg_name (i := 2) sc_Store_steps.nd rfl (Or.inl rfl)))) pss_nil)
      (pss_one (ps_expr (pe_bm PySem.F.plainAttrs_list PySem.F.slot_list_append PySem.F.type_list_append mt_append (pv 1) (pa_cons (pv 2) pa_nil))))))))
      (pss_one (ps_retO (ps_ret (pe_move (pv 1))))))), ?_⟩)
  try dsimp only [L2.cxOf, List.map]
  exact fn_sat (m := hb_Store_steps) inferInstance (by decide) rfl h
theorem mt_steps (T : Txt K mg) : MethOk P w K mg base (L2.CX P w) 1 "steps" [("Store", 2, hm_Store_steps)] := by
  refine ⟨fun c n m h => ?_⟩
  simp only [List.mem_cons, List.not_mem_nil, or_false, Prod.mk.injEq] at h
  obtain ⟨rfl, rfl, rfl⟩ := h
  · obtain ⟨fd, F⟩ := T.d_Store_steps
    exact ⟨T.c_Store, _, fd, ["self"], T.m_Store_steps, F.bindsN (fun _ _ _ _ _ _ us hl => match us, hl with | [_], _ => rfl), (hf_Store_steps T F).mono (by decide)⟩
/-! ### _law_stands -/
theorem sc_law_stands : FnScope ["_law_rule", "_law_store"] ["_law_rule"] (defScope s_law_stands) := ⟨rfl, rfl, rfl, by decide +kernel, rfl, by decide +kernel, by decide +kernel⟩
theorem hf_law_stands (T : Txt K mg) {f : Addr} {fd : FuncData} (F : FunD K "_law_stands" "_law_stands" (defArgs s_law_stands) (defBody s_law_stands) (defScope s_law_stands) [] [] f fd) : FnOk P w K mg base (L2.CX P w) 6 f fd ["_law_rule"] (spV (false :: l_law_stands) 2 hm_law_stands K) := by
  haveI i_PLANS : KDat K (He.ga K "PLANS") (.tuple [(.str "fullest"), (.str "eldest")]) := ⟨fun H => rp_dp _ (T.n_PLANS H)⟩
  haveI i_cf : CF K ctab := T.cf
  refine F.ok sc_law_stands (fun vs H Q E h => (Nat.add_right_cancel (m := 1) (spV_len h))) (fun cdv A outer s H vs Q E hr h => ⟨_, (pss_cons (ps_asg (pe_mkK K (cn_Store T) (hr.mono (by decide)) (takes_of rfl rfl rfl rfl) (pa_cons (pv 0) pa_nil)) (pg_name (i := 1) sc_law_stands.nd rfl (Or.inl rfl)))
      (pss_cons (ps_if (PW.pt (pw_or (pt_cmpR (ou_ne hr.units) (pe_fldK K (pv 1) rfl) (pv 0) (nomark _)) (pw_or (pt_cmpR (ou_ne hr.units) (pe_fldK K (pv 1) rfl) pe_int (nomark _)) (pw_or1 (pt_tr (pe_callB cu_isi (by rfl) T.z_isinstance bo_isinstance (pa_cons (pe_fldK K (pv 1) rfl) (pa_cons (pe_bltn (v := .ty "bool") (by rfl) T.z_bool bo_bool rfl) pa_nil)))))))) (pss_one (ps_ret pe_bl)) pss_nil)
      (pss_one (ps_ret (pe_and (pe_refm (pe_cmpR (ou_eq hr.units) (pe_m0K K (pv 1) (mt_marks T) (hr.mono (by decide)) (takes_of rfl rfl rfl rfl)) (pe_lst pa_nil) (nomark _))) (pe_and (pe_refm (pe_cmpR (ou_eq hr.units) (pe_mkw0K K (pv 1) (mk_stretch_1 T) (hr.mono (by decide)) (takes_of rfl rfl rfl rfl) pk_nil) (pe_lst pa_nil) (nomark _))) (pe_and (pe_cmpR (ou_eq hr.units) (pe_lenOK K (pv 1) (mt___len__ T) (hr.mono (by decide)) (takes_of rfl rfl rfl rfl) (by rfl) T.z_len) pe_int (nomark _)) (pe_one (pe_refm (pe_cmpR (ou_eq hr.units) (pe_m0K K (pv 1) (mt_steps T) (hr.mono (by decide)) (takes_of rfl rfl rfl rfl)) (pe_lst pa_nil) (nomark _))))))))))), ?_⟩)
  try dsimp only [L2.cxOf, List.map]
  exact fn_sat (m := hb_law_stands) inferInstance (by decide) rfl h
theorem ch_law_stands (T : Txt K mg) : CallOk P w K mg base (L2.CX P w) 6 "_law_stands" ["_law_rule"] [] (spV (false :: l_law_stands) 2 hm_law_stands K) := by
  obtain ⟨f, fd, hm, F⟩ := T.d_law_stands
  exact ⟨f, fd, [], hm, F.kp, F.bindsN (fun _ _ _ _ _ _ us hl => match us, hl with | [_], _ => rfl), .nil, hf_law_stands T F⟩
/-! ### _law_refused -/
theorem sc_law_refused : FnScope ["_law_rule", "e"] ["_law_rule"] (defScope s_law_refused) := ⟨rfl, rfl, rfl, by decide +kernel, rfl, by decide +kernel, by decide +kernel⟩
theorem hf_law_refused (T : Txt K mg) {f : Addr} {fd : FuncData} (F : FunD K "_law_refused" "_law_refused" (defArgs s_law_refused) (defBody s_law_refused) (defScope s_law_refused) [] [] f fd) : FnOk P w K mg base (L2.CX P w) 6 f fd ["_law_rule"] (spV (false :: l_law_refused) 2 hm_law_refused K) := by
  haveI i_PLANS : KDat K (He.ga K "PLANS") (.tuple [(.str "fullest"), (.str "eldest")]) := ⟨fun H => rp_dp _ (T.n_PLANS H)⟩
  haveI i_ef : EF K etab := T.ef
  haveI i_cf : CF K ctab := T.cf
  refine F.ok sc_law_refused (fun vs H Q E h => (Nat.add_right_cancel (m := 1) (spV_len h))) (fun cdv A outer s H vs Q E hr h => ⟨_, (pss_cons (ps_tryA (i := 1) (takes_of rfl rfl rfl rfl) rfl rfl sc_law_refused.nd rfl rfl (names_own (by rfl) T.x_NoRule.2.1 (by decide)) (fun W pn xe tk => (pss_one (ps_expr (pe_mkK K (cn_Store T) (hr.mono (by decide)) tk (pa_cons (pv 0) pa_nil))))) (fun a oe D pn hC hz hv => (pss_one (ps_ret (pe_isE K (pe_callB (call_isE (a := a) (pn := pn) hC hz hv) (by rfl) T.z_isinstance bo_isinstance (pa_cons (pv 1) (pa_cons (pe_clsO (by rfl) T.x_FallError.2.1 (by decide)) pa_nil))))))))
      (pss_one (ps_ret pe_bl))), ?_⟩)
  try dsimp only [L2.cxOf, List.map]
  exact fn_sat (m := hb_law_refused) inferInstance (by decide) rfl h
theorem ch_law_refused (T : Txt K mg) : CallOk P w K mg base (L2.CX P w) 6 "_law_refused" ["_law_rule"] [] (spV (false :: l_law_refused) 2 hm_law_refused K) := by
  obtain ⟨f, fd, hm, F⟩ := T.d_law_refused
  exact ⟨f, fd, [], hm, F.kp, F.bindsN (fun _ _ _ _ _ _ us hl => match us, hl with | [_], _ => rfl), .nil, hf_law_refused T F⟩
/-! ### law -/
theorem sc_law : FnScope ["_law_script", "_law_k", "_law_state", "_law_rule", "_law_thing", "_law_due"] ["_law_script"] (defScope s_law) := ⟨rfl, rfl, rfl, by decide +kernel, rfl, by decide +kernel, by decide +kernel⟩
theorem f_law (T : Txt K mg) {f : Addr} {fd : FuncData} (F : FunD K "law" "law" (defArgs s_law) (defBody s_law) (defScope s_law) [] [] f fd) : FnOk P w K mg base (L2.CX P w) 7 f fd ["_law_script"] (spV (Ω := Empty) l_law 1 m_law K) := by
  haveI i_PLANS : KDat K (He.ga K "PLANS") (.tuple [(.str "fullest"), (.str "eldest")]) := ⟨fun H => rp_dp _ (T.n_PLANS H)⟩
  haveI i_cf : CF K ctab := T.cf
  refine F.ok sc_law (fun vs H Q E h => (spV_len h : vs.length + 0 = _)) (fun cdv A outer s H vs Q E hr h => ⟨_, (pss_cons (ps_for (passes_of rfl) rfl (pi_range1 (by rfl) T.z_range (pa_cons (pe_callB (cu_max rfl) (by rfl) T.z_max bo_max (pa_cons pe_int (pa_cons (pe_callB (cu_min rfl) (by rfl) T.z_min bo_min (pa_cons pe_int (pa_cons (pe_callB cu_len (by rfl) T.z_len bo_len (pa_cons (pv 0) pa_nil)) pa_nil))) pa_nil))) pa_nil)) (pg_name (i := 1) sc_law.nd rfl (Or.inl rfl)) (pss_end [2, 3, 4, 5] (pss_cons (ps_own (ps_asg (pe_lst (pa_cons (pe_op ou_add (pe_pure (pe_cF (c_law_cell_at T) (hr.mono (by decide)) (takes_of rfl rfl rfl rfl) (pa_cons (pv 0) (pa_cons (pv 1) pa_nil)))) (pe_op ou_mul pe_int (pv 1))) pa_nil)) (pg_name (i := 2) sc_law.nd rfl (Or.inl rfl))))
      (pss_cons (ps_asg (pe_low [true, true, false, true, true, true] (pe_cF (c_law_good T) (hr.mono (by decide)) (takes_of rfl rfl rfl rfl) (pa_cons (pv 2) pa_nil))) (pg_name (i := 3) sc_law.nd rfl (Or.inl rfl)))
      (pss_one (ps_for (passes_of rfl) rfl (pi_list (pe_lst (pa_cons (pv 3) (pa_cons (pe_low [true, true, false, true, true, true] (pe_cF (c_law_spoilt T) (hr.mono (by decide)) (takes_of rfl rfl rfl rfl) (pa_cons (pv 2) (pa_cons (pv 3) pa_nil)))) pa_nil)))) (pg_name (i := 4) sc_law.nd rfl (Or.inl rfl)) (pss_end [5, 6] (pss_cons (ps_asg (pe_pure (pe_cF (c_law_is_rule T) (hr.mono (by decide)) (takes_of rfl rfl rfl rfl) (pa_cons (pv 4) pa_nil))) (pg_name (i := 5) sc_law.nd rfl (Or.inl rfl)))
      (pss_cons (ps_if (pt_not (pt_tr (pe_pure (pe_cF (c_law_truth T) (hr.mono (by decide)) (takes_of rfl rfl rfl rfl) (pa_cons (pe_pure (pe_cF (c_is_rule T) (hr.mono (by decide)) (takes_of rfl rfl rfl rfl) (pa_cons (pv 4) pa_nil))) (pa_cons (pv 5) pa_nil)))))) (pss_one (ps_ret pe_bl)) pss_nil)
      (pss_one (ps_if (PW.pt (pw_or (PW.pt (pw_and (pt_tr (pv 5)) (pw_and1 (pt_not (pt_tr (pe_cF (ch_law_stands T) (hr.mono (by decide)) (takes_of rfl rfl rfl rfl) (pa_cons (pv 4) pa_nil))))))) (pw_or1 (PW.pt (pw_and (pt_not (pt_tr (pv 5))) (pw_and1 (pt_not (pt_tr (pe_cF (ch_law_refused T) (hr.mono (by decide)) (takes_of rfl rfl rfl rfl) (pa_cons (pv 4) pa_nil)))))))))) (pss_one (ps_ret pe_bl)) pss_nil)))))))))))
      (pss_one (ps_ret pe_bl))), ?_⟩)
  try dsimp only [L2.cxOf, List.map]
  exact fnH_sat (m := b_law) inferInstance (by decide) rfl h
end
def dd_is_whole : He.DefD := ⟨("is_whole", none), "is_whole", "is_whole", defArgs s_is_whole, defBody s_is_whole, defScope s_is_whole, [], []⟩
def dd_is_rule : He.DefD := ⟨("is_rule", none), "is_rule", "is_rule", defArgs s_is_rule, defBody s_is_rule, defScope s_is_rule, [], []⟩
def dd_law_cell_at : He.DefD := ⟨("_law_cell_at", none), "_law_cell_at", "_law_cell_at", defArgs s_law_cell_at, defBody s_law_cell_at, defScope s_law_cell_at, [], []⟩
def dd_law_digit : He.DefD := ⟨("_law_digit", none), "_law_digit", "_law_digit", defArgs s_law_digit, defBody s_law_digit, defScope s_law_digit, [], []⟩
def dd_law_good : He.DefD := ⟨("_law_good", none), "_law_good", "_law_good", defArgs s_law_good, defBody s_law_good, defScope s_law_good, [], []⟩
def dd_law_truth : He.DefD := ⟨("_law_truth", none), "_law_truth", "_law_truth", defArgs s_law_truth, defBody s_law_truth, defScope s_law_truth, [], []⟩
def dd_law_between : He.DefD := ⟨("_law_between", none), "_law_between", "_law_between", defArgs s_law_between, defBody s_law_between, defScope s_law_between, [], []⟩
def dd_law_is_rule : He.DefD := ⟨("_law_is_rule", none), "_law_is_rule", "_law_is_rule", defArgs s_law_is_rule, defBody s_law_is_rule, defScope s_law_is_rule, [], []⟩
def dd_law_spoilt : He.DefD := ⟨("_law_spoilt", none), "_law_spoilt", "_law_spoilt", defArgs s_law_spoilt, defBody s_law_spoilt, defScope s_law_spoilt, [], []⟩
def dd_is_number : He.DefD := ⟨("is_number", none), "is_number", "is_number", defArgs s_is_number, defBody s_is_number, defScope s_is_number, [], []⟩
def dd_is_key : He.DefD := ⟨("is_key", none), "is_key", "is_key", defArgs s_is_key, defBody s_is_key, defScope s_is_key, [], []⟩
def dd_is_stretch : He.DefD := ⟨("is_stretch", none), "is_stretch", "is_stretch", defArgs s_is_stretch, defBody s_is_stretch, defScope s_is_stretch, [], []⟩
def dd_value_of : He.DefD := ⟨("value_of", none), "value_of", "value_of", defArgs s_value_of, defBody s_value_of, defScope s_value_of, [], [("at", .non)]⟩
def dd_values_in : He.DefD := ⟨("values_in", none), "values_in", "values_in", defArgs s_values_in, defBody s_values_in, defScope s_values_in, [], []⟩
def dd_pairs_in : He.DefD := ⟨("pairs_in", none), "pairs_in", "pairs_in", defArgs s_pairs_in, defBody s_pairs_in, defScope s_pairs_in, [], []⟩
def dd_law_stands : He.DefD := ⟨("_law_stands", none), "_law_stands", "_law_stands", defArgs s_law_stands, defBody s_law_stands, defScope s_law_stands, [], []⟩
def dd_law_refused : He.DefD := ⟨("_law_refused", none), "_law_refused", "_law_refused", defArgs s_law_refused, defBody s_law_refused, defScope s_law_refused, [], []⟩
def dd_law : He.DefD := ⟨("law", none), "law", "law", defArgs s_law, defBody s_law, defScope s_law, [], []⟩
def dd_Leaf___init__ : He.DefD := ⟨("Leaf", some "__init__"), "__init__", "Leaf.__init__", defArgs s_Leaf___init__, defBody s_Leaf___init__, defScope s_Leaf___init__, [], []⟩
def dd_Leaf_is_leaf : He.DefD := ⟨("Leaf", some "is_leaf"), "is_leaf", "Room.is_leaf", defArgs s_Room_is_leaf, defBody s_Room_is_leaf, defScope s_Room_is_leaf, [], []⟩
def dd_Room___init__ : He.DefD := ⟨("Room", some "__init__"), "__init__", "Room.__init__", defArgs s_Room___init__, defBody s_Room___init__, defScope s_Room___init__, [], []⟩
def dd_Room_is_leaf : He.DefD := ⟨("Room", some "is_leaf"), "is_leaf", "Room.is_leaf", defArgs s_Room_is_leaf, defBody s_Room_is_leaf, defScope s_Room_is_leaf, [], []⟩
def dd_Store___init__ : He.DefD := ⟨("Store", some "__init__"), "__init__", "Store.__init__", defArgs s_Store___init__, defBody s_Store___init__, defScope s_Store___init__, [], []⟩
def dd_Store___len__ : He.DefD := ⟨("Store", some "__len__"), "__len__", "Store.__len__", defArgs s_Store___len__, defBody s_Store___len__, defScope s_Store___len__, [], []⟩
def dd_Store_look : He.DefD := ⟨("Store", some "look"), "look", "Store.look", defArgs s_Store_look, defBody s_Store_look, defScope s_Store_look, [], []⟩
def dd_Store_marks : He.DefD := ⟨("Store", some "marks"), "marks", "Store.marks", defArgs s_Store_marks, defBody s_Store_marks, defScope s_Store_marks, [], []⟩
def dd_Store_pairs : He.DefD := ⟨("Store", some "pairs"), "pairs", "Store.pairs", defArgs s_Store_pairs, defBody s_Store_pairs, defScope s_Store_pairs, [], []⟩
def dd_Store_steps : He.DefD := ⟨("Store", some "steps"), "steps", "Store.steps", defArgs s_Store_steps, defBody s_Store_steps, defScope s_Store_steps, [], []⟩
def dd_Store_stretch : He.DefD := ⟨("Store", some "stretch"), "stretch", "Store.stretch", defArgs s_Store_stretch, defBody s_Store_stretch, defScope s_Store_stretch, [.int 0, .int 1000000000000], [("at", .non), ("most", .non), ("back", .bl false)]⟩
def fn : List He.DefD := [dd_is_whole, dd_is_rule, dd_law_cell_at, dd_law_digit, dd_law_good, dd_law_truth, dd_law_between, dd_law_is_rule, dd_law_spoilt, dd_is_number, dd_is_key, dd_is_stretch, dd_value_of, dd_values_in, dd_pairs_in, dd_law_stands, dd_law_refused, dd_law, dd_Leaf___init__, dd_Leaf_is_leaf, dd_Room___init__, dd_Room_is_leaf, dd_Store___init__, dd_Store___len__, dd_Store_look, dd_Store_marks, dd_Store_pairs, dd_Store_steps, dd_Store_stretch]
def fa : List He.Fa := [.glo "is_whole", .glo "is_rule", .glo "_law_cell_at", .glo "_law_digit", .glo "_law_good", .glo "_law_truth", .glo "_law_between", .glo "_law_is_rule", .glo "_law_spoilt", .glo "is_number", .glo "is_key", .glo "is_stretch", .glo "value_of", .glo "values_in", .glo "pairs_in", .glo "_law_stands", .glo "_law_refused", .glo "law", .free "bool", .free "int", .free "isinstance", .free "len", .free "list", .free "max", .free "min", .free "range", .free "sorted", .free "str", .free "tuple", .int "END" 1000000000000, .glo "PLANS", .glo "FallError", .glo "NoMany", .glo "NoMark", .glo "NoRule", .glo "NoStretch", .glo "Leaf", .glo "Room", .glo "Store", .cls "Leaf", .cls "Room", .cls "Store", .mkr "Leaf", .mkr "Store", .meth "Leaf" "is_leaf", .meth "Room" "is_leaf", .meth "Store" "__len__", .meth "Store" "look", .meth "Store" "marks", .meth "Store" "pairs", .meth "Store" "steps", .meth "Store" "stretch"]
abbrev RR : PySem.W.OpenRow := PySem.W.OpenLaw.row PySem.Challenge.rw_notefall_k02_rules
def exc (K : PySem.W.Frag) : Bool := glD K "PLANS" (.tuple [(.str "fullest"), (.str "eldest")]) && excB K "FallError" && excB K "NoMany" && excB K "NoMark" && excB K "NoRule" && excB K "NoStretch" && tabB K etab && cfB K ctab && unbB K "Room" "__init__"
abbrev hk : PySem.W.Hook := hookY 7 fa fn exc
def ob (s : PySem.W.SharedT) : He.AlX := obsY 7 fa fn exc (HandSHeadRun.getT s)
theorem ob_eq (s : PySem.W.SharedT) : ob s = hk.obs s.abs := obsY_eq (HandSHeadRun.getT_eq s)
def loose : List Str := (["_wall", "END", "PLANS", "is_whole", "is_number", "is_key", "is_stretch", "is_rule", "FallError", "NoAction", "NoKey", "NoStretch", "NoRule", "NoMark", "NoMany", "is_half", "is_action", "sure_action", "done_to", "acts", "holds", "value_of", "seen", "Room", "Leaf", "versions_in", "value_in", "do_note", "values_in", "pairs_in"] : List Str) ++ (["Store", "_law_cell_at", "_law_digit", "_law_good", "_law_truth", "_law_between", "_law_is_rule", "_law_spoilt", "_law_stands", "_law_refused"] : List Str)
theorem run (w : World) : HandSHeadRun.RunEq RR (PySem.W.view RR.prog [50]) hk ob 30000 loose w := by
  intro os
  kernel_rfl
theorem facts {P : Program} {w : World} {K : PySem.W.Frag} {h : Heap} {mg : Str → Option Value} {f : Addr} (X : K.In h) (G : h.Ns mainGlobals mg) (hfa : mg ("law" : Str) = some (.ref f)) (c0 : He.SaysX fa fn [] [] exc w h K) :
    ∃ fd : FuncData, (∀ (s : Shared) (v : Value), BindsTo s fd ⟨[v], []⟩ [("_law_script", v)]) ∧ ∀ base : Heap, K.In base → base.Ns mainGlobals mg → FnOk P w K mg base CX0 7 f fd ["_law_script"] (spLaw K) := by
  have c : He.SaysD fa fn K := c0.t.d
  have cx : exc K = true := c0.more
  unfold exc at cx
  try simp only [Bool.and_eq_true] at cx
  have T : Txt K mg := {
    z_bool := He.free_ok X G (c.fact 18 (f := .free "bool") rfl),
    z_int := He.free_ok X G (c.fact 19 (f := .free "int") rfl),
    z_isinstance := He.free_ok X G (c.fact 20 (f := .free "isinstance") rfl),
    z_len := He.free_ok X G (c.fact 21 (f := .free "len") rfl),
    z_list := He.free_ok X G (c.fact 22 (f := .free "list") rfl),
    z_max := He.free_ok X G (c.fact 23 (f := .free "max") rfl),
    z_min := He.free_ok X G (c.fact 24 (f := .free "min") rfl),
    z_range := He.free_ok X G (c.fact 25 (f := .free "range") rfl),
    z_sorted := He.free_ok X G (c.fact 26 (f := .free "sorted") rfl),
    z_str := He.free_ok X G (c.fact 27 (f := .free "str") rfl),
    z_tuple := He.free_ok X G (c.fact 28 (f := .free "tuple") rfl),
    k_END := He.int_ok X G (c.fact 29 (f := .int "END" 1000000000000) rfl),
    k_PLANS := He.glo_ok X G (c.fact 30 (f := .glo "PLANS") rfl),
    n_PLANS := fun H => glD_ok cx.1.1.1.1.1.1.1.1 H,
    x_FallError := excB_ok cx.1.1.1.1.1.1.1.2 (He.glo_ok X G (c.fact 31 (f := .glo "FallError") rfl)),
    x_NoMany := excB_ok cx.1.1.1.1.1.1.2 (He.glo_ok X G (c.fact 32 (f := .glo "NoMany") rfl)),
    x_NoMark := excB_ok cx.1.1.1.1.1.2 (He.glo_ok X G (c.fact 33 (f := .glo "NoMark") rfl)),
    x_NoRule := excB_ok cx.1.1.1.1.2 (He.glo_ok X G (c.fact 34 (f := .glo "NoRule") rfl)),
    x_NoStretch := excB_ok cx.1.1.1.2 (He.glo_ok X G (c.fact 35 (f := .glo "NoStretch") rfl)),
    ef := tab_ok cx.1.1.2,
    cf := cf_ok cx.1.2,
    u_Room___init__ := unb_ok cx.2,
    g_Leaf := He.glo_ok X G (c.fact 36 (f := .glo "Leaf") rfl),
    g_Room := He.glo_ok X G (c.fact 37 (f := .glo "Room") rfl),
    g_Store := He.glo_ok X G (c.fact 38 (f := .glo "Store") rfl),
    c_Leaf := He.cls_ok (c.fact 39 (f := .cls "Leaf") rfl),
    c_Room := He.cls_ok (c.fact 40 (f := .cls "Room") rfl),
    c_Store := He.cls_ok (c.fact 41 (f := .cls "Store") rfl),
    n_Leaf := He.mkr_ok (c.fact 42 (f := .mkr "Leaf") rfl),
    n_Store := He.mkr_ok (c.fact 43 (f := .mkr "Store") rfl),
    m_Leaf_is_leaf := He.meth_ok (c.fact 44 (f := .meth "Leaf" "is_leaf") rfl),
    m_Room_is_leaf := He.meth_ok (c.fact 45 (f := .meth "Room" "is_leaf") rfl),
    m_Store___len__ := He.meth_ok (c.fact 46 (f := .meth "Store" "__len__") rfl),
    m_Store_look := He.meth_ok (c.fact 47 (f := .meth "Store" "look") rfl),
    m_Store_marks := He.meth_ok (c.fact 48 (f := .meth "Store" "marks") rfl),
    m_Store_pairs := He.meth_ok (c.fact 49 (f := .meth "Store" "pairs") rfl),
    m_Store_steps := He.meth_ok (c.fact 50 (f := .meth "Store" "steps") rfl),
    m_Store_stretch := He.meth_ok (c.fact 51 (f := .meth "Store" "stretch") rfl),
    d_is_whole := (c.def_ 0 (d := dd_is_whole) rfl).elim fun fd F => ⟨_, fd, He.glo_ok X G (c.fact 0 (f := .glo "is_whole") rfl), F⟩,
    d_is_rule := (c.def_ 1 (d := dd_is_rule) rfl).elim fun fd F => ⟨_, fd, He.glo_ok X G (c.fact 1 (f := .glo "is_rule") rfl), F⟩,
    d_law_cell_at := (c.def_ 2 (d := dd_law_cell_at) rfl).elim fun fd F => ⟨_, fd, He.glo_ok X G (c.fact 2 (f := .glo "_law_cell_at") rfl), F⟩,
    d_law_digit := (c.def_ 3 (d := dd_law_digit) rfl).elim fun fd F => ⟨_, fd, He.glo_ok X G (c.fact 3 (f := .glo "_law_digit") rfl), F⟩,
    d_law_good := (c.def_ 4 (d := dd_law_good) rfl).elim fun fd F => ⟨_, fd, He.glo_ok X G (c.fact 4 (f := .glo "_law_good") rfl), F⟩,
    d_law_truth := (c.def_ 5 (d := dd_law_truth) rfl).elim fun fd F => ⟨_, fd, He.glo_ok X G (c.fact 5 (f := .glo "_law_truth") rfl), F⟩,
    d_law_between := (c.def_ 6 (d := dd_law_between) rfl).elim fun fd F => ⟨_, fd, He.glo_ok X G (c.fact 6 (f := .glo "_law_between") rfl), F⟩,
    d_law_is_rule := (c.def_ 7 (d := dd_law_is_rule) rfl).elim fun fd F => ⟨_, fd, He.glo_ok X G (c.fact 7 (f := .glo "_law_is_rule") rfl), F⟩,
    d_law_spoilt := (c.def_ 8 (d := dd_law_spoilt) rfl).elim fun fd F => ⟨_, fd, He.glo_ok X G (c.fact 8 (f := .glo "_law_spoilt") rfl), F⟩,
    d_is_number := (c.def_ 9 (d := dd_is_number) rfl).elim fun fd F => ⟨_, fd, He.glo_ok X G (c.fact 9 (f := .glo "is_number") rfl), F⟩,
    d_is_key := (c.def_ 10 (d := dd_is_key) rfl).elim fun fd F => ⟨_, fd, He.glo_ok X G (c.fact 10 (f := .glo "is_key") rfl), F⟩,
    d_is_stretch := (c.def_ 11 (d := dd_is_stretch) rfl).elim fun fd F => ⟨_, fd, He.glo_ok X G (c.fact 11 (f := .glo "is_stretch") rfl), F⟩,
    d_value_of := (c.def_ 12 (d := dd_value_of) rfl).elim fun fd F => ⟨_, fd, He.glo_ok X G (c.fact 12 (f := .glo "value_of") rfl), F⟩,
    d_values_in := (c.def_ 13 (d := dd_values_in) rfl).elim fun fd F => ⟨_, fd, He.glo_ok X G (c.fact 13 (f := .glo "values_in") rfl), F⟩,
    d_pairs_in := (c.def_ 14 (d := dd_pairs_in) rfl).elim fun fd F => ⟨_, fd, He.glo_ok X G (c.fact 14 (f := .glo "pairs_in") rfl), F⟩,
    d_law_stands := (c.def_ 15 (d := dd_law_stands) rfl).elim fun fd F => ⟨_, fd, He.glo_ok X G (c.fact 15 (f := .glo "_law_stands") rfl), F⟩,
    d_law_refused := (c.def_ 16 (d := dd_law_refused) rfl).elim fun fd F => ⟨_, fd, He.glo_ok X G (c.fact 16 (f := .glo "_law_refused") rfl), F⟩,
    d_law := (c.def_ 17 (d := dd_law) rfl).elim fun fd F => ⟨_, fd, He.glo_ok X G (c.fact 17 (f := .glo "law") rfl), F⟩,
    d_Leaf___init__ := c.def_ 18 (d := dd_Leaf___init__) rfl,
    d_Leaf_is_leaf := c.def_ 19 (d := dd_Leaf_is_leaf) rfl,
    d_Room___init__ := c.def_ 20 (d := dd_Room___init__) rfl,
    d_Room_is_leaf := c.def_ 21 (d := dd_Room_is_leaf) rfl,
    d_Store___init__ := c.def_ 22 (d := dd_Store___init__) rfl,
    d_Store___len__ := c.def_ 23 (d := dd_Store___len__) rfl,
    d_Store_look := c.def_ 24 (d := dd_Store_look) rfl,
    d_Store_marks := c.def_ 25 (d := dd_Store_marks) rfl,
    d_Store_pairs := c.def_ 26 (d := dd_Store_pairs) rfl,
    d_Store_steps := c.def_ 27 (d := dd_Store_steps) rfl,
    d_Store_stretch := c.def_ 28 (d := dd_Store_stretch) rfl }
  obtain ⟨fd, F⟩ := c.def_ 17 (d := dd_law) rfl
  have e := hfa.symm.trans (He.glo_ok X G (c.fact 17 (f := .glo "law") rfl))
  cases e
  have b := FunD.bindsA (ps := ["_law_script"]) F fun _ _ _ _ _ _ us hl => match us, hl with | [_], _ => rfl
  exact ⟨fd, fun s v => b s [v] rfl, fun base _ _ => law_ok (f_law T F) law_true⟩
end My
open PySem PySem.W PySem.Calls PyProof.Rows
set_option maxHeartbeats 0 in
theorem PySem.Challenge.cw_notefall_k02_rules_holds : PySem.Challenge.rw_notefall_k02_rules.Holds := by
  w_on; o_law
  refine HandSHeadRun.head_any (r := OpenLaw.row PySem.Challenge.rw_notefall_k02_rules) (q := view (OpenLaw.row PySem.Challenge.rw_notefall_k02_rules).prog [50]) (H := My.hk) (ob := My.ob) (M := 30000) (loose := My.loose) (d := HandSHeadRun.topDef (OpenLaw.row PySem.Challenge.rw_notefall_k02_rules).prog 50) (kwd := []) My.ob_eq
    (by kernel_rfl) (fun s => by kernel_rfl) My.run (by kernel_rfl) (by kernel_rfl) (by kernel_rfl) (by rfl) (by first | assumption | decide +kernel) (by decide +kernel) ⟨rfl, rfl, rfl, rfl, rfl, by decide +kernel⟩ ?hw ?hc
  case hw => w_witness2
  case hc =>
    refine L2.walk_ofE (l := PySem.Challenge.rw_notefall_k02_rules) (n := 63) (k := 7) (x := "_law_script") (CX := L2.CX0) rfl (by decide) (by kernel_rfl) ⟨rfl, by decide, by decide⟩ ?F (fun _ _ _ _ z => z)
    intro w mg fa h Y G hmg0
    obtain ⟨K, KX, c⟩ := Y
    have hmg : mg ("law" : PySem.Str) = some (.ref fa) := by
      have e : (HandSHeadRun.topDef (OpenLaw.row PySem.Challenge.rw_notefall_k02_rules).prog 50).name = ("law" : PySem.Str) := by kernel_rfl
      rw [← e]
      exact hmg0
    obtain ⟨fd, hb, hF⟩ := My.facts (P := (PySem.Challenge.rw_notefall_k02_rules).prog) (w := w) KX G hmg c
    exact ⟨K, fd, Ny.spLaw K, KX, hb, fun H a ns hl _ hS => ⟨a, ns, rfl, hS, hl, fun _ => rfl⟩, hF⟩
#print axioms PySem.Challenge.cw_notefall_k02_rules_holds

