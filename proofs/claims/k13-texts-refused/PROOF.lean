import PyProof.Rows.All
import Wide.All
import OpenK.AllK
import Wide.FinOn
import PySem.Challenge.RW_shifttape_k13_texts_refused
import HandS.ForMost
import HandS.IsInst
import HandS.Wide
import HandS.StrMore
import HandS.RevRange
import HandS.Rev
import HandS.Strs
import HandS.Replace
import HandS.Codes
import HandS.More
import PyProof.Rows.StrLawsPart
import HandS.Exc
import HandS.ExcOwn
import HandS.ExcInit
import HandS.ExcField
import HandS.HotCalls
import HandS.Style
import HandS.ExcIs
import HandS.WordsExc
import KE.KExcIs
import KE.KIsAll
set_option Elab.async false
set_option linter.all false
set_option maxRecDepth 100000
set_option maxHeartbeats 4000000
/-! the layer: rules by syntax alone, heaps as letters -/
namespace Z
open PySem PySem.Spec PyProof.Rows L2

/-! ### heaps -/
theorem same_new {H : Hp} {p : Addr} {o : HO} (h : H p = none) : Same H (upd H p o) := fun b x e => by
  rw [upd_ne (ne_of_none e h)]
  exact e
theorem same_at {H H' : Hp} {p : Addr} {o : HO} (e : Same H H') (h : H p = some o) : H' p = some o := e _ _ h
theorem same_tup {K : PySem.W.Frag} {H H' : Hp} {a : Addr} {xs : List V} (e : Same H H') (h : SqT K H a xs) : SqT K H' a xs := by
  rcases h with (h | ⟨o, h⟩) | h
  · exact .inl (.inl (e _ _ h))
  · exact .inl (.inr ⟨o, e _ _ h⟩)
  · exact .inr h
/-- all but l stays -/
def But (l : Addr) (H H' : Hp) : Prop := ∀ b o, b ≠ l → H b = some o → H' b = some o
theorem but_upd {l : Addr} {H : Hp} {o : HO} : But l H (upd H l o) := fun b x hb e => by
  rw [upd_ne hb]
  exact e
theorem But.same {l : Addr} {H0 H H' : Hp} (b : But l H H') (e : Same H0 H) (h : H0 l = none) : Same H0 H' := fun c o q => b c o (ne_of_none q h) (e c o q)
theorem But.at {l p : Addr} {H H' : Hp} {o : HO} (b : But l H H') (e : H p = some o) (h : p ≠ l) : H' p = some o := b p o h e
theorem same_ne {H H' : Hp} {p q : Addr} {o : HO} (e : Same H H') (h : H p = some o) (n : H' q = none) : p ≠ q := ne_of_none (e _ _ h) n

/-! ### deep data under growth -/
mutual
theorem same_dp {K : PySem.W.Frag} {H H' : Hp} (e : Same H H') : ∀ (d : PyData) (v : V), Dp K H v d → Dp K H' v d
  | .none, _, h => by cases h; exact .non
  | .bool b, _, h => by cases h; exact .bl b
  | .int i, _, h => by cases h; exact .int i
  | .str s, _, h => by cases h; exact .str s
  | .list ds, _, h => by
    cases h with
    | lst hl ha => exact .lst (Same.seq e hl) (same_dpAll e ds _ ha)
  | .tuple ds, _, h => by
    cases h with
    | tup hl ha => exact .tup (same_tup e hl) (same_dpAll e ds _ ha)
  | .dict _, _, h => by cases h
theorem same_dpAll {K : PySem.W.Frag} {H H' : Hp} (e : Same H H') : ∀ (ds : List PyData) (vs : List V), DpAll K H vs ds → DpAll K H' vs ds
  | [], _, h => by cases h; exact .nil
  | d :: ds, _, h => by
    cases h with
    | cons h1 h2 => exact .cons (same_dp e d _ h1) (same_dpAll e ds _ h2)
end

/-! ### a list of which only a part is told -/
def lstAt (h : Heap) (a : Addr) (xs : List V) : Prop := xs.length ≤ sizeLine ∧ ∃ (its : List Value) (n : Nat), Vals xs its ∧ h.get? a = some { cls := .type "list", data := .seq its.toArray n }
def hidL (Pd : List V → Prop) (a : Addr) : HO := .ext fun h => ∃ xs, Pd xs ∧ lstAt h a xs
section
variable {X : Cx} {pins : List (Addr × Obj)} {σ : L2.St} {H : Hp} {s : Shared} {a : Addr} {xs : List V} {Pd : List V → Prop}
theorem inv_hide (I : Inv X pins σ H s) (h : H a = some (.lst xs)) (p : Pd xs) : Inv X pins σ (upd H a (hidL Pd a)) s := by
  have x : ObjOk X.prog X.w H s.heap a (.lst xs) := I.hok a _ h
  obtain ⟨z, its, n, r, e⟩ := x
  exact I.write (x := a) (e := a) (t' := s.toks) (h' := s.heap) (by rw [h]; exact True.intro) (.inl rfl) (fun b v _ q => q) ⟨_, e⟩
    ⟨⟨xs, p, z, its, n, r, e⟩, ⟨_, e⟩, fun h1 h2 ⟨ys, q, z, its, n, r, e⟩ k => ⟨ys, q, z, its, n, r, k _ e⟩⟩
theorem inv_show (I : Inv X pins σ H s) (h : H a = some (hidL Pd a)) : ∃ xs, Pd xs ∧ Inv X pins σ (upd H a (.lst xs)) s := by
  obtain ⟨⟨xs, p, z, its, n, r, e⟩, _, _⟩ := (show ObjOk X.prog X.w H s.heap a (hidL Pd a) from I.hok a _ h)
  exact ⟨xs, p, I.write (x := a) (e := a) (t' := s.toks) (h' := s.heap) (by rw [h]; exact True.intro) (.inl rfl) (fun b v _ q => q) ⟨_, e⟩ ⟨z, its, n, r, e⟩⟩
end
def tShow (t : TS) : TS := fun D σ H => ∃ a Pd, H a = some (hidL Pd a) ∧ ∀ xs H', Pd xs → But a H H' → H' a = some (.lst xs) → (∀ b, H' b = none ↔ H b = none) → t D σ H'
theorem none_iff {H : Hp} {a : Addr} {o u : HO} (h : H a = some o) (b : Addr) : upd H a u b = none ↔ H b = none := by
  by_cases e : b = a
  · rw [e, upd_same, h]
    exact ⟨(fun z => nomatch z), (fun z => nomatch z)⟩
  · rw [upd_ne e]
theorem pss_show {X : Cx} {sts : List Stmt} {t : TS} (h : PSs X sts t) : PSs X sts (tShow t) := ⟨fun pins s σ H D I ⟨a, Pd, e, q⟩ => by
  obtain ⟨xs, p, I'⟩ := inv_show I e
  exact h.run pins s σ _ D I' (q xs _ p but_upd upd_same (none_iff e))⟩
def tHide (t : TE) : TE := fun σ H Q => t σ H fun v H1 => ∃ a xs Pd, H1 a = some (.lst xs) ∧ Pd xs ∧ ∀ H', But a H1 H' → H' a = some (hidL Pd a) → Q v H'
theorem pe_hide {X : Cx} {e : Expr} {t : TE} (h : PE X e t) : PE X e (tHide t) := ⟨fun pins s σ H Q I q =>
  thn (h.run pins s σ H _ I q) fun u s1 ⟨v, H1, I1, r, a, xs, Pd, e, p, q⟩ => ⟨v, _, inv_hide I1 e p, r, q _ but_upd upd_same⟩⟩

/-! ### new objects -/
abbrev NewL (H : Hp) (xs : List V) (Q : VK) : Prop := ∀ p H', H p = none → Same H H' → H' p = some (.lst xs) → Q (.ref p) H'
abbrev NewT (H : Hp) (xs : List V) (Q : VK) : Prop := ∀ p H', H p = none → Same H H' → H' p = some (.tup xs) → Q (.ref p) H'
theorem newL {H : Hp} {xs : List V} {Q : VK} (q : NewL H xs Q) : ∀ p, H p = none → Q (.ref p) (upd H p (.lst xs)) := fun p n => q p _ n (same_new n) upd_same
theorem newT {H : Hp} {xs : List V} {Q : VK} (q : NewT H xs Q) : ∀ p, H p = none → Q (.ref p) (upd H p (.tup xs)) := fun p n => q p _ n (same_new n) upd_same

/-! ### weaker readings -/
theorem opr_imp {X : Cx} {f : Value → Value → Sem Value} {r r' : R2} (h : OpR X f r) (k : ∀ x y H Q, r' x y H Q → r x y H Q) : OpR X f r' :=
  fun pins s σ H x y v u Q I rx ry q => h pins s σ H x y v u Q I rx ry (k x y H Q q)
theorem callr_imp {X : Cx} {f : Value} {r r' : List V → Hp → VK → Prop} (h : CallR X f r) (k : ∀ xs H Q, r' xs H Q → r xs H Q) : CallR X f r' :=
  fun pins s σ H xs us Q I rx q => h pins s σ H xs us Q I rx (k xs H Q q)
theorem mtr_imp {X : Cx} {id : String} {r r' : V → List V → Hp → VK → Prop} (h : MtR X id r) (k : ∀ x xs H Q, r' x xs H Q → r x xs H Q) : MtR X id r' :=
  fun pins s σ H x xs v us Q I rx rs q => h pins s σ H x xs v us Q I rx rs (k x xs H Q q)
theorem slr_imp {X : Cx} {r r' : V → Option Int → Option Int → Hp → VK → Prop} (h : SlR X r) (k : ∀ x l u H Q, r' x l u H Q → r x l u H Q) : SlR X r' :=
  fun pins s σ H x v vl vu lo hi sl Q I rx a b c q => h pins s σ H x v vl vu lo hi sl Q I rx a b c (k x lo hi H Q q)
theorem pe_imp {X : Cx} {e : Expr} {t t' : TE} (h : PE X e t) (k : ∀ σ H Q, t' σ H Q → t σ H Q) : PE X e t' := ⟨fun pins s σ H Q I q => h.run pins s σ H Q I (k σ H Q q)⟩

/-! ### operators by values -/
def rAddStr : R2 := fun x y H Q => ∃ i j, x = .str i ∧ y = .str j ∧ i.length + j.length ≤ sizeLine ∧ Q (.str (i ++ j)) H
def rCatL : R2 := fun x y H Q => ∃ l b xs zs, x = .ref l ∧ y = .ref b ∧ H l = some (.lst xs) ∧ H b = some (.lst zs) ∧ xs.length + zs.length ≤ sizeLine ∧ NewL H (xs ++ zs) Q
def rCatU (K : PySem.W.Frag) : R2 := fun x y H Q => ∃ a b xs ys, x = .ref a ∧ y = .ref b ∧ SqT K H a xs ∧ SqT K H b ys ∧ xs ≠ [] ∧ ys ≠ [] ∧ xs.length + ys.length ≤ sizeLine ∧ NewT H (xs ++ ys) Q
def uAdd (K : PySem.W.Frag) : R2 := fun x y H Q => rI0 (fun i j => .int (i + j)) x y H Q ∨ rAddStr x y H Q ∨ rCatL x y H Q ∨ rCatU K x y H Q
def uSub : R2 := rI0 fun i j => .int (i - j)
def uMul : R2 := rI CMul fun i j => .int (i * j)
def uFdiv : R2 := rI CDivW fun i j => .int (i / j)
def uMod : R2 := rI (fun _ j => 0 < j) fun i j => .int (i % j)
def uEq (K : PySem.W.Frag) : R2 := fun x y H Q => rEq x y H Q ∨ rEqD K x y H Q
def uNe (K : PySem.W.Frag) : R2 := fun x y H Q => rNe x y H Q ∨ rNeD K x y H Q
def rLeS : R2 := fun x y H Q => ∃ i j, x = .str i ∧ y = .str j ∧ Q (.bl (!decide (j.cps.toList < i.cps.toList))) H
def uLe : R2 := fun x y H Q => rI0 (fun i j => .bl (decide (i ≤ j))) x y H Q ∨ rLeS x y H Q
def uLt : R2 := rI0 fun i j => .bl (decide (i < j))
def uGt : R2 := rI0 fun i j => .bl (decide (j < i))
def uGe : R2 := rI0 fun i j => .bl (decide (j ≤ i))
def rInSign : R2 := fun x y H Q => ∃ (c : Nat) (z : Str), x = .str ⟨#[c]⟩ ∧ y = .str z ∧ Q (.bl (decide (c ∈ z.cps.toList))) H
def rNiSign : R2 := fun x y H Q => ∃ (c : Nat) (z : Str), x = .str ⟨#[c]⟩ ∧ y = .str z ∧ Q (.bl (!decide (c ∈ z.cps.toList))) H
def uIn (K : PySem.W.Frag) : R2 := fun x y H Q => rInSign x y H Q ∨ rIn K false x y H Q
def uNi (K : PySem.W.Frag) : R2 := fun x y H Q => rNiSign x y H Q ∨ rIn K true x y H Q
def uIsN : R2 := fun x y H Q => y = .non ∧ Q (.bl (decide (x = .non))) H
def uNotN : R2 := fun x y H Q => y = .non ∧ Q (.bl (!decide (x = .non))) H
section
variable {X : Cx}
theorem op_uAdd (K : PySem.W.Frag) (hk : X.K = K := by rfl) : OpR X (binaryOp .Add) (uAdd K) := by
  subst hk
  exact
  op_add.or (op_add_str.or ((opr_imp op_cat fun x y H Q ⟨l, b, xs, zs, h1, h2, h3, h4, h5, q⟩ => ⟨l, b, xs, zs, h1, h2, h3, h4, h5, newL q⟩).or
    (opr_imp op_catT fun x y H Q ⟨a, b, xs, ys, h1, h2, h3, h4, h5, h6, h7, q⟩ => ⟨a, b, xs, ys, h1, h2, h3, h4, h5, h7, fun z => absurd z h6, fun _ => newT q⟩)))
theorem op_uSub : OpR X (binaryOp .Sub) uSub := op_sub
theorem op_uMul : OpR X (binaryOp .Mult) uMul := op_mul
theorem op_uFdiv : OpR X (binaryOp .FloorDiv) uFdiv := op_fdivW
theorem op_uMod : OpR X (binaryOp .Mod) uMod := op_mod
theorem op_uEq (K : PySem.W.Frag) (hu : X.A.units + 64 < cLine) (hk : X.K = K := by rfl) : OpR X (compareOp .Eq) (uEq K) := by
  subst hk
  exact op_eq.or (op_eqD hu)
theorem op_uNe (K : PySem.W.Frag) (hu : X.A.units + 64 < cLine) (hk : X.K = K := by rfl) : OpR X (compareOp .NotEq) (uNe K) := by
  subst hk
  exact op_ne.or (op_neD hu)
theorem op_uLe : OpR X (compareOp .LtE) uLe := op_le.or op_le_str
theorem op_uLt : OpR X (compareOp .Lt) uLt := op_lt
theorem op_uGt : OpR X (compareOp .Gt) uGt := op_gt
theorem op_uGe : OpR X (compareOp .GtE) uGe := op_ge
theorem op_uIn (K : PySem.W.Frag) (hk : X.K = K := by rfl) : OpR X (compareOp .In) (uIn K) := by
  subst hk
  exact op_in_sign.or op_in_seq
theorem op_uNi (K : PySem.W.Frag) (hk : X.K = K := by rfl) : OpR X (compareOp .NotIn) (uNi K) := by
  subst hk
  exact op_notIn_sign.or op_notIn_seq
theorem op_uIsN : OpR X (compareOp .Is) uIsN := op_isN
theorem op_uNotN : OpR X (compareOp .IsNot) uNotN := op_notN
end
/-! ### subscripts, slices -/
def uIx (K : PySem.W.Frag) : R2 := rIx K
theorem ix_u {X : Cx} (K : PySem.W.Frag) (hk : X.K = K := by rfl) : IxR X (uIx K) := by
  subst hk
  exact ix_seq
def rSlLn (K : PySem.W.Frag) : V → Option Int → Option Int → Hp → VK → Prop := fun x lo hi H Q => ∃ a xs, x = .ref a ∧ SqL K H a xs ∧ NewL H (cutV xs lo hi) Q
def uSl (K : PySem.W.Frag) : V → Option Int → Option Int → Hp → VK → Prop := fun x lo hi H Q => rSlS x lo hi H Q ∨ rSlLn K x lo hi H Q
theorem sl_u {X : Cx} (K : PySem.W.Frag) (hk : X.K = K := by rfl) : SlR X (uSl K) := by
  subst hk
  exact sl_str.or (slr_imp sl_list fun x lo hi H Q ⟨a, xs, h1, h2, q⟩ => ⟨a, xs, h1, h2, newL q⟩)

/-! ### displays -/
def tLstN (t : TA) : TE := fun σ H Q => t σ H fun xs H1 => xs.length ≤ sizeLine ∧ NewL H1 xs Q
def tTupN (t : TA) : TE := fun σ H Q => t σ H fun xs H1 => xs.length ≤ sizeLine ∧ NewT H1 xs Q
section
variable {X : Cx} {es : List Expr} {t : TA} {pos : Pos}
theorem pe_lstN (h : PA X es t) : PE X (.List es pos) (tLstN t) := by
  refine ⟨fun pins s σ H Q I hq => ?_⟩
  refine wpAny_List_spliced (thn (h.run pos pins s σ H _ I hq) fun us s1 ⟨xs, H1, I1, r, z, q⟩ => ⟨by rw [← r.length]; exact z, ?_⟩)
  have hf : H1 s1.heap.objs.size = none := I1.hok.fresh (Nat.le_refl _)
  refine ⟨.ref s1.heap.objs.size, upd H1 s1.heap.objs.size (.lst xs), I1.laid (t' := s1.toks) (fun b u e => Heap.get?_push_of_some _ e) (Nat.le_refl _) ?_, rfl, q _ _ hf (same_new hf) upd_same⟩
  exact ⟨z, us, 0, r, Heap.get?_push_size _ rfl⟩
theorem pe_tupN {x1} (h : PA X es t) : PE X (.Tuple es x1 pos) (tTupN t) := by
  refine ⟨fun pins s σ H Q I hq => ?_⟩
  refine wpAny_Tuple_spliced (thn (h.run pos pins s σ H _ I hq) fun us s1 ⟨xs, H1, I1, r, z, q⟩ => ⟨by rw [← r.length]; exact z, ?_⟩)
  have hf : H1 s1.heap.objs.size = none := I1.hok.fresh (Nat.le_refl _)
  refine ⟨.ref s1.heap.objs.size, upd H1 s1.heap.objs.size (.tup xs), I1.laid (t' := s1.toks) (fun b u e => Heap.get?_push_of_some _ e) (Nat.le_refl _) ?_, rfl, q _ _ hf (same_new hf) upd_same⟩
  exact ⟨z, us, r, ⟨_, Heap.get?_push_size _ rfl, rfl, _, rfl⟩⟩
end

/-! ### defs -/
/-- the def x of the module, as it stands -/
structure Df (K : PySem.W.Frag) (mg : Str → Option Value) (x : Str) (st : Stmt) (ps : List Str) : Prop where
  ex : ∃ (f : Addr) (fd : FuncData), Fun K x x st f fd ∧ Binds K fd ps [] ∧ mg x = some (.ref f)
structure OkAt (P : Program) (w : World) (K : PySem.W.Frag) (mg : Str → Option Value) (base : Heap) (x : Str) (k : Nat) (ps : List Str) (sp : Sp) : Prop where
  ex : ∃ (f : Addr) (fd : FuncData), FnOk P w K mg base CX0 k f fd ps sp ∧ Binds K fd ps [] ∧ mg x = some (.ref f) ∧ PySem.W.keepIn K (.ref f) = true
section
variable {P : Program} {w : World} {K : PySem.W.Frag} {mg : Str → Option Value} {base : Heap}
/-- THE RULE for a def -/
theorem Df.ok {x : Str} {st : Stmt} {N ps : List Str} {k : Nat} {sp : Sp} (F : Df K mg x st ps) (S : FnScope N ps (defScope st)) (len : ∀ vs H Q E, sp vs H Q E → vs.length = ps.length)
    (hbody : ∀ (f : Addr) (cdv : Value) (A : Around) (outer : List Env) (s : Shared) (H : Hp) (vs : List V) (Q : VK) (E : XK), Room k (A.deeper (envOfC x (defScope st) s.heap.objs.size f cdv)) → sp vs H Q E →
      ∃ t, PSs (cxOf CX0 P w K mg base N x (defScope st) f cdv A outer s H E).nox (defBody st) t ∧ t { nx := fun _ H' => Q .non H', rt := Q } (start N vs) H) : OkAt P w K mg base x (k + 1) ps sp := by
  obtain ⟨f, fd, F, b, m⟩ := F.ex
  exact ⟨f, fd, F.ok S len fun cdv A outer s H vs Q E hr h => hbody f cdv A outer s H vs Q E hr h, b, m, F.kp⟩
theorem OkAt.mono {x : Str} {ps : List Str} {j k : Nat} {sp : Sp} (o : OkAt P w K mg base x j ps sp) (h : j ≤ k) : OkAt P w K mg base x k ps sp := by
  obtain ⟨f, fd, F, b, m, kp⟩ := o.ex
  exact ⟨f, fd, F.mono h, b, m, kp⟩
theorem OkAt.imp {x : Str} {ps : List Str} {k : Nat} {sp sp' : Sp} (o : OkAt P w K mg base x k ps sp) (h : ∀ vs H Q E, sp' vs H Q E → sp vs H Q E) : OkAt P w K mg base x k ps sp' := by
  obtain ⟨f, fd, F, b, m, kp⟩ := o.ex
  exact ⟨f, fd, F.imp h, b, m, kp⟩
end
def tCl (sp : Sp) (t : TA) : TE := fun σ H Q => t σ H fun vs H1 => sp vs H1 Q E0
theorem pe_cl {X : Cx} {x : Str} {ps : List Str} {k : Nat} {sp : Sp} {e : Expr} {es : List Expr} {t : TA} {p pos : Pos} (o : OkAt X.prog X.w X.K X.mg X.base x k ps sp) (hr : Room k X.A) (hg : Gl X x) (ha : PA X (e :: es) t)
    (hdb : (x == ("__debug__" : Str)) = false := by decide) (he : starEach (e :: es) X.env = (false, eval e X.env) :: starEach es X.env := by rfl) (hpl : (backTo pos (starEach es X.env)).any (·.1) = false := by rfl) :
    PE X (.Call (.Name x p) (e :: es) [] pos) (tCl sp t) := by
  obtain ⟨f, fd, F, b, m, kp⟩ := o.ex
  refine pe_imp (pe_call F hr hg m kp b .nil pass0 ha hdb he hpl) fun σ H Q h => ?_
  show t σ H fun vs H1 => sp (vs ++ []) H1 Q E0
  have e1 : (fun vs H1 => sp (vs ++ []) H1 Q E0) = fun vs H1 => sp vs H1 Q E0 := by
    funext vs H1
    rw [List.append_nil]
  rw [e1]
  exact h

/-! ### built-ins -/
def bLen (K : PySem.W.Frag) : List V → Hp → VK → Prop := fun xs H Q => ∃ x n, xs = [x] ∧ LenV K x H n ∧ Q (.int n) H
theorem cr_len {X : Cx} (K : PySem.W.Frag) (hk : X.K = K := by rfl) : CallR X (.builtin "len") (bLen K) := by
  subst hk
  exact call_len
def bMin : List V → Hp → VK → Prop := fun xs H Q => ∃ i j, xs = [.int i, .int j] ∧ Q (.int (if j < i then j else i)) H
theorem cr_minI {X : Cx} (hc : X.calm = true := by rfl) : CallR X (.builtin "min") bMin := call_min2 hc
def bInt : List V → Hp → VK → Prop := fun xs H Q => (∃ i, xs = [.int i] ∧ Q (.int i) H) ∨ (∃ k, xs = [.bl k] ∧ Q (.int (if k then 1 else 0)) H) ∨ ∃ (x : Str) (n : Int), xs = [.str x] ∧ PySem.intText? x = some n ∧ x.length ≤ 640 ∧ Q (.int n) H
theorem cr_int {X : Cx} : CallR X (.type "int") bInt := fun pins s σ H xs us Q I r h => by
  rcases h with h | h | ⟨x, n, h1, h2, h3, q⟩
  · exact call_int1 pins s σ H xs us Q I r (.inl h)
  · exact call_int1 pins s σ H xs us Q I r (.inr h)
  · exact call_int_str pins s σ H xs us Q I r ⟨x, n, h1, h2, h3, q⟩
def bStr : List V → Hp → VK → Prop := fun xs H Q => ∃ i, xs = [.int i] ∧ i.natAbs.log2 < 1920 ∧ Q (.str (toString i)) H
theorem cr_str {X : Cx} : CallR X (.type "str") bStr := call_str_int
def bListN (K : PySem.W.Frag) : List V → Hp → VK → Prop := fun xs H Q => ∃ p ys, xs = [.ref p] ∧ (SqL K H p ys ∨ SqT K H p ys) ∧ NewL H ys Q
theorem cr_listN {X : Cx} (K : PySem.W.Frag) (hk : X.K = K := by rfl) : CallR X (.type "list") (bListN K) := by
  subst hk
  exact callr_imp call_list_of fun xs H Q ⟨p, ys, h1, h2, q⟩ => ⟨p, ys, h1, h2, newL q⟩
def bAll (K : PySem.W.Frag) : List V → Hp → VK → Prop := rAll K
theorem cr_allB {X : Cx} (K : PySem.W.Frag) (hc : X.calm = true := by rfl) (hk : X.K = K := by rfl) : CallR X (.builtin "all") (bAll K) := by
  subst hk
  exact cr_all hc
def bSorted (K : PySem.W.Frag) : List V → Hp → VK → Prop := fun vs H Q => ∃ (a : Addr) (ns : List Int), vs = [V.ref a] ∧ SqL K H a (ns.map V.int) ∧ ns.length < 64 ∧ ∀ ns' : List Int, ns'.Perm ns → ns'.Pairwise (· ≤ ·) → NewL H (ns'.map V.int) Q
theorem cr_sortedN {X : Cx} (K : PySem.W.Frag) (hk : X.K = K := by rfl) : CallR X (.builtin "sorted") (bSorted K) := by
  subst hk
  exact callr_imp cr_sorted fun vs H Q ⟨a, ns, h1, h2, h3, q⟩ => ⟨a, ns, h1, h2, h3, fun ns' p hp hs n => newL (q ns' hp hs) p n⟩
def bIsi (K : PySem.W.Frag) : List V → Hp → VK → Prop := rIsi K
theorem cr_isi {X : Cx} (K : PySem.W.Frag) (hk : X.K = K := by rfl) : CallR X (.builtin "isinstance") (bIsi K) := by
  subst hk
  exact call_isi

/-! ### methods -/
def mAppend : V → List V → Hp → VK → Prop := fun x vs H Q => ∃ l xs y, x = .ref l ∧ vs = [y] ∧ H l = some (.lst xs) ∧ xs.length < sizeLine ∧ ∀ H', But l H H' → H' l = some (.lst (xs ++ [y])) → Q .non H'
theorem mt_appendN {X : Cx} : MtR X "list.append" mAppend := mtr_imp mt_append fun x vs H Q ⟨l, xs, y, h1, h2, h3, h4, q⟩ => ⟨l, xs, y, h1, h2, h3, h4, q _ but_upd upd_same⟩
def mPopAt : V → List V → Hp → VK → Prop := fun x vs H Q => ∃ l xs i k y, x = .ref l ∧ vs = [.int i] ∧ H l = some (.lst xs) ∧ -(2 ^ 63) ≤ i ∧ i < 2 ^ 63 ∧ seqIndex? i xs.length = some k ∧ xs[k]? = some y ∧ ∀ H', But l H H' → H' l = some (.lst (xs.eraseIdx k)) → Q y H'
theorem mt_popAtN {X : Cx} : MtR X "list.pop" mPopAt := mtr_imp mt_popAt fun x vs H Q ⟨l, xs, i, k, y, h1, h2, h3, h4, h5, h6, h7, q⟩ => ⟨l, xs, i, k, y, h1, h2, h3, h4, h5, h6, h7, q _ but_upd upd_same⟩
def mJoin (K : PySem.W.Frag) : V → List V → Hp → VK → Prop := fun x xs H Q => ∃ a p, ∃ ys : List Str, x = .str a ∧ xs = [.ref p] ∧ (SqL K H p (ys.map V.str) ∨ SqT K H p (ys.map V.str)) ∧
    (ys.map (·.length)).sum + ys.length * a.length ≤ 16777216 ∧ Q (.str (Txt.join a ys)) H
theorem mt_joinN {X : Cx} (K : PySem.W.Frag) (hk : X.K = K := by rfl) : MtR X "str.join" (mJoin K) := by
  subst hk
  exact mt_join
/-- xs[i] = v -/
def uSetL : V → V → V → Hp → (Hp → Prop) → Prop := fun o i v H Q => ∃ p xs k j, o = .ref p ∧ i = .int k ∧ H p = some (.lst xs) ∧ ixN xs.length k = some j ∧ ∀ H', But p H H' → H' p = some (.lst (xs.set j v)) → Q H'
theorem set_u {X : Cx} : PSet X uSetL := fun pins s σ H o i v ov iv u Q I r1 r2 r3 ⟨p, xs, k, j, h1, h2, h3, h4, q⟩ => set_list pins s σ H o i v ov iv u Q I r1 r2 r3 ⟨p, xs, k, j, h1, h2, h3, h4, q _ but_upd upd_same⟩
/-! ### the same with K told -/
section
variable {X : Cx} {o e tg l : Expr} {es ets : List Expr} {to te tl : TE} {t : TA} {name : Str} {apos cpos p pos tpos : Pos} {T id : String} {r : V → List V → Hp → VK → Prop} {kk n : Nat} {u : TGs}
theorem pe_bmK (K : PySem.W.Frag) (pa : PlainAttrs T) (slot : Slot T name id) (hty : typeOf (.builtin id) = pure (.type "method_descriptor")) (hm : MtR X id r) (ho : PE X o to) (ha : PA X (e :: es) t) (hk : X.K = K := by rfl)
    (hbase : attributeBase o name X.env (eval o X.env) = eval o X.env := by rfl)
    (hfew : ((backTo cpos (starEach (e :: es) X.env)).all (fun x => !x.1) && (backToKw cpos (keywordEach [] X.env)).all (fun x => x.1.isSome)
      && decide ((e :: es).length + ([] : List Keyword).length + (if ([] : List Keyword).isEmpty then 0 else 1) < 30)) = true := by rfl)
    (hline : (apos.endLine == cpos.line) = true := by rfl) (hs : starEach (e :: es) X.env = (false, eval e X.env) :: starEach es X.env := by rfl) (hplain : (backTo cpos (starEach es X.env)).any (·.1) = false := by rfl) :
    PE X (.Call (.Attribute o name apos) (e :: es) [] cpos) (tBM K T r to t) := by
  subst hk
  exact pe_bm pa slot hty hm ho ha hbase hfew hline hs hplain
theorem pi_listK (K : PySem.W.Frag) (hl : PE X l tl) (hk : X.K = K := by rfl) : PI X tg l (iList K tl) := by
  subst hk
  exact pi_list hl
theorem pi_tupK (K : PySem.W.Frag) (hl : PE X l tl) (hk : X.K = K := by rfl) : PI X tg l (iTup K tl) := by
  subst hk
  exact pi_tup hl
theorem pi_enumK (K : PySem.W.Frag) (hg : Gl X "enumerate") (hm : X.mg "enumerate" = none) (ha : PA X [e] t) (hk : X.K = K := by rfl) (hs : starEach [e] X.env = [(false, eval e X.env)] := by rfl) :
    PI X (.Tuple ets kk tpos) (.Call (.Name "enumerate" p) [e] [] pos) (iEnum K t) := by
  subst hk
  exact pi_enum hg hm ha hs
theorem pi_revK (K : PySem.W.Frag) (hg : Gl X "reversed") (hm : X.mg "reversed" = none) (ha : PA X [e] t) (hk : X.K = K := by rfl) (hs : starEach [e] X.env = [(false, eval e X.env)] := by rfl) :
    PI X tg (.Call (.Name "reversed" p) [e] [] pos) (iRev K t) := by
  subst hk
  exact pi_reversed hg hm ha hs
theorem pg_tupK (K : PySem.W.Frag) (hc : X.calm = true) (h : PGs X es u) (hk : X.K = K := by rfl) (hn : (assignEach es X.env).length = n := by rfl) (hst : (assignEach es X.env).findIdx? (·.1) = none := by rfl) :
    PG X (.Tuple es kk pos) (gTup K n u) := by
  subst hk
  exact pg_tup hc h hn hst
theorem pe_gStr {x z : Str} (hg : Gl X x) (h : ∃ t, X.mg x = some (.str z t)) (hd : (x == ("__debug__" : Str)) = false := by decide) : PE X (.Name x pos) (tC (.str z)) := by
  obtain ⟨t, h⟩ := h
  exact pe_glob hg h ⟨t, rfl⟩ hd
theorem pe_gInt {x : Str} {z : Int} (hg : Gl X x) (h : ∃ t, X.mg x = some (.int z t)) (hd : (x == ("__debug__" : Str)) = false := by decide) : PE X (.Name x pos) (tC (.int z)) := by
  obtain ⟨t, h⟩ := h
  exact pe_glob hg h ⟨t, rfl⟩ hd
end
end Z

/-! running a reading step by step -/
namespace Z
open PySem PySem.Spec PyProof.Rows L2
theorem le_size {n : Nat} (h : n ≤ 100000) : n ≤ sizeLine := Nat.le_trans h (by decide)
theorem lt_size {n : Nat} (h : n < 100000) : n < sizeLine := Nat.lt_of_lt_of_le h (by decide)
theorem decV_int {i j : Int} : decide (V.int i = V.int j) = decide (i = j) := by
  by_cases e : i = j
  · rw [e, decide_eq_true rfl, decide_eq_true rfl]
  · rw [decide_eq_false e, decide_eq_false (fun z => e (V.int.inj z))]
theorem decV_str {i j : Str} : decide (V.str i = V.str j) = decide (i = j) := by
  by_cases e : i = j
  · rw [e, decide_eq_true rfl, decide_eq_true rfl]
  · rw [decide_eq_false e, decide_eq_false (fun z => e (V.str.inj z))]
theorem decV_bl {i j : Bool} : decide (V.bl i = V.bl j) = decide (i = j) := by
  by_cases e : i = j
  · rw [e, decide_eq_true rfl, decide_eq_true rfl]
  · rw [decide_eq_false e, decide_eq_false (fun z => e (V.bl.inj z))]
section
variable {K : PySem.W.Frag} {σ : L2.St} {H : Hp} {Q : VK} {i : Nat} {v x y : V} {ta tb tc te to ti : TE} {t u : TT} {tl : TA} {a b : Addr} {xs ys : List V}

/-! ### expressions -/
theorem r_var (h : σ[i]? = some (some v)) (q : Q v H) : tVar i σ H Q := ⟨v, h, q⟩
theorem r_c (q : Q v H) : tC v σ H Q := q
theorem r_op {r : R2} (q : ta σ H fun x H1 => tb σ H1 fun y H2 => r x y H2 Q) : tOp r ta tb σ H Q := q
theorem r_un {r : V → Hp → VK → Prop} (q : ta σ H fun x H1 => r x H1 Q) : tUn r ta σ H Q := q
theorem r_neg {n : Int} (q : Q (.int (-n)) H) : rU (fun i => .int (-i)) (.int n) H Q := ⟨n, rfl, q⟩
theorem r_addI {i j : Int} (q : Q (.int (i + j)) H) : uAdd K (.int i) (.int j) H Q := .inl ⟨i, j, rfl, rfl, q⟩
theorem r_addS {a b : Str} (h : a.length + b.length ≤ sizeLine) (q : Q (.str (a ++ b)) H) : uAdd K (.str a) (.str b) H Q := .inr (.inl ⟨a, b, rfl, rfl, h, q⟩)
theorem r_addL (h1 : H a = some (.lst xs)) (h2 : H b = some (.lst ys)) (h : xs.length + ys.length ≤ sizeLine) (q : NewL H (xs ++ ys) Q) : uAdd K (.ref a) (.ref b) H Q := .inr (.inr (.inl ⟨a, b, xs, ys, rfl, rfl, h1, h2, h, q⟩))
theorem r_addU (h1 : H a = some (.tup xs)) (h2 : H b = some (.tup ys)) (e1 : xs ≠ []) (e2 : ys ≠ []) (h : xs.length + ys.length ≤ sizeLine) (q : NewT H (xs ++ ys) Q) : uAdd K (.ref a) (.ref b) H Q :=
  .inr (.inr (.inr ⟨a, b, xs, ys, rfl, rfl, SqT.of h1, SqT.of h2, e1, e2, h, q⟩))
theorem r_subI {i j : Int} (q : Q (.int (i - j)) H) : uSub (.int i) (.int j) H Q := ⟨i, j, rfl, rfl, q⟩
theorem r_mulI {i j : Int} (h : CMul i j) (q : Q (.int (i * j)) H) : uMul (.int i) (.int j) H Q := ⟨i, j, rfl, rfl, h, q⟩
theorem r_fdivI {i j : Int} (h : CDivW i j) (q : Q (.int (i / j)) H) : uFdiv (.int i) (.int j) H Q := ⟨i, j, rfl, rfl, h, q⟩
theorem r_modI {i j : Int} (h : 0 < j) (q : Q (.int (i % j)) H) : uMod (.int i) (.int j) H Q := ⟨i, j, rfl, rfl, h, q⟩
theorem r_leI {i j : Int} (q : Q (.bl (decide (i ≤ j))) H) : uLe (.int i) (.int j) H Q := .inl ⟨i, j, rfl, rfl, q⟩
theorem r_leS {a b : Str} (q : Q (.bl (!decide (b.cps.toList < a.cps.toList))) H) : uLe (.str a) (.str b) H Q := .inr ⟨a, b, rfl, rfl, q⟩
theorem r_ltI {i j : Int} (q : Q (.bl (decide (i < j))) H) : uLt (.int i) (.int j) H Q := ⟨i, j, rfl, rfl, q⟩
theorem r_gtI {i j : Int} (q : Q (.bl (decide (j < i))) H) : uGt (.int i) (.int j) H Q := ⟨i, j, rfl, rfl, q⟩
theorem r_geI {i j : Int} (q : Q (.bl (decide (j ≤ i))) H) : uGe (.int i) (.int j) H Q := ⟨i, j, rfl, rfl, q⟩
theorem r_eqI {i j : Int} (q : Q (.bl (decide (i = j))) H) : uEq K (.int i) (.int j) H Q := .inl ⟨rfl, by rw [decV_int]; exact q⟩
theorem r_neI {i j : Int} (q : Q (.bl (!decide (i = j))) H) : uNe K (.int i) (.int j) H Q := .inl ⟨rfl, by rw [decV_int]; exact q⟩
theorem r_eqS {i j : Str} (q : Q (.bl (decide (i = j))) H) : uEq K (.str i) (.str j) H Q := .inl ⟨rfl, by rw [decV_str]; exact q⟩
theorem r_neS {i j : Str} (q : Q (.bl (!decide (i = j))) H) : uNe K (.str i) (.str j) H Q := .inl ⟨rfl, by rw [decV_str]; exact q⟩
theorem r_eqB {i j : Bool} (q : Q (.bl (decide (i = j))) H) : uEq K (.bl i) (.bl j) H Q := .inl ⟨rfl, by rw [decV_bl]; exact q⟩
theorem r_neB {i j : Bool} (q : Q (.bl (!decide (i = j))) H) : uNe K (.bl i) (.bl j) H Q := .inl ⟨rfl, by rw [decV_bl]; exact q⟩
theorem r_eqV (h : scal x y = true) (q : Q (.bl (decide (x = y))) H) : uEq K x y H Q := .inl ⟨h, q⟩
theorem r_neV (h : scal x y = true) (q : Q (.bl (!decide (x = y))) H) : uNe K x y H Q := .inl ⟨h, q⟩
theorem r_eqD {d e : PyData} (h1 : Dp K H x d) (h2 : Dp K H y e) (s1 : SeqAt.shaped d = true) (s2 : SeqAt.shaped e = true) (q : Q (.bl (PyData.eqv d e)) H) : uEq K x y H Q := .inr ⟨d, e, h1, h2, s1, s2, q⟩
theorem r_neD {d e : PyData} (h1 : Dp K H x d) (h2 : Dp K H y e) (s1 : SeqAt.shaped d = true) (s2 : SeqAt.shaped e = true) (q : Q (.bl (!PyData.eqv d e)) H) : uNe K x y H Q := .inr ⟨d, e, h1, h2, s1, s2, q⟩
theorem r_inS {c : Nat} {z : Str} (q : Q (.bl (decide (c ∈ z.cps.toList))) H) : uIn K (.str ⟨#[c]⟩) (.str z) H Q := .inl ⟨c, z, rfl, rfl, q⟩
theorem r_niS {c : Nat} {z : Str} (q : Q (.bl (!decide (c ∈ z.cps.toList))) H) : uNi K (.str ⟨#[c]⟩) (.str z) H Q := .inl ⟨c, z, rfl, rfl, q⟩
theorem r_inL (h : H a = some (.lst xs)) (fx : flatV x = true) (fa : xs.all flatV = true) (q : Q (.bl (inV x xs)) H) : uIn K x (.ref a) H Q := .inr ⟨a, xs, rfl, .inl (SqL.of h), fx, fa, q⟩
theorem r_inU (h : H a = some (.tup xs)) (fx : flatV x = true) (fa : xs.all flatV = true) (q : Q (.bl (inV x xs)) H) : uIn K x (.ref a) H Q := .inr ⟨a, xs, rfl, .inr (SqT.of h), fx, fa, q⟩
theorem r_niL (h : H a = some (.lst xs)) (fx : flatV x = true) (fa : xs.all flatV = true) (q : Q (.bl (!inV x xs)) H) : uNi K x (.ref a) H Q := .inr ⟨a, xs, rfl, .inl (SqL.of h), fx, fa, q⟩
theorem r_niU (h : H a = some (.tup xs)) (fx : flatV x = true) (fa : xs.all flatV = true) (q : Q (.bl (!inV x xs)) H) : uNi K x (.ref a) H Q := .inr ⟨a, xs, rfl, .inr (SqT.of h), fx, fa, q⟩
theorem r_isN (q : Q (.bl (decide (x = .non))) H) : uIsN x .non H Q := ⟨rfl, q⟩
theorem r_notN (q : Q (.bl (!decide (x = .non))) H) : uNotN x .non H Q := ⟨rfl, q⟩
theorem r_ixS {z : Str} {n : Int} {c : Nat} (hz : z.length ≤ sizeLine) (h : atI z.cps.toList n = some c) (q : Q (.str ⟨#[c]⟩) H) : uIx K (.str z) (.int n) H Q := .inr (.inr ⟨z, n, c, rfl, rfl, hz, h, q⟩)
theorem r_ixL {n : Int} (h : H a = some (.lst xs)) (hv : atI xs n = some v) (q : Q v H) : uIx K (.ref a) (.int n) H Q := .inl ⟨a, xs, n, v, rfl, rfl, SqL.of h, hv, q⟩
theorem r_ixU {n : Int} (h : H a = some (.tup xs)) (hv : atI xs n = some v) (q : Q v H) : uIx K (.ref a) (.int n) H Q := .inr (.inl ⟨a, xs, n, v, rfl, rfl, SqT.of h, hv, q⟩)
theorem r_sl {r : V → Option Int → Option Int → Hp → VK → Prop} {t1 t2 : TO} (q : te σ H fun x H1 => t1 σ H1 fun l H2 => t2 σ H2 fun u H3 => r x l u H3 Q) : tSl r te t1 t2 σ H Q := q
theorem r_noP {Q : Option Int → Hp → Prop} (q : Q none H) : tNoPart σ H Q := q
theorem r_po {Q : Option Int → Hp → Prop} (q : te σ H fun x H1 => ∃ i, x = .int i ∧ Q (some i) H1) : tPart te σ H Q := q
theorem r_poI {n : Int} {P : Int → Prop} (q : P n) : ∃ i, V.int n = .int i ∧ P i := ⟨n, rfl, q⟩
theorem r_slS {z : Str} {lo hi : Option Int} (h : z.length ≤ sizeLine) (q : Q (.str (cutS z lo hi)) H) : uSl K (.str z) lo hi H Q := .inl ⟨z, rfl, h, q⟩
theorem r_slL {lo hi : Option Int} (h : H a = some (.lst xs)) (q : NewL H (cutV xs lo hi) Q) : uSl K (.ref a) lo hi H Q := .inr ⟨a, xs, rfl, SqL.of h, q⟩
theorem r_ifE (q : t σ H fun c H1 => if c = true then ta σ H1 Q else tb σ H1 Q) : tIf t ta tb σ H Q := q
theorem r_andV (q : ta σ H fun x H1 => ∃ c, x = .bl c ∧ if c = true then tb σ H1 Q else Q (.bl false) H1) : tAndV ta tb σ H Q := q
theorem r_orV (q : ta σ H fun x H1 => ∃ c, x = .bl c ∧ if c = true then Q (.bl true) H1 else tb σ H1 Q) : tOrV ta tb σ H Q := q
theorem r_notV (q : ta σ H fun x H1 => ∃ c, x = .bl c ∧ Q (.bl (!c)) H1) : tNotV ta σ H Q := q
theorem r_chain {r r' : R2} (q : ta σ H fun x H1 => tb σ H1 fun y H2 => r x y H2 fun z H3 => ∃ k, z = .bl k ∧ (if k = true then tc σ H3 fun w' H4 => r' y w' H4 Q else Q (.bl false) H3)) : tChain r r' ta tb tc σ H Q := q
theorem r_bl {c : Bool} {P : Bool → Prop} (q : P c) : ∃ k, V.bl c = .bl k ∧ P k := ⟨c, rfl, q⟩
theorem r_nil {Q : List V → Hp → Prop} (q : Q [] H) : tNil σ H Q := q
theorem r_cons {Q : List V → Hp → Prop} (q : ta σ H fun x H1 => tl σ H1 fun xs H2 => Q (x :: xs) H2) : tCons ta tl σ H Q := q
theorem r_cl {sp : Sp} (q : tl σ H fun vs H1 => sp vs H1 Q E0) : tCl sp tl σ H Q := q
theorem r_cb {r : List V → Hp → VK → Prop} (q : tl σ H fun vs H1 => r vs H1 Q) : tCB r tl σ H Q := q
theorem r_tup (q : tl σ H fun xs H1 => xs.length ≤ sizeLine ∧ NewT H1 xs Q) : tTupN tl σ H Q := q
theorem r_lst (q : tl σ H fun xs H1 => xs.length ≤ sizeLine ∧ NewL H1 xs Q) : tLstN tl σ H Q := q
theorem r_few {n : Nat} {P : Prop} (h : n ≤ 1000) (q : P) : n ≤ sizeLine ∧ P := ⟨le_size (by omega), q⟩
theorem r_bm {T : String} {r : V → List V → Hp → VK → Prop} (q : to σ H fun x H1 => tyV K T x H1 ∧ tl σ H1 fun xs H2 => r x xs H2 Q) : tBM K T r to tl σ H Q := q
theorem r_tyL {P : Prop} (h : H a = some (.lst xs)) (q : P) : tyV K "list" (.ref a) H ∧ P := ⟨.inl ⟨rfl, _, SqL.of h⟩, q⟩
theorem r_tyS {z : Str} {P : Prop} (q : P) : tyV K "str" (.str z) H ∧ P := ⟨rfl, q⟩
theorem r_app (h : H a = some (.lst xs)) (hz : xs.length < sizeLine) (q : ∀ H', But a H H' → H' a = some (.lst (xs ++ [y])) → Q .non H') : mAppend (.ref a) [y] H Q := ⟨a, xs, y, rfl, rfl, h, hz, q⟩
theorem r_lenS {z : Str} (h : z.length ≤ sizeLine) (q : Q (.int z.length) H) : bLen K [.str z] H Q := ⟨_, _, rfl, ⟨h, rfl⟩, q⟩
theorem r_lenL (h : H a = some (.lst xs)) (q : Q (.int xs.length) H) : bLen K [.ref a] H Q := ⟨_, _, rfl, .inl ⟨_, SqL.of h, rfl⟩, q⟩
theorem r_lenU (h : H a = some (.tup xs)) (q : Q (.int xs.length) H) : bLen K [.ref a] H Q := ⟨_, _, rfl, .inr ⟨_, SqT.of h, rfl⟩, q⟩
theorem r_min {i j : Int} (q : Q (.int (if j < i then j else i)) H) : bMin [.int i, .int j] H Q := ⟨i, j, rfl, q⟩
theorem r_intI {i : Int} (q : Q (.int i) H) : bInt [.int i] H Q := .inl ⟨i, rfl, q⟩
theorem r_intB {k : Bool} (q : Q (.int (if k then 1 else 0)) H) : bInt [.bl k] H Q := .inr (.inl ⟨k, rfl, q⟩)
theorem r_listL (h : H a = some (.lst xs)) (q : NewL H xs Q) : bListN K [.ref a] H Q := ⟨a, xs, rfl, .inl (SqL.of h), q⟩
theorem r_listU (h : H a = some (.tup xs)) (q : NewL H xs Q) : bListN K [.ref a] H Q := ⟨a, xs, rfl, .inr (SqT.of h), q⟩
theorem r_all {bs : List Bool} (h : H a = some (.lst (bs.map V.bl))) (q : Q (.bl (bs.all id)) H) : bAll K [.ref a] H Q := ⟨a, bs, rfl, SqL.of h, q⟩
theorem r_join {z : Str} {ys : List Str} (h : H a = some (.lst (ys.map V.str))) (hs : (ys.map (·.length)).sum + ys.length * z.length ≤ 16777216) (q : Q (.str (Txt.join z ys)) H) : mJoin K (.str z) [.ref a] H Q := ⟨z, a, ys, rfl, rfl, .inl (SqL.of h), hs, q⟩
theorem ixN_nat {n j : Nat} (hj : j < n) : ixN n (j : Int) = some j := by
  unfold ixN
  rw [if_pos (by omega), if_pos (by omega)]
  simp
theorem r_popAt {n : Int} {j : Nat} (h : H a = some (.lst xs)) (hn : n = (j : Int)) (hl : xs.length ≤ 100000) (hv : xs[j]? = some v) (q : ∀ H', But a H H' → H' a = some (.lst (xs.eraseIdx j)) → Q v H') : mPopAt (.ref a) [.int n] H Q := by
  subst hn
  have hj : j < xs.length := (List.getElem?_eq_some_iff.mp hv).1
  exact ⟨a, xs, j, j, v, rfl, rfl, h, by omega, by omega, (ixN_seq (ixN_nat hj)).1, hv, q⟩
theorem r_setL {n : Int} {j : Nat} {Q : Hp → Prop} (h : H a = some (.lst xs)) (hj : ixN xs.length n = some j) (q : ∀ H', But a H H' → H' a = some (.lst (xs.set j v)) → Q H') : uSetL (.ref a) (.int n) v H Q := ⟨a, xs, n, j, rfl, rfl, h, hj, q⟩
end
section
variable {K : PySem.W.Frag} {σ : L2.St} {H : Hp} {i : Nat} {v x y : V} {ta tb tc te to ti : TE} {t u : TT} {s1 s2 s3 : TS}

/-! ### tests -/
variable {QT : Bool → Hp → Prop}
theorem r_test (q : te σ H fun x H' => ∃ k, x = .bl k ∧ QT k H') : tTest te σ H QT := q
theorem r_tB (q : te σ H fun x H' => ∃ k, x = .bl k ∧ QT k H') : tB te σ H QT := q
theorem r_not (q : t σ H fun c H1 => QT (!c) H1) : tNot t σ H QT := q
theorem r_and (q : t σ H fun c H1 => if c = true then u σ H1 QT else QT false H1) : tAnd t u σ H QT := q
theorem r_or (q : t σ H fun c H1 => if c = true then QT true H1 else u σ H1 QT) : tOr t u σ H QT := q
theorem r_yes (q : QT true H) : tYes σ H QT := q

/-! ### ways -/
theorem w_dec {p A B : Prop} [Decidable p] (h1 : p → A) (h2 : ¬ p → B) : if decide p = true then A else B := by
  by_cases h : p
  · rw [if_pos (decide_eq_true h)]; exact h1 h
  · rw [if_neg (by rw [decide_eq_false h]; decide)]; exact h2 h
theorem w_nd {p A B : Prop} [Decidable p] (h1 : ¬ p → A) (h2 : p → B) : if (!decide p) = true then A else B := by
  by_cases h : p
  · rw [if_neg (by rw [decide_eq_true h]; decide)]; exact h2 h
  · rw [if_pos (by rw [decide_eq_false h]; decide)]; exact h1 h
theorem w_yes {p A B : Prop} [Decidable p] (h : p) (a : A) : if decide p = true then A else B := w_dec (fun _ => a) fun z => absurd h z
theorem w_no {p A B : Prop} [Decidable p] (h : ¬ p) (b : B) : if decide p = true then A else B := w_dec (fun z => absurd z h) fun _ => b
theorem w_nyes {p A B : Prop} [Decidable p] (h : ¬ p) (a : A) : if (!decide p) = true then A else B := w_nd (fun _ => a) fun z => absurd z h
theorem w_nno {p A B : Prop} [Decidable p] (h : p) (b : B) : if (!decide p) = true then A else B := w_nd (fun z => absurd h z) fun _ => b
theorem iteNT {A B : Prop} (b : B) : if (!true) = true then A else B := by
  rw [if_neg (by decide)]
  exact b
theorem iteNF {A B : Prop} (a : A) : if (!false) = true then A else B := by
  rw [if_pos (by decide)]
  exact a
theorem w_b {c : Bool} {A B : Prop} (h1 : c = true → A) (h2 : c = false → B) : if c = true then A else B := by
  cases c with
  | true => rw [if_pos rfl]; exact h1 rfl
  | false => rw [if_neg Bool.false_ne_true]; exact h2 rfl
theorem w_t {c : Bool} {A B : Prop} (h : c = true) (a : A) : if c = true then A else B := w_b (fun _ => a) fun z => by rw [h] at z; cases z
theorem w_f {c : Bool} {A B : Prop} (h : c = false) (b : B) : if c = true then A else B := w_b (fun z => by rw [h] at z; cases z) fun _ => b

/-! ### statements: the ends written out -/
variable {nx bk ct : L2.St → Hp → Prop} {rt : VK}
theorem r_seq (q : s1 ⟨s2 ⟨nx, rt, bk, ct⟩, rt, bk, ct⟩ σ H) : tSeq s1 s2 ⟨nx, rt, bk, ct⟩ σ H := q
theorem r_asg (q : te σ H fun x H1 => nx (σ.set i (some x)) H1) : tAsg te (gName i) ⟨nx, rt, bk, ct⟩ σ H := q
theorem r_sasg (q : te σ H fun x H1 => s2 ⟨nx, rt, bk, ct⟩ (σ.set i (some x)) H1) : tSeq (tAsg te (gName i)) s2 ⟨nx, rt, bk, ct⟩ σ H := q
theorem r_sasgG {g : TG} (q : te σ H fun x H1 => g x σ H1 fun σ2 H2 => s2 ⟨nx, rt, bk, ct⟩ σ2 H2) : tSeq (tAsg te g) s2 ⟨nx, rt, bk, ct⟩ σ H := q
theorem r_asgG {g : TG} (q : te σ H fun x H1 => g x σ H1 nx) : tAsg te g ⟨nx, rt, bk, ct⟩ σ H := q
theorem r_sdrop (q : te σ H fun _ H1 => s2 ⟨nx, rt, bk, ct⟩ σ H1) : tSeq (tDrop te) s2 ⟨nx, rt, bk, ct⟩ σ H := q
theorem r_drop (q : te σ H fun _ H1 => nx σ H1) : tDrop te ⟨nx, rt, bk, ct⟩ σ H := q
theorem r_ret (q : te σ H rt) : tRet te ⟨nx, rt, bk, ct⟩ σ H := q
theorem r_if (q : t σ H fun b H1 => if b = true then s1 ⟨nx, rt, bk, ct⟩ σ H1 else s2 ⟨nx, rt, bk, ct⟩ σ H1) : tIfS t s1 s2 ⟨nx, rt, bk, ct⟩ σ H := q
theorem r_sif (q : t σ H fun b H1 => if b = true then s1 ⟨s3 ⟨nx, rt, bk, ct⟩, rt, bk, ct⟩ σ H1 else s2 ⟨s3 ⟨nx, rt, bk, ct⟩, rt, bk, ct⟩ σ H1) : tSeq (tIfS t s1 s2) s3 ⟨nx, rt, bk, ct⟩ σ H := q
theorem r_next (q : nx σ H) : tNext ⟨nx, rt, bk, ct⟩ σ H := q
theorem r_sset {ts : TSet} (q : te σ H fun x H1 => to σ H1 fun o H2 => ti σ H2 fun k H3 => ts o k x H3 fun H4 => s2 ⟨nx, rt, bk, ct⟩ σ H4) : tSeq (tAsg te (gSub to ti ts)) s2 ⟨nx, rt, bk, ct⟩ σ H := q
theorem r_set {ts : TSet} (q : te σ H fun x H1 => to σ H1 fun o H2 => ti σ H2 fun k H3 => ts o k x H3 fun H4 => nx σ H4) : tAsg te (gSub to ti ts) ⟨nx, rt, bk, ct⟩ σ H := q
theorem r_sfor {wi : TI} {g : TG} {tb : TS} (q : tFor wi g tb ⟨s2 ⟨nx, rt, bk, ct⟩, rt, bk, ct⟩ σ H) : tSeq (tFor wi g tb) s2 ⟨nx, rt, bk, ct⟩ σ H := q
theorem r_hide {Q : VK} (q : te σ H fun v H1 => ∃ a xs Pd, H1 a = some (.lst xs) ∧ Pd xs ∧ ∀ H', But a H1 H' → H' a = some (hidL Pd a) → Q v H') : tHide te σ H Q := q
end
/-! ### loops -/
section
variable {K : PySem.W.Frag} {σ : L2.St} {H : Hp} {a : Addr} {xs : List V} {g : TG} {tb : TS} {nx : L2.St → Hp → Prop} {rt : VK}
theorem f_list (h : H a = some (.lst xs)) (Pv : Nat → L2.St → Hp → Prop) (h0 : Pv 0 σ H) (hl : ∀ i σ H, i ≤ xs.length → Pv i σ H → H a = some (.lst xs))
    (hs : ∀ i x σ H, xs[i]? = some x → Pv i σ H → g x σ H fun σ2 H2 => tb ⟨Pv (i + 1), rt, nx, Pv (i + 1)⟩ σ2 H2) (hd : ∀ σ H, Pv xs.length σ H → nx σ H) :
    ∃ a', V.ref a = .ref a' ∧ (∃ xs, SqL K H a' xs) ∧ ∃ W : Nat → Nat → L2.St → Hp → Prop, (∃ m, W 0 m σ H) ∧ ∀ i m σ H, W i m σ H →
      ((Itl K a').stop i H ∧ nx σ H) ∨ ((Itl K a').go i H ∧ ∃ N : L2.St → Hp → Prop, (∀ σ' H', N σ' H' → ∃ m', m' < m ∧ W (i + 1) m' σ' H') ∧ ∀ x H', (Itl K a').yld i H x H' → g x σ H' fun σ2 H2 => tb ⟨N, rt, nx, N⟩ σ2 H2) :=
  ⟨a, rfl, ⟨xs, SqL.of h⟩, for_list (K := K) (D := ⟨nx, rt, fun _ _ => False, fun _ _ => False⟩) Pv h0 (fun i σ H hi p => SqL.of (hl i σ H hi p)) hs hd⟩
theorem f_range1 {n : Int} (h0n : 0 ≤ n) (hn : n ≤ 1000000) (Pv : Nat → L2.St → Hp → Prop) (h0 : Pv 0 σ H)
    (hs : ∀ (i : Nat) σ H, (i : Int) < n → Pv i σ H → g (.int (i : Int)) σ H fun σ2 H2 => tb ⟨Pv (i + 1), rt, nx, Pv (i + 1)⟩ σ2 H2) (hd : ∀ σ H, Pv n.toNat σ H → nx σ H) :
    ∃ j : Int, [V.int n] = [.int j] ∧ -(2 ^ 62) ≤ j ∧ j < 2 ^ 62 ∧ ∃ W : Nat → Nat → L2.St → Hp → Prop, (∃ m, W 0 m σ H) ∧ ∀ i m σ H, W i m σ H →
      ((Itr 0 j.toNat).stop i H ∧ nx σ H) ∨ ((Itr 0 j.toNat).go i H ∧ ∃ N : L2.St → Hp → Prop, (∀ σ' H', N σ' H' → ∃ m', m' < m ∧ W (i + 1) m' σ' H') ∧ ∀ x H', (Itr 0 j.toNat).yld i H x H' → g x σ H' fun σ2 H2 => tb ⟨N, rt, nx, N⟩ σ2 H2) :=
  ⟨n, rfl, by omega, by omega, for_range (lo := 0) (n := n.toNat) (D := ⟨nx, rt, fun _ _ => False, fun _ _ => False⟩) Pv h0 (fun i σ' H' hi p => by
    have e0 : (0 : Int) + (i : Int) = (i : Int) := Int.zero_add _
    rw [e0]
    exact hs i σ' H' (by omega) p) hd⟩
end
/-! the for statement, opened -/
section
variable {σ : L2.St} {H : Hp} {g : TG} {tb : TS} {nx bk ct : L2.St → Hp → Prop} {rt : VK} {wi : TI}
theorem r_for (q : wi σ H fun J H1 => ∃ W : Nat → Nat → L2.St → Hp → Prop, (∃ m, W 0 m σ H1) ∧ ∀ i m σ H, W i m σ H →
  (J.stop i H ∧ nx σ H) ∨ (J.go i H ∧ ∃ N : L2.St → Hp → Prop, (∀ σ' H', N σ' H' → ∃ m', m' < m ∧ W (i + 1) m' σ' H') ∧ ∀ x H', J.yld i H x H' → g x σ H' fun σ2 H2 => tb ⟨N, rt, nx, N⟩ σ2 H2)) : tFor wi g tb ⟨nx, rt, bk, ct⟩ σ H := q
theorem r_gName {i : Nat} {v : V} {Q : L2.St → Hp → Prop} (q : Q (σ.set i (some v)) H) : gName i v σ H Q := q
theorem r_gTup {K : PySem.W.Frag} {n : Nat} {u : TGs} {a : Addr} {xs : List V} {Q : L2.St → Hp → Prop} (h : H a = some (.tup xs)) (hn : xs.length = n) (q : u xs σ H Q) : gTup K n u (.ref a) σ H Q := ⟨a, xs, rfl, SqT.of h, hn, q⟩
theorem r_gCons {t : TG} {u : TGs} {v : V} {r : List V} {Q : L2.St → Hp → Prop} (q : t v σ H fun σ' H' => u r σ' H' Q) : gCons t u (v :: r) σ H Q := ⟨v, r, rfl, q⟩
theorem r_gNil {Q : L2.St → Hp → Prop} (q : Q σ H) : gNil [] σ H Q := ⟨rfl, q⟩
theorem r_iList {K : PySem.W.Frag} {tl : TE} {R : It → Hp → Prop} (q : tl σ H fun x H1 => ∃ a, x = .ref a ∧ (∃ xs, SqL K H1 a xs) ∧ R (Itl K a) H1) : iList K tl σ H R := q
theorem r_iRng1 {ta : TA} {R : It → Hp → Prop} (q : ta σ H fun vs H1 => ∃ j : Int, vs = [.int j] ∧ -(2 ^ 62) ≤ j ∧ j < 2 ^ 62 ∧ R (Itr 0 j.toNat) H1) : iRng1 ta σ H R := q
end
end Z

/-! data: lists of ints, deep equality -/
namespace Z
open PySem PySem.Spec PyProof.Rows L2
theorem dpAll_ints {K : PySem.W.Frag} {H : Hp} : ∀ ns : List Int, DpAll K H (ns.map V.int) (ns.map PyData.int)
  | [] => .nil
  | n :: ns => .cons (.int n) (dpAll_ints ns)
theorem dp_ints {K : PySem.W.Frag} {H : Hp} {a : Addr} {ns : List Int} (h : H a = some (.lst (ns.map V.int))) : Dp K H (.ref a) (.list (ns.map PyData.int)) := .lst (SqL.of h) (dpAll_ints ns)
theorem dp_nil {K : PySem.W.Frag} {H : Hp} {a : Addr} (h : H a = some (.lst [])) : Dp K H (.ref a) (.list []) := .lst (SqL.of h) .nil
theorem can_ints : ∀ ns : List Int, PyData.canLayAll0 (ns.map PyData.int) = true
  | [] => rfl
  | n :: ns => by
    rw [List.map_cons, PyData.canLayAll0, can_ints ns]
    rfl
theorem depth_ints : ∀ ns : List Int, PyData.depthAll (ns.map PyData.int) = 0
  | [] => rfl
  | n :: ns => by
    rw [List.map_cons, PyData.depthAll, depth_ints ns]
    rfl
theorem shaped_ints (ns : List Int) : SeqAt.shaped (.list (ns.map PyData.int)) = true := by
  unfold SeqAt.shaped
  rw [show (PyData.list (ns.map PyData.int)).canLay0 = true from can_ints ns, show (PyData.list (ns.map PyData.int)).depth = 1 by
    show PyData.depthAll (ns.map PyData.int) + 1 = 1
    rw [depth_ints]]
  rfl
theorem eqvAll_ints : ∀ xs ys : List Int, PyData.eqvAll (xs.map PyData.int) (ys.map PyData.int) = decide (xs = ys)
  | [], [] => rfl
  | [], _ :: _ => rfl
  | _ :: _, [] => rfl
  | x :: xs, y :: ys => by
    rw [List.map_cons, List.map_cons, PyData.eqvAll, eqvAll_ints xs ys]
    show (x == y && decide (xs = ys)) = _
    by_cases e1 : x = y
    · subst e1
      by_cases e2 : xs = ys
      · subst e2; simp
      · simp [e2]
    · simp [e1]
theorem eqv_ints (xs ys : List Int) : PyData.eqv (.list (xs.map PyData.int)) (.list (ys.map PyData.int)) = decide (xs = ys) := by
  rw [PyData.eqv]
  exact eqvAll_ints xs ys
section
variable {K : PySem.W.Frag} {H : Hp} {Q : VK} {a b : Addr} {xs ys : List Int}
theorem r_eqLI (h1 : H a = some (.lst (xs.map V.int))) (h2 : H b = some (.lst (ys.map V.int))) (q : Q (.bl (decide (xs = ys))) H) : uEq K (.ref a) (.ref b) H Q :=
  r_eqD (dp_ints h1) (dp_ints h2) (shaped_ints xs) (shaped_ints ys) (by rw [eqv_ints]; exact q)
theorem r_neLI (h1 : H a = some (.lst (xs.map V.int))) (h2 : H b = some (.lst (ys.map V.int))) (q : Q (.bl (!decide (xs = ys))) H) : uNe K (.ref a) (.ref b) H Q :=
  r_neD (dp_ints h1) (dp_ints h2) (shaped_ints xs) (shaped_ints ys) (by rw [eqv_ints]; exact q)
theorem r_eqLI0 (h1 : H a = some (.lst (xs.map V.int))) (h2 : H b = some (.lst [])) (q : Q (.bl (decide (xs = []))) H) : uEq K (.ref a) (.ref b) H Q := r_eqLI (ys := []) h1 h2 q
theorem r_neLI0 (h1 : H a = some (.lst (xs.map V.int))) (h2 : H b = some (.lst [])) (q : Q (.bl (!decide (xs = []))) H) : uNe K (.ref a) (.ref b) H Q := r_neLI (ys := []) h1 h2 q
end
theorem cdiv_of {i j : Int} (h : 0 < j) (hb : j ≤ 10 ^ 59) : CDivW i j := wide_div (b := 200) h (by
  have e : (10 : Int) ^ 59 < 2 ^ 200 := by decide
  have e2 : ((2 : Nat) ^ 200 : Nat) = ((2 : Int) ^ 200).toNat := by decide
  omega) (by decide) (by decide)
end Z

/-! set(text), list(text), reversed(text), text.index -/
namespace Z
open PySem PySem.Spec PyProof.Rows L2
/-! ### the unlike ones of a list, in the order in which they come -/
def stepD {α : Type} [BEq α] (σ : List α) (v : α) : List α := if σ.any (· == v) then σ else σ ++ [v]
def dl (l : List Nat) : List Nat := l.foldl stepD []
def sing (c : Nat) : Str := ⟨#[c]⟩
theorem stepD_any {α : Type} [BEq α] [LawfulBEq α] [DecidableEq α] (σ : List α) (v k : α) : (stepD σ v).any (· == k) = (σ.any (· == k) || decide (k = v)) := by
  unfold stepD
  by_cases h : σ.any (· == v) = true
  · rw [if_pos h]
    by_cases e : k = v
    · subst e; rw [h]; simp
    · simp [e]
  · rw [if_neg h, List.any_append]
    by_cases e : k = v
    · subst e; simp
    · have hb : (v == k) = false := by simpa [beq_iff_eq] using (fun h' : v = k => e h'.symm)
      simp [hb, e]
theorem stepD_length {α : Type} [BEq α] (σ : List α) (v : α) : (stepD σ v).length = if σ.any (· == v) then σ.length else σ.length + 1 := by
  unfold stepD
  split <;> simp
theorem dl_snoc (l : List Nat) (c : Nat) : dl (l ++ [c]) = stepD (dl l) c := by
  unfold dl
  rw [List.foldl_append]
  rfl
theorem sing_inj {a b : Nat} (h : sing a = sing b) : a = b := by
  have := congrArg (fun z : Str => z.cps.toList) h
  simpa [sing] using this
theorem any_sing (l : List Nat) (c : Nat) : (l.map sing).any (· == sing c) = l.any (· == c) := by
  rw [List.any_map]
  induction l with
  | nil => rfl
  | cons a r ih =>
    rw [List.any_cons, List.any_cons, ih]
    congr 1
    by_cases e : a = c
    · subst e; simp
    · have h1 : (a == c) = false := by simpa using e
      have h2 : (sing a == sing c) = false := by simpa using fun z => e (sing_inj z)
      rw [h1]
      exact h2
theorem dl_sing (l : List Nat) (c : Nat) : (dl (l ++ [c])).map sing = stepD ((dl l).map sing) (sing c) := by
  rw [dl_snoc]
  unfold stepD
  rw [any_sing]
  split
  · rfl
  · rw [List.map_append]
    rfl
theorem stepD_mem {σ : List Nat} {v k : Nat} : k ∈ stepD σ v ↔ k ∈ σ ∨ k = v := by
  have h := stepD_any σ v k
  constructor
  · intro hk
    have : (stepD σ v).any (· == k) = true := List.any_eq_true.mpr ⟨k, hk, by simp⟩
    rw [h, Bool.or_eq_true] at this
    rcases this with this | this
    · obtain ⟨x, hx, e⟩ := List.any_eq_true.mp this
      have : x = k := by simpa using e
      exact .inl (this ▸ hx)
    · exact .inr (of_decide_eq_true this)
  · intro hk
    have : (stepD σ v).any (· == k) = true := by
      rw [h, Bool.or_eq_true]
      rcases hk with hk | hk
      · exact .inl (List.any_eq_true.mpr ⟨k, hk, by simp⟩)
      · exact .inr (decide_eq_true hk)
    obtain ⟨x, hx, e⟩ := List.any_eq_true.mp this
    have : x = k := by simpa using e
    exact this ▸ hx
theorem dl_le (l : List Nat) : (dl l).length ≤ l.length ∧ (∀ k, k ∈ dl l ↔ k ∈ l) ∧ ((dl l).length = l.length ↔ l.Nodup) := by
  have key : ∀ l r : List Nat, (r.foldl stepD l).length ≤ l.length + r.length ∧ (∀ k, k ∈ r.foldl stepD l ↔ k ∈ l ∨ k ∈ r) ∧ ((r.foldl stepD l).length = l.length + r.length ↔ (r.Nodup ∧ ∀ x ∈ r, x ∉ l)) := by
    intro l r
    induction r generalizing l with
    | nil =>
      refine ⟨Nat.le_refl _, fun k => ?_, ?_⟩
      · simp
      · simp
    | cons c r ih =>
      obtain ⟨i1, i2, i3⟩ := ih (stepD l c)
      have e := stepD_length l c
      rw [List.foldl_cons]
      have hc : l.any (· == c) = true ↔ c ∈ l := by
        rw [List.any_eq_true]
        constructor
        · rintro ⟨x, hx, e⟩
          have : x = c := by simpa using e
          exact this ▸ hx
        · intro h
          exact ⟨c, h, by simp⟩
      refine ⟨?_, fun k => ?_, ?_⟩
      · rw [List.length_cons]
        split at e <;> omega
      · rw [i2, stepD_mem, List.mem_cons]
        constructor
        · rintro ((h | h) | h)
          · exact .inl h
          · exact .inr (.inl h)
          · exact .inr (.inr h)
        · rintro (h | h | h)
          · exact .inl (.inl h)
          · exact .inl (.inr h)
          · exact .inr h
      · rw [List.length_cons, List.nodup_cons]
        by_cases h : c ∈ l
        · rw [if_pos (hc.mpr h)] at e
          constructor
          · intro z
            omega
          · rintro ⟨_, z⟩
            exact absurd h (z c List.mem_cons_self)
        · rw [if_neg (fun z => h (hc.mp z))] at e
          have e2 : (List.foldl stepD (stepD l c) r).length = l.length + (r.length + 1) ↔ (List.foldl stepD (stepD l c) r).length = (stepD l c).length + r.length := by
            rw [e]
            constructor <;> intro z <;> omega
          rw [e2, i3]
          constructor
          · rintro ⟨a, b⟩
            refine ⟨⟨fun z => ?_, a⟩, fun x hx => ?_⟩
            · exact b c z (stepD_mem.mpr (.inr rfl))
            · rcases List.mem_cons.mp hx with rfl | hx
              · exact h
              · exact fun z => b x hx (stepD_mem.mpr (.inl z))
          · rintro ⟨⟨a, b⟩, d⟩
            refine ⟨b, fun x hx z => ?_⟩
            rcases stepD_mem.mp z with z | z
            · exact d x (List.mem_cons_of_mem _ hx) z
            · exact a (z ▸ hx)
  have h := key [] l
  refine ⟨by have := h.1; simp at this; exact this, fun k => by rw [show dl l = l.foldl stepD [] from rfl, h.2.1]; simp, ?_⟩
  have h3 := h.2.2
  simp at h3
  exact h3
section
variable {prog : Program} {w : World} {A : Around} {R : Result → Shared → Prop} {I : Addr} {fp wr : List Addr} {G : Array GenState → Array GenState → Prop} {n : Nat} {P : Nat → Value → Prop} {St : Nat → Shared → Prop}
theorem set_loop (W : WalksS prog w A.in1 I fp wr G n P St) (S : Addr) (hSf : S ∉ fp) (l : List Nat) (hl : l.length = n)
    (hval : ∀ i v, P i v → ∃ t c, l[i]? = some c ∧ v = .str (sing c) t) (hb : n + 1 < scanBound) :
    ∀ (k i : Nat) (s : Shared), n - i = k → i ≤ n → St i s →
      s.heap.SetOf (strKind prog w) S (fun k' => ((dl (l.take i)).map sing).any (· == k')) ((dl (l.take i)).map sing).length →
      (∀ s', Moved (S :: wr) G s s' → s'.heap.SetOf (strKind prog w) S (fun k' => ((dl (l.take n)).map sing).any (· == k')) ((dl (l.take n)).map sing).length → R (.ok (.ret .none)) s') →
      codeAny (model prog w) A (.builtin "set.update.loop" ⟨[.ref S, .ref I], []⟩) R s := by
  have hSw : S ∉ wr := fun h => hSf (W.sub _ h)
  have hsub : ∀ b ∈ wr, b ∈ S :: wr := fun b hb => List.mem_cons_of_mem _ hb
  intro k
  induction k with
  | zero =>
    intro i s hk hi hst hS hR
    have hin : i = n := by omega
    subst hin
    refine codeAny_builtin F.entry_set_update_loop ?_
    rw [Around.under_plainId F.plain_set_update_loop _]
    show wpAny _ A.in1 (pyNext (.ref I) >>= _) _ _ s
    refine wpAny_bind (W.done s _ _ hst fun s' hm => ?_)
    show wpAny _ A.in1 (ret Value.none) _ _ s'
    exact wpAny_pure (hR s' (hm.mono hsub) (by
      obtain ⟨o, es, ep, t, ho, rest⟩ := hS
      exact ⟨o, es, ep, t, hm.heap S _ hSw ho, rest⟩))
  | succ k ih =>
    intro i s hk hi hst hS hR
    have hlt : i < n := by omega
    refine codeAny_builtin F.entry_set_update_loop ?_
    rw [Around.under_plainId F.plain_set_update_loop _]
    show wpAny _ A.in1 (pyNext (.ref I) >>= _) _ _ s
    refine wpAny_bind (W.item i s _ _ hlt hst fun v s' hP hst' hm => ?_)
    obtain ⟨t, c, hc, rfl⟩ := hval i v hP
    have hS' : s'.heap.SetOf (strKind prog w) S (fun k' => ((dl (l.take i)).map sing).any (· == k')) ((dl (l.take i)).map sing).length := by
      obtain ⟨o, es, ep, tb, ho, rest⟩ := hS
      exact ⟨o, es, ep, tb, hm.heap S _ hSw ho, rest⟩
    show wpAny _ A.in1 (holding [Value.str (sing c) t] (setAdd S (.str (sing c) t)) >>= _) _ _ s'
    refine wpAny_bind (wpAny_holding ?_)
    unfold setAdd
    refine wpAny_holding ?_
    refine wpAny_bind ((strKind prog w).pyHash (k := sing c) (strKind_is _ _ _ _) ?_)
    have hroom : ((dl (l.take i)).map sing).length + 1 < scanBound := by
      have h1 := (dl_le (l.take i)).1
      rw [List.length_take] at h1
      rw [List.length_map]
      omega
    refine wpAny_setAddHashed_of (knd := strKind prog w) (s := { s' with toks := s'.toks + 1 }) (strKind_is _ _ _ _) rfl hS' hroom fun h' hsb hS2 => ?_
    have et : (dl (l.take (i + 1))).map sing = stepD ((dl (l.take i)).map sing) (sing c) := by
      rw [List.take_add_one, hc]
      exact dl_sing _ _
    have hSi : h'.SetOf (strKind prog w) S (fun k' => ((dl (l.take (i + 1))).map sing).any (· == k')) ((dl (l.take (i + 1))).map sing).length :=
      SetOf_congr hS2 (fun k' => by rw [et, stepD_any]) (by rw [et, stepD_length])
    refine wpAny_pure ⟨plainId_quiet F.plain_set_update_loop _, ih (i + 1) _ (by omega) hlt (W.frame _ s' _ _ hst' (Nat.le_succ _) fun b hb o e => ?_) hSi fun s'' hm'' hS'' => ?_⟩
    · rw [hsb.2 b (fun h : b = S => hSf (by rw [← h]; exact hb))]; exact e
    · refine hR s'' (Moved.trans W.gtrans ((hm.mono hsub).then_heap (Nat.le_succ _) fun b o hb e => ?_) hm'') hS''
      rw [hsb.2 b (fun h : b = S => hb (by rw [h]; exact List.mem_cons_self))]; exact e
end
section
variable {prog : Program} {w : World} {A : Around} {E : Value → Shared → Prop} {s : Shared}
theorem call_set_text (x : Str) (t : Tok) {Q : Value → Shared → Prop} (hh : A.handled = none) (hb : x.cps.size + 1 < scanBound)
    (h : ∀ (h' : Heap) (tk : Nat), h'.SetOf (strKind prog w) s.heap.objs.size (fun k' => ((dl x.cps.toList).map sing).any (· == k')) ((dl x.cps.toList).map sing).length →
      (∀ b o, b < s.heap.objs.size → s.heap.get? b = some o → h'.get? b = some o) → Q (.ref s.heap.objs.size) { s with heap := h', toks := tk }) :
    wpAny (model prog w) A (call (.type "set") [.str x t]) Q E s := by
  obtain ⟨c, tl, hmro⟩ := PySem.F.called_set.mro
  have hmade := PySem.F.called_set.made
  have hsub := PySem.F.called_set.sub
  refine wpAny_call (codeAny_of_tree ?_)
  show wpAny _ _ (callAny (.type "set") _) _ _ _
  refine wpAny_pure ⟨Code.quiet_builtin _ (by decide +kernel), codeAny_builtin PySem.F.entry_type_call ?_⟩
  rw [Around.under_plain (weight_type_call_type "set" [.str x t] []) rfl]
  have h1 := PySem.F.called_set.notType
  have h2 := PySem.F.called_set.canCreate
  have hct := PySem.F.typeCall_set_1 (.str x t)
  repeat (any_goals (first | assumption | wp_step))
  refine codeAny_mono (code_set_new_1 (.str x t) (E := E) (Q₁ := fun obj s₁ => ∃ led : Bool, obj = .ref s.heap.objs.size ∧ s₁ = { s with heap := s.heap.push { cls := .type "set", dict := none, data := .set #[] 0 (.fresh 0 0 led) } }) fun led => ⟨led, rfl, rfl⟩) fun r s₁ hr => ?_
  cases r with
  | error e => exact hr
  | ok fl =>
    cases fl with
    | ret obj =>
      obtain ⟨led, rfl, rfl⟩ := hr
      have hS : (s.heap.push { cls := .type "set", dict := none, data := .set #[] 0 (.fresh 0 0 led) }).get? s.heap.objs.size = some { cls := .type "set", dict := none, data := .set #[] 0 (.fresh 0 0 led) } := Heap.get?_push_size _ rfl
      have hT : Shared.TypeIs { s with heap := s.heap.push { cls := .type "set", dict := none, data := .set #[] 0 (.fresh 0 0 led) } } (.ref s.heap.objs.size) "set" := ⟨_, hS, rfl⟩
      have hli := PySem.F.called_set.init.lookup
      have hbi := PySem.F.called_set.init.bind (.ref s.heap.objs.size)
      repeat (any_goals (first | assumption | wp_step))
      refine codeAny_mono (codeAny_call_builtin (R := wants (fun r s₂ => r = .none ∧ ∃ h' tk, s₂ = { s with heap := h', toks := tk } ∧
          h'.SetOf (strKind prog w) s.heap.objs.size (fun k' => ((dl x.cps.toList).map sing).any (· == k')) ((dl x.cps.toList).map sing).length ∧
          (∀ b o, b < s.heap.objs.size → s.heap.get? b = some o → h'.get? b = some o)) E) PySem.F.called_set.init.plain PySem.F.entry_set_init (check_set_init_1 hT ?_)) fun r₂ s₂ hr₂ => ?_
      · have hne : (Value.type "str" == Value.type "dict") = false := by decide
        have hsls : isSubtype (.type "str") (.type "set") = pure false := by rw [isSubtype_type]; kernel_rfl
        have hslf : isSubtype (.type "str") (.type "frozenset") = pure false := by rw [isSubtype_type]; kernel_rfl
        unfold Builtin.«set.__init__» noKeywords Builtin.Frozenset.updateFrom
        generalize hPI : pyIter = PI
        wp_walk
        subst hPI
        refine wpAny_pyIter_str fun o St W st0 => ?_
        refine wpAny_bind (wpAny_runValue ?_)
        have calm : A.in1.in1.in1.handled = none := by simp [hh]
        have sz : (s.heap.push { cls := .type "set", dict := none, data := .set #[] 0 (.fresh 0 0 led) }).objs.size = s.heap.objs.size + 1 := Heap.size_push _ _
        have apart : s.heap.objs.size ∉ [(s.heap.push { cls := .type "set", dict := none, data := .set #[] 0 (.fresh 0 0 led) }).objs.size] := by
          rw [sz]
          simp
        have all : x.cps.toList.take x.cps.size = x.cps.toList := List.take_of_length_le (by simp)
        have kept : ((s.heap.push { cls := .type "set", dict := none, data := .set #[] 0 (.fresh 0 0 led) }).push o).get? s.heap.objs.size = some { cls := .type "set", dict := none, data := .set #[] 0 (.fresh 0 0 led) } := Heap.get?_push_of_some _ hS
        refine set_loop ((W _ calm).toS) s.heap.objs.size apart x.cps.toList (by simp) (fun i v ⟨c, u, hc, e⟩ => ⟨u, c, by rw [Array.getElem?_toList]; exact hc, e⟩) hb x.cps.size 0 _ rfl (Nat.zero_le _) st0
          (SetOf_congr ((setObjOf_fresh (knd := strKind prog w) led).setOf kept (by unfold scanBound; omega)) (fun _ => rfl) rfl) fun s' m so => ?_
        rw [all] at so
        obtain ⟨h', g', d', tk', os'⟩ := s'
        obtain rfl : g' = s.gens := m.gens
        obtain rfl : d' = s.drawn := m.drawn
        obtain rfl : os' = s.os := m.os
        refine wpAny_pure (show wpAny _ _ (ret Value.none) _ _ _ from wpAny_pure ⟨rfl, h', tk', rfl, so, fun b u lb e => ?_⟩)
        refine m.heap b u (fun z => ?_) (Heap.get?_push_of_some _ (Heap.get?_push_of_some _ e))
        rcases List.mem_cons.mp z with z | z
        · exact Nat.ne_of_lt lb z
        · rw [List.mem_singleton, sz] at z
          exact absurd (z ▸ lb) (Nat.not_lt.mpr (Nat.le_succ _))
      · cases r₂ with
        | error e => exact hr₂
        | ok fl₂ =>
          cases fl₂ with
          | ret r =>
            obtain ⟨rfl, h', tk, rfl, hS', hk'⟩ := hr₂
            repeat (any_goals (first | assumption | wp_step))
            exact h _ _ hS' hk'
          | _ => exact hr₂.elim
    | _ => exact hr.elim
end

/-! ### as rules -/
section
variable {X : Cx}
def tLenSetS (ta : TE) : TE := fun σ H Q => ta σ H fun x H1 => ∃ z : Str, x = .str z ∧ z.length ≤ 4000 ∧ Q (.int (dl z.cps.toList).length) H1
theorem r_lenSetS {σ : L2.St} {H : Hp} {Q : VK} {ta : TE} (q : ta σ H fun x H1 => ∃ z : Str, x = .str z ∧ z.length ≤ 4000 ∧ Q (.int (dl z.cps.toList).length) H1) : tLenSetS ta σ H Q := q
theorem pe_lenSetS {a : Expr} {ta : TE} {p p2 q pos : Pos} (hg : Gl X "len") (hm : X.mg "len" = none) (hg2 : Gl X "set") (hm2 : X.mg "set" = none) (ha : PE X a ta) (hc : X.calm = true := by rfl)
    (na : starEach [a] X.env = (false, eval a X.env) :: starEach [] X.env := by rfl) : PE X (.Call (.Name "len" p) [.Call (.Name "set" p2) [a] [] q] [] pos) (tLenSetS ta) := by
  refine ⟨fun pins s σ H Q I h => ?_⟩
  refine Call_ (ld_blt I hg hm boot_len ?_)
  refine PyProof.Rows.callWith_builtin1 (PyProof.Rows.args_cons ?_ rfl) rfl rfl
  refine Call_ (ld_blt I hg2 hm2 boot_set ?_)
  refine PyProof.Rows.callWith_type1 (PyProof.Rows.args_cons (thn (ha.run pins s σ H _ I h) fun v s1 ⟨x, H1, I1, r1, q1⟩ => PyProof.Rows.args_nil ?_) na) na rfl
  obtain ⟨z, rfl, h1, q1⟩ := q1
  obtain ⟨t, rfl⟩ := r1
  refine call_set_text z t (I1.ok.hd hc) (by have e : z.cps.size ≤ 4000 := h1; unfold scanBound; omega) fun h' tk hS hk => ?_
  refine PyProof.Rows.args_nil ?_
  obtain ⟨o, es, ep, t, ho, hex, hd, _, _, hb, hf, hn⟩ := hS
  have I2 : Inv X pins σ H1 { s1 with heap := h', toks := tk } := I1.kept fun b o e => hk b o (Heap.lt_size e) e
  rw [List.length_map] at hn
  have hl : (dl z.cps.toList).length ≤ 4000 := Nat.le_trans (dl_le _).1 (by rw [Array.length_toList]; exact h1)
  refine call_len_set ho hex hd hf (by rw [hn]; omega) ⟨.int (dl z.cps.toList).length, H1, I2.tok _, ⟨_, by rw [hn]⟩, q1⟩
def bListS : List V → Hp → VK → Prop := fun xs H Q => ∃ z : Str, xs = [.str z] ∧ z.length ≤ 100000 ∧ NewL H (z.cps.toList.map fun c => V.str (sing c)) Q
theorem vals_of_get : ∀ (xs : List V) (us : List Value), xs.length = us.length → (∀ (i : Nat) x u, xs[i]? = some x → us[i]? = some u → RelV x u) → Vals xs us
  | [], [], _, _ => .nil
  | [], _ :: _, h, _ => by cases h
  | _ :: _, [], h, _ => by cases h
  | x :: xs, u :: us, h, k => .cons (k 0 x u rfl rfl) (vals_of_get xs us (Nat.succ.inj h) fun i y v hy hv => k (i + 1) y v (by simpa using hy) (by simpa using hv))
theorem vals_signs {x : Str} {acc : Array Value} (h : ItemsOf (SignAt x) acc x.cps.size) : Vals (x.cps.toList.map fun c => V.str (sing c)) acc.toList := by
  refine vals_of_get _ _ (by rw [List.length_map, Array.length_toList, Array.length_toList, h.1]) fun i v u hv hu => ?_
  rw [Array.getElem?_toList] at hu
  obtain ⟨c, t, hc, rfl⟩ := h.2 i u hu
  rw [List.getElem?_map, Array.getElem?_toList, hc] at hv
  cases hv
  exact ⟨t, rfl⟩
theorem cr_listS (hc : X.calm = true := by rfl) : CallR X (.type "list") bListS := by
  intro pins s σ H xs us Q I r h
  obtain ⟨z, rfl, hl, q⟩ := h
  obtain ⟨u, e0, r0⟩ := vals1 r
  subst e0
  obtain ⟨t0, e1⟩ := (show ∃ t, u = Value.str z t from r0)
  subst e1
  refine call_list_str (I.ok.hd hc) z t0 (fun h' tk acc' c' k e hi => ?_) (le_size hl)
  have v := vals_signs hi
  have n := I.hok.fresh (Nat.le_refl s.heap.objs.size)
  have lz : (z.cps.toList.map fun c => V.str (sing c)).length ≤ sizeLine := by
    rw [List.length_map, Array.length_toList]
    exact le_size hl
  exact ⟨.ref s.heap.objs.size, upd H s.heap.objs.size (.lst (z.cps.toList.map fun c => V.str (sing c))), I.laid (t' := tk) k (Nat.le_refl _) ⟨lz, acc'.toList, c', v, by simpa using e⟩, rfl, q _ _ n (same_new n) upd_same⟩
end
end Z

/-! comprehensions whose turns leave all that stood; more walks -/
namespace Z
open PySem PySem.Spec PyProof.Rows L2
section
variable {K : PySem.W.Frag} {σ : L2.St} {H : Hp} {Q : VK} {g : TG} {tt : TT} {te : TE} {vs : List Nat} {Qd : Addr → Hp → Prop}
/-- one turn: x at place i; L: the list so far -/
def Turn1 (σ : L2.St) (g : TG) (tt : TT) (te : TE) (vs : List Nat) (L : Nat → List V) (i : Nat) (x : V) (H0 H1 : Hp) : Prop :=
  ∀ (Ky : VK) (Kn : Hp → Prop), (∀ y H4, Same H0 H4 → L (i + 1) = L i ++ [y] → Ky y H4) → (∀ H3, Same H0 H3 → L (i + 1) = L i → Kn H3) →
    g x (wipe σ vs) H1 fun σ2 H2 => wipe σ2 vs = wipe σ vs ∧ tt σ2 H2 fun b H3 => if b = true then te σ2 H3 Ky else Kn H3
theorem lc_any (J : It) (n : Nat) (L : Nat → List V) (hn : n ≤ 100000) (h0 : L 0 = []) (hl : ∀ i, (L i).length ≤ i) (go : ∀ i H', i < n → Same H H' → J.go i H') (stop : ∀ H', Same H H' → J.stop n H')
    (turn : ∀ i x H' H1, i < n → Same H H' → J.yld i H' x H1 → Turn1 σ g tt te vs L i x H' H1) (q : ∀ p H', H p = none → Same H H' → H' p = some (.lst (L n)) → Qd p H') :
    ∀ D, H D = none → ∃ W : Nat → Nat → Hp → Prop, (∃ m, W 0 m (upd H D (.lst []))) ∧ ∀ i m H, W i m H →
      (J.stop i H ∧ Qd D H) ∨ (J.go i H ∧ ∃ Nx : Hp → Prop, (∀ H', Nx H' → ∃ m', m' < m ∧ W (i + 1) m' H') ∧ ∀ x H', J.yld i H x H' → g x (wipe σ vs) H' fun σ2 H2 => wipe σ2 vs = wipe σ vs ∧ tt σ2 H2 fun b H3 =>
        if b = true then te σ2 H3 fun y H4 => ∃ acc, H4 D = some (.lst acc) ∧ acc.length < sizeLine ∧ Nx (upd H4 D (.lst (acc ++ [y]))) else Nx H3) := by
  intro D hD
  refine ⟨fun i m H' => i + m = n ∧ Same H H' ∧ H' D = some (.lst (L i)), ⟨n, Nat.zero_add n, same_new hD, by rw [h0]; exact upd_same⟩, ?_⟩
  rintro i m H' ⟨em, s, e⟩
  by_cases hi : i < n
  · refine .inr ⟨go i H' hi s, fun H'' => i + 1 + (m - 1) = n ∧ Same H H'' ∧ H'' D = some (.lst (L (i + 1))), fun H'' z => ⟨m - 1, by omega, z⟩, fun x H1 hy => ?_⟩
    refine turn i x H' H1 hi s hy _ _ (fun y H4 s4 e4 => ⟨L i, s4 _ _ e, lt_size (by have := hl i; omega), by omega, ?_, ?_⟩) (fun H3 s3 e3 => ⟨by omega, s.trans s3, by rw [e3]; exact s3 _ _ e⟩)
    · exact (but_upd (o := .lst (L i ++ [y]))).same (s.trans s4) hD
    · rw [e4]
      exact upd_same
  · have ei : i = n := by omega
    subst ei
    exact .inl ⟨stop H' s, q D H' hD s e⟩
theorem c_str {z : Str} (L : Nat → List V) (hz : z.length ≤ 100000) (h0 : L 0 = []) (hl : ∀ i, (L i).length ≤ i)
    (turn : ∀ (i c : Nat) H', z.cps.toList[i]? = some c → Same H H' → Turn1 σ g tt te vs L i (.str (sing c)) H' H') (q : ∀ p H', H p = none → Same H H' → H' p = some (.lst (L z.length)) → Qd p H') :
    ∃ x, V.str z = .str x ∧ ∀ D, H D = none → ∃ W : Nat → Nat → Hp → Prop, (∃ m, W 0 m (upd H D (.lst []))) ∧ ∀ i m H, W i m H →
      ((Its x).stop i H ∧ Qd D H) ∨ ((Its x).go i H ∧ ∃ Nx : Hp → Prop, (∀ H', Nx H' → ∃ m', m' < m ∧ W (i + 1) m' H') ∧ ∀ x_1 H', (Its x).yld i H x_1 H' → g x_1 (wipe σ vs) H' fun σ2 H2 => wipe σ2 vs = wipe σ vs ∧ tt σ2 H2 fun b H3 =>
        if b = true then te σ2 H3 fun y H4 => ∃ acc, H4 D = some (.lst acc) ∧ acc.length < sizeLine ∧ Nx (upd H4 D (.lst (acc ++ [y]))) else Nx H3) :=
  ⟨z, rfl, lc_any (Its z) z.length L hz h0 hl (fun i _ hi _ => hi) (fun _ _ => Nat.le_refl _) (fun i x H' H1 hi s ⟨e1, c, hc, e2⟩ => by
    subst e1 e2
    exact turn i c H1 (by rw [Array.getElem?_toList]; exact hc) s) q⟩
theorem c_list {a : Addr} {xs : List V} (L : Nat → List V) (ha : H a = some (.lst xs)) (hz : xs.length ≤ 100000) (h0 : L 0 = []) (hl : ∀ i, (L i).length ≤ i)
    (turn : ∀ i x H', xs[i]? = some x → Same H H' → Turn1 σ g tt te vs L i x H' H') (q : ∀ p H', H p = none → Same H H' → H' p = some (.lst (L xs.length)) → Qd p H') :
    ∃ a', V.ref a = .ref a' ∧ (∃ xs, SqL K H a' xs) ∧ ∀ D, H D = none → ∃ W : Nat → Nat → Hp → Prop, (∃ m, W 0 m (upd H D (.lst []))) ∧ ∀ i m H, W i m H →
      ((Itl K a').stop i H ∧ Qd D H) ∨ ((Itl K a').go i H ∧ ∃ Nx : Hp → Prop, (∀ H', Nx H' → ∃ m', m' < m ∧ W (i + 1) m' H') ∧ ∀ x_1 H', (Itl K a').yld i H x_1 H' → g x_1 (wipe σ vs) H' fun σ2 H2 => wipe σ2 vs = wipe σ vs ∧ tt σ2 H2 fun b H3 =>
        if b = true then te σ2 H3 fun y H4 => ∃ acc, H4 D = some (.lst acc) ∧ acc.length < sizeLine ∧ Nx (upd H4 D (.lst (acc ++ [y]))) else Nx H3) :=
  ⟨a, rfl, ⟨xs, SqL.of ha⟩, lc_any (Itl K a) xs.length L hz h0 hl (fun i H' hi s => ⟨xs, xs[i], SqL.of (s _ _ ha), List.getElem?_eq_getElem hi⟩) (fun H' s => ⟨xs, SqL.of (s _ _ ha), Nat.le_refl _⟩) (fun i x H' H1 hi s ⟨e1, f⟩ => by
    subst e1
    exact turn i x H1 (f xs (SqL.of (s _ _ ha))) s) q⟩
theorem c_range1 {n : Int} (L : Nat → List V) (h0n : 0 ≤ n) (hz : n ≤ 100000) (h0 : L 0 = []) (hl : ∀ i, (L i).length ≤ i)
    (turn : ∀ (i : Nat) H', (i : Int) < n → Same H H' → Turn1 σ g tt te vs L i (.int (i : Int)) H' H') (q : ∀ p H', H p = none → Same H H' → H' p = some (.lst (L n.toNat)) → Qd p H') :
    ∃ j : Int, [V.int n] = [.int j] ∧ -(2 ^ 62) ≤ j ∧ j < 2 ^ 62 ∧ ∀ D, H D = none → ∃ W : Nat → Nat → Hp → Prop, (∃ m, W 0 m (upd H D (.lst []))) ∧ ∀ i m H, W i m H →
      ((Itr 0 j.toNat).stop i H ∧ Qd D H) ∨ ((Itr 0 j.toNat).go i H ∧ ∃ Nx : Hp → Prop, (∀ H', Nx H' → ∃ m', m' < m ∧ W (i + 1) m' H') ∧ ∀ x_1 H', (Itr 0 j.toNat).yld i H x_1 H' → g x_1 (wipe σ vs) H' fun σ2 H2 => wipe σ2 vs = wipe σ vs ∧ tt σ2 H2 fun b H3 =>
        if b = true then te σ2 H3 fun y H4 => ∃ acc, H4 D = some (.lst acc) ∧ acc.length < sizeLine ∧ Nx (upd H4 D (.lst (acc ++ [y]))) else Nx H3) :=
  ⟨n, rfl, by omega, by omega, lc_any (Itr 0 n.toNat) n.toNat L (by omega) h0 hl (fun i _ hi _ => hi) (fun _ _ => Nat.le_refl _) (fun i x H' H1 hi s ⟨e1, e2⟩ => by
    subst e1 e2
    rw [Int.zero_add]
    exact turn i H1 (by omega) s) q⟩
theorem r_lc {wi : TI} (q : wi σ H fun J H1 => ∀ D, H1 D = none → ∃ W : Nat → Nat → Hp → Prop, (∃ m, W 0 m (upd H1 D (.lst []))) ∧ ∀ i m H, W i m H →
  (J.stop i H ∧ Q (.ref D) H) ∨ (J.go i H ∧ ∃ Nx : Hp → Prop, (∀ H', Nx H' → ∃ m', m' < m ∧ W (i + 1) m' H') ∧ ∀ x H', J.yld i H x H' → g x (wipe σ vs) H' fun σ2 H2 => wipe σ2 vs = wipe σ vs ∧ tt σ2 H2 fun b H3 =>
    if b = true then te σ2 H3 fun y H4 => ∃ acc, H4 D = some (.lst acc) ∧ acc.length < sizeLine ∧ Nx (upd H4 D (.lst (acc ++ [y]))) else Nx H3)) : tLc wi g tt te vs σ H Q := q
theorem r_iStr {R : It → Hp → Prop} (q : te σ H fun v H1 => ∃ x, v = .str x ∧ R (Its x) H1) : iStr te σ H R := q
end
section
variable {K : PySem.W.Frag} {σ : L2.St} {H : Hp} {g : TG} {tb : TS} {nx : L2.St → Hp → Prop} {rt : VK}
theorem f_str {z : Str} (Pv : Nat → L2.St → Hp → Prop) (h0 : Pv 0 σ H)
    (hs : ∀ (i c : Nat) σ H, z.cps.toList[i]? = some c → Pv i σ H → g (.str (sing c)) σ H fun σ2 H2 => tb ⟨Pv (i + 1), rt, nx, Pv (i + 1)⟩ σ2 H2) (hd : ∀ σ H, Pv z.length σ H → nx σ H) :
    ∃ x, V.str z = .str x ∧ ∃ W : Nat → Nat → L2.St → Hp → Prop, (∃ m, W 0 m σ H) ∧ ∀ i m σ H, W i m σ H →
      ((Its x).stop i H ∧ nx σ H) ∨ ((Its x).go i H ∧ ∃ N : L2.St → Hp → Prop, (∀ σ' H', N σ' H' → ∃ m', m' < m ∧ W (i + 1) m' σ' H') ∧ ∀ x_1 H', (Its x).yld i H x_1 H' → g x_1 σ H' fun σ2 H2 => tb ⟨N, rt, nx, N⟩ σ2 H2) := by
  refine ⟨z, rfl, fun i m σ H => i + m = z.length ∧ Pv i σ H, ⟨z.length, Nat.zero_add _, h0⟩, ?_⟩
  rintro i m σ H ⟨em, p⟩
  by_cases hi : i < z.length
  · refine .inr ⟨hi, Pv (i + 1), fun σ' H' p' => ⟨m - 1, by omega, by omega, p'⟩, ?_⟩
    rintro x H' ⟨rfl, c, hc, rfl⟩
    exact hs i c σ H' (by rw [Array.getElem?_toList]; exact hc) p
  · have ei : i = z.length := by omega
    subst ei
    exact .inl ⟨Nat.le_refl _, hd σ H p⟩
/-- for i, x in enumerate(xs) -/
theorem f_enum {a : Addr} {xs : List V} (h : H a = some (.lst xs)) (Pv : Nat → L2.St → Hp → Prop) (h0 : Pv 0 σ H) (hl : ∀ i σ H, i ≤ xs.length → Pv i σ H → H a = some (.lst xs))
    (hs : ∀ i x σ H T H', xs[i]? = some x → Pv i σ H → H T = none → Same H H' → H' T = some (.tup [.int (i : Nat), x]) → g (.ref T) σ H' fun σ2 H2 => tb ⟨Pv (i + 1), rt, nx, Pv (i + 1)⟩ σ2 H2) (hd : ∀ σ H, Pv xs.length σ H → nx σ H) :
    ∃ (a' : Addr) (xs' : List V), [V.ref a] = [.ref a'] ∧ SqL K H a' xs' ∧ ∃ W : Nat → Nat → L2.St → Hp → Prop, (∃ m, W 0 m σ H) ∧ ∀ i m σ H, W i m σ H →
      ((Ite K a').stop i H ∧ nx σ H) ∨ ((Ite K a').go i H ∧ ∃ N : L2.St → Hp → Prop, (∀ σ' H', N σ' H' → ∃ m', m' < m ∧ W (i + 1) m' σ' H') ∧ ∀ x_1 H', (Ite K a').yld i H x_1 H' → g x_1 σ H' fun σ2 H2 => tb ⟨N, rt, nx, N⟩ σ2 H2) := by
  refine ⟨a, xs, rfl, SqL.of h, fun i m σ H => i + m = xs.length ∧ Pv i σ H, ⟨xs.length, Nat.zero_add _, h0⟩, ?_⟩
  rintro i m σ H ⟨em, p⟩
  by_cases hi : i < xs.length
  · have ha := hl i σ H (by omega) p
    refine .inr ⟨⟨xs, xs[i], SqL.of ha, List.getElem?_eq_getElem hi⟩, Pv (i + 1), fun σ' H' p' => ⟨m - 1, by omega, by omega, p'⟩, ?_⟩
    rintro x H' ⟨T, y, rfl, hT, rfl, f⟩
    exact hs i y σ H T _ (f xs (SqL.of ha)) p hT (same_new hT) upd_same
  · have ei : i = xs.length := by omega
    subst ei
    exact .inl ⟨⟨xs, SqL.of (hl _ σ H (Nat.le_refl _) p), Nat.le_refl _⟩, hd σ H p⟩
theorem r_iEnum {ta : TA} {R : It → Hp → Prop} (q : ta σ H fun vs H1 => ∃ a xs, vs = [.ref a] ∧ SqL K H1 a xs ∧ R (Ite K a) H1) : iEnum K ta σ H R := q
end
/-! ### a list that is read: the script too -/
section
variable {K : PySem.W.Frag} {σ : L2.St} {H : Hp} {Q : VK} {a : Addr} {xs : List V} {g : TG} {tb : TS} {nx : L2.St → Hp → Prop} {rt : VK}
theorem f_listQ (h : SqL K H a xs) (Pv : Nat → L2.St → Hp → Prop) (h0 : Pv 0 σ H) (hl : ∀ i σ H, i ≤ xs.length → Pv i σ H → SqL K H a xs)
    (hs : ∀ i x σ H, xs[i]? = some x → Pv i σ H → g x σ H fun σ2 H2 => tb ⟨Pv (i + 1), rt, nx, Pv (i + 1)⟩ σ2 H2) (hd : ∀ σ H, Pv xs.length σ H → nx σ H) :
    ∃ a', V.ref a = .ref a' ∧ (∃ xs, SqL K H a' xs) ∧ ∃ W : Nat → Nat → L2.St → Hp → Prop, (∃ m, W 0 m σ H) ∧ ∀ i m σ H, W i m σ H →
      ((Itl K a').stop i H ∧ nx σ H) ∨ ((Itl K a').go i H ∧ ∃ N : L2.St → Hp → Prop, (∀ σ' H', N σ' H' → ∃ m', m' < m ∧ W (i + 1) m' σ' H') ∧ ∀ x H', (Itl K a').yld i H x H' → g x σ H' fun σ2 H2 => tb ⟨N, rt, nx, N⟩ σ2 H2) :=
  ⟨a, rfl, ⟨xs, h⟩, for_list (K := K) (D := ⟨nx, rt, fun _ _ => False, fun _ _ => False⟩) Pv h0 hl hs hd⟩
theorem r_lenQ (h : SqL K H a xs) (q : Q (.int xs.length) H) : bLen K [.ref a] H Q := ⟨_, _, rfl, .inl ⟨_, h, rfl⟩, q⟩
theorem r_listQ (h : SqL K H a xs) (q : NewL H xs Q) : bListN K [.ref a] H Q := ⟨a, xs, rfl, .inl h, q⟩
end
/-! ### a comprehension by an invariant of one's own -/
section
variable {σ : L2.St} {H : Hp} {g : TG} {tt : TT} {te : TE} {vs : List Nat} {Qd : Addr → Hp → Prop}
theorem c_range1G {n : Int} (h0n : 0 ≤ n) (hz : n ≤ 100000) (Pv : Addr → Nat → Hp → Prop) (h0 : ∀ D H', H D = none → Same H H' → H' D = some (.lst []) → Pv D 0 H')
    (hs : ∀ D (i : Nat) H', (i : Int) < n → H D = none → Pv D i H' → g (.int (i : Int)) (wipe σ vs) H' fun σ2 H2 => wipe σ2 vs = wipe σ vs ∧ tt σ2 H2 fun b H3 =>
      if b = true then te σ2 H3 fun y H4 => ∃ acc, H4 D = some (.lst acc) ∧ acc.length < sizeLine ∧ Pv D (i + 1) (upd H4 D (.lst (acc ++ [y]))) else Pv D (i + 1) H3)
    (hd : ∀ D H', H D = none → Pv D n.toNat H' → Qd D H') :
    ∃ j : Int, [V.int n] = [.int j] ∧ -(2 ^ 62) ≤ j ∧ j < 2 ^ 62 ∧ ∀ D, H D = none → ∃ W : Nat → Nat → Hp → Prop, (∃ m, W 0 m (upd H D (.lst []))) ∧ ∀ i m H, W i m H →
      ((Itr 0 j.toNat).stop i H ∧ Qd D H) ∨ ((Itr 0 j.toNat).go i H ∧ ∃ Nx : Hp → Prop, (∀ H', Nx H' → ∃ m', m' < m ∧ W (i + 1) m' H') ∧ ∀ x_1 H', (Itr 0 j.toNat).yld i H x_1 H' → g x_1 (wipe σ vs) H' fun σ2 H2 => wipe σ2 vs = wipe σ vs ∧ tt σ2 H2 fun b H3 =>
        if b = true then te σ2 H3 fun y H4 => ∃ acc, H4 D = some (.lst acc) ∧ acc.length < sizeLine ∧ Nx (upd H4 D (.lst (acc ++ [y]))) else Nx H3) :=
  ⟨n, rfl, by omega, by omega, fun D hD => lc_range (lo := 0) (n := n.toNat) (Pv D) (h0 D _ hD (same_new hD) upd_same) (fun i H' hi p => by
    rw [Int.zero_add]
    exact hs D i H' (by omega) hD p) fun H' p => hd D H' hD p⟩
end
end Z

/-! for x in reversed(text); text.index(sign); xs.insert(i, y); while -/
namespace Z
open PySem PySem.Spec PyProof.Rows L2
theorem norev_str : typeLookup (.type "str") "__reversed__" = pure none := by rw [typeLookup_type, builtinLookup_eq_fast]; kernel_rfl
theorem get_str : typeLookup (.type "str") "__getitem__" = pure (some (.builtin "str.__getitem__")) := by rw [typeLookup_type, builtinLookup_eq_fast]; kernel_rfl
def rsObj (x : Str) (t : Tok) (i : Int) : Obj := { cls := .type "reversed", data := .fields #[.str x t, rawInt i] }
/-- reversed(x), the next place i -/
def IsRs (h : Heap) (a : Addr) (x : Str) (t : Tok) (i : Int) : Prop := ∃ o, h.get? a = some o ∧ o.cls = .type "reversed" ∧ o.data = .fields #[.str x t, rawInt i]
theorem IsRs.at {h h' : Heap} {a : Addr} {x : Str} {t : Tok} {i : Int} (y : IsRs h a x t i) (e : ∀ o, h.get? a = some o → h'.get? a = some o) : IsRs h' a x t i := let ⟨o, ho, r⟩ := y; ⟨o, e _ ho, r⟩
section
variable {prog : Program} {w : World} {A : Around} {E : Value → Shared → Prop} {s : Shared}
theorem IsRs.typeIs {a : Addr} {x : Str} {t : Tok} {i : Int} (y : IsRs s.heap a x t i) : s.TypeIs (.ref a) "reversed" := let ⟨o, ho, hc, _⟩ := y; ⟨o, ho, hc⟩
theorem code_reversed_str {x : Str} {t : Tok} {Q₁ : Value → Shared → Prop}
    (hlen : ∀ (A : Around) (E : Value → Shared → Prop) (Q : Value → Shared → Prop), Q (.int x.length (s.toks + 1)) { s with toks := s.toks + 1 + 1 } → wpAny (model prog w) A (call (.builtin "len") [.str x t]) Q E s)
    (h : Q₁ (.ref s.heap.objs.size) { s with heap := s.heap.push (rsObj x t ((x.length : Int) - 1)), toks := s.toks + 1 + 1 }) :
    codeAny (model prog w) A (.call (.builtin "reversed.__new__") ⟨[.type "reversed", .str x t], []⟩) (wants Q₁ E) s := by
  have hT : s.TypeIs (.str x t) "str" := typeIs_str s x t
  refine codeAny_of_tree ?_
  show wpAny _ A.in1 (do checkBuiltinCall "reversed.__new__" ⟨[.type "reversed", .str x t], []⟩; again (.builtin "reversed.__new__" ⟨[.type "reversed", .str x t], []⟩)) _ _ s
  refine wpAny_bind (wpAny_of_eq (F.newCall_reversed_1 _) (wpAny_pure ⟨plainId_quiet F.plain_reversed_new _, codeAny_builtin F.entry_reversed_new ?_⟩))
  rw [Around.under_plainId F.plain_reversed_new _]
  unfold Builtin.«reversed.__new__»
  refine wpAny_bind (wpAny_of_eq (newClass_reversed _) ?_)
  try dsimp only
  refine wpAny_bind (wpAny_of_eq (a := ()) (by first | rfl | kernel_rfl) ?_)
  try dsimp only
  refine wpAny_bind (wpAny_of_eq (a := ()) (by first | rfl | kernel_rfl) ?_)
  try dsimp only
  refine wpAny_bind (wpAny_specialOf hT norev_str ?_)
  try dsimp only
  refine wpAny_bind ?_
  wp_delta
  refine wpAny_bind (wpAny_isInstance (T := "str") (U := "dict") (b := false) hT PySem.F.sub_str_dict ?_)
  try dsimp only
  try rw [if_neg Bool.false_ne_true]
  try dsimp only
  refine wpAny_bind (wpAny_specialOf hT get_str ?_)
  try dsimp only
  try rw [if_pos (by decide +kernel)]
  refine wpAny_pure ?_
  try dsimp only
  try rw [if_neg (by decide)]
  try dsimp only
  refine wpAny_bind (hlen _ _ _ ?_)
  refine wpAny_bind (wpAny_of_eq (a := some ((x.length : Nat) : Int)) rfl ?_)
  try dsimp only
  refine wpAny_bind ?_
  show wpAny _ _ (newObj (.type "reversed") (.fields #[.str x t, rawInt ((x.length : Int) - 1)])) _ _ _
  refine wpAny_newObj_type ?_
  exact wpAny_pure h
theorem call_reversed_str {x : Str} {t : Tok} {Q : Value → Shared → Prop}
    (hlen : ∀ (A : Around) (E : Value → Shared → Prop) (Q : Value → Shared → Prop), Q (.int x.length (s.toks + 1)) { s with toks := s.toks + 1 + 1 } → wpAny (model prog w) A (call (.builtin "len") [.str x t]) Q E s)
    (h : Q (.ref s.heap.objs.size) { s with heap := s.heap.push (rsObj x t ((x.length : Int) - 1)), toks := s.toks + 1 + 1 }) : wpAny (model prog w) A (call (.type "reversed") [.str x t]) Q E s := by
  refine callType_codes (Q₁ := fun obj s₁ => s₁.TypeIs obj "reversed" ∧ Q obj s₁) RT.called_rt (F.typeCall_reversed_1 _) F.entry_object_init
    (code_reversed_str (A := A.in1) hlen ⟨⟨_, Heap.get?_push_size _ rfl, rfl⟩, h⟩) fun obj s₁ h₁ => ?_
  exact ⟨h₁.1, F.args_object_init_2 obj _, object_init_meets RT.called_rt.init.lookup RT.called_rt.made (by decide) prog w A.in1 _ s₁ ⟨h₁.1, rfl, h₁.2⟩⟩
theorem next_rs_item {it : Addr} {x : Str} {t : Tok} {i : Nat} {c : Nat} {Q : Option Value → Shared → Prop} (hit : IsRs s.heap it x t (i : Int)) (hx : x.cps[i]? = some c) (hsz : x.length ≤ sizeLine)
    (hQ : ∀ h', IsRs h' it x t ((i : Int) - 1) → Heap.SameBut it s.heap h' → Q (some (.str ⟨#[c]⟩ (s.toks + 1))) { s with heap := h', toks := s.toks + 1 + 1 }) : wpAny (model prog w) A (pyNext (.ref it)) Q E s := by
  obtain ⟨o, ho, hc, hd⟩ := id hit
  have hi : i < x.cps.size := (Array.getElem?_eq_some_iff.mp hx).1
  have hT : s.TypeIs (.str x t) "str" := typeIs_str s x t
  rw [sizeLine_eq] at hsz
  have hs2 : x.length = x.cps.size := rfl
  unfold pyNext
  refine wpAny_bind (wpAny_attempt (wpAny_callSpecial?_slot (name := Str.ofString "__next__") hit.typeIs RT.slot_rt_next
    (wpAny_call_entry RT.slot_rt_next hit.typeIs RT.entry_rt_next ?_ (RT.args_rt_next _))))
  unfold Builtin.«reversed.__next__»
  refine wpAny_bind (wpAny_of_eq (a := (Value.ref it, [])) rfl ?_)
  try dsimp only
  refine wpAny_bind (wpAny_field ho hd (x := .str x t) rfl ?_)
  try dsimp only
  refine wpAny_bind (wpAny_field ho hd (x := rawInt (i : Int)) rfl ?_)
  show wpAny _ _ (if (i : Int) < 0 then _ else _) _ _ s
  rw [if_neg (by omega)]
  try dsimp only
  refine wpAny_bind (wpAny_specialOf hT get_str ?_)
  try dsimp only
  try rw [if_neg (by decide)]
  try dsimp only
  refine wpAny_bind (wpAny_mkInt ?_)
  refine wpAny_bind (wpAny_attempt ?_)
  have fin : seqIndex? (i : Int) x.length = some i := seqIndex_of (by omega) (by omega)
  refine PyProof.Rows.getItem_str (s := { s with toks := s.toks + 1 }) (by rw [decide_eq_false (by omega), decide_eq_false (by omega)]; rfl) (by rw [fin]; exact hx) ?_
  try dsimp only
  refine wpAny_bind (wpAny_field (s := { s with toks := s.toks + 1 + 1 }) ho hd (x := rawInt (i : Int)) rfl ?_)
  try dsimp only
  refine wpAny_bind (wpAny_setField (s := { s with toks := s.toks + 1 + 1 }) ho hd (by simp) ?_)
  first
  | refine wpAny_pure ⟨_, rfl, wpAny_pure (hQ _ ?_ (Heap.SameBut.update ..))⟩
  | refine wpAny_bind (wpAny_pure (wpAny_pure ⟨_, rfl, wpAny_pure (hQ _ ?_ (Heap.SameBut.update ..))⟩))
  exact ⟨_, Heap.get?_update_self _ ho (Obj.isFreed_of_fields (Obj.data_mapFields hd _)), (Obj.cls_mapFields ..).trans hc, by
    rw [Obj.data_mapFields hd]; simp⟩
theorem next_rs_end {it : Addr} {x : Str} {t : Tok} {Q : Option Value → Shared → Prop} (hh : A.handled = none) (hit : IsRs s.heap it x t (-1))
    (hQ : ∀ h', Heap.ExtBut it s.heap h' → Q none { s with heap := h' }) : wpAny (model prog w) A (pyNext (.ref it)) Q E s := by
  obtain ⟨o, ho, hc, hd⟩ := id hit
  unfold pyNext
  refine wpAny_bind (wpAny_attempt (wpAny_callSpecial?_slot (name := Str.ofString "__next__") hit.typeIs RT.slot_rt_next
    (wpAny_call_entry RT.slot_rt_next hit.typeIs RT.entry_rt_next ?_ (RT.args_rt_next _))))
  unfold Builtin.«reversed.__next__»
  refine wpAny_bind (wpAny_of_eq (a := (Value.ref it, [])) rfl ?_)
  try dsimp only
  refine wpAny_bind (wpAny_field ho hd (x := .str x t) rfl ?_)
  try dsimp only
  refine wpAny_bind (wpAny_field ho hd (x := rawInt (-1)) rfl ?_)
  show wpAny _ _ (if (-1 : Int) < 0 then _ else _) _ _ s
  rw [if_pos (by decide)]
  try dsimp only
  refine wpAny_bind (wpAny_rule ?_)
  refine wpAny_bind ?_
  wp_delta
  refine wpAny_bind (wpAny_setField ho hd (by simp) ?_)
  have ho2 := Heap.get?_update_self (Obj.mapFields (·.setIfInBounds 1 (rawInt (-1)))) ho (Obj.isFreed_of_fields (Obj.data_mapFields hd _))
  refine wpAny_setField (s := { s with heap := s.heap.update it (Obj.mapFields (·.setIfInBounds 1 (rawInt (-1)))) }) ho2 (Obj.data_mapFields hd _) (by simp) ?_
  try dsimp only
  first
  | show wpAny _ _ (newExc (.type "StopIteration") [] >>= _) _ _ _
  | (refine wpAny_bind ?_; show wpAny _ _ (newExc (.type "StopIteration") [] >>= _) _ _ _)
  | (refine wpAny_bind ?_; wp_delta; show wpAny _ _ (newExc (.type "StopIteration") [] >>= _) _ _ _)
  refine wpAny_bind ?_
  simp only [newExc, newTuple]
  refine wpAny_bind (wpAny_newObj_type ?_ (by size_fits))
  refine wpAny_bind (m := firstArgMember _ _) (wpAny_of_eq (a := Value.none) (by first | rfl | (simp only [firstArgMember]; rfl)) ?_)
  refine wpAny_newObj_type ?_ (by size_fits)
  simp only [raiseNew]
  refine wpAny_bind (wpAny_handled ?_)
  first | rw [show A.in1.handled = none from hh] | rw [hh]
  refine wpAny_bind (wpAny_pure (wpAny_throw ?_))
  refine wpAny_bind (wpAny_isInstance (T := "StopIteration") (b := true) ⟨_, Heap.get?_push_size _ rfl, rfl⟩ isSubtype_stop ?_)
  refine wpAny_pure (hQ _ ?_)
  refine ((?_ : Heap.ExtBut it s.heap _).push _).push _
  exact fun b ob hb e => (Heap.get?_update_other _ _ (Ne.symm hb)).trans ((Heap.get?_update_other _ _ (Ne.symm hb)).trans e)
theorem iter_rs {it : Addr} {x : Str} {t : Tok} {i : Int} {Q : Value → Shared → Prop} (hit : IsRs s.heap it x t i) (h : Q (.ref it) s) : wpAny (model prog w) A (pyIter (.ref it)) Q E s := by
  refine wpAny_pyIter_slot hit.typeIs RT.slot_rt_iter (wpAny_call_entry RT.slot_rt_iter hit.typeIs RT.entry_rt_iter ?_ (RT.args_rt_iter _))
  show wpAny _ _ (ret (.ref it)) _ _ s
  exact wpAny_pure ⟨_, rfl, "reversed", _, hit.typeIs, RT.slot_rt_next.lookup, h⟩
end
/-! ### as a rule -/
def Itrs (x : Str) : It := ⟨fun i _ => i < x.cps.size, fun i H v H' => H' = H ∧ ∃ c, x.cps[x.cps.size - 1 - i]? = some c ∧ v = .str ⟨#[c]⟩, fun i _ => x.cps.size ≤ i⟩
theorem turn_rs {P : Program} {w : World} {K : PySem.W.Frag} {tg : Expr} (it : Addr) (x : Str) (t : Tok) (hz : x.length ≤ sizeLine) :
    Turn P w K tg (Itrs x) [it] it (fun i h => i ≤ x.cps.size ∧ IsRs h it x t ((x.cps.size : Int) - 1 - (i : Nat))) where
  mem := by simp
  obj := fun i h st b hb => by
    have e : b = it := by simpa using hb
    subst e
    obtain ⟨_, o, e, c, d⟩ := st
    exact ⟨o, e, fun v z => by rw [d] at z; cases z⟩
  keep := fun i h h' st k => ⟨st.1, st.2.at fun o e => k it (by simp) o e⟩
  item := by
    intro X hP hw hK hc i pins s σ H E I hf st hg
    subst hP hw hK
    have hin : i < x.cps.size := hg
    obtain ⟨f0, f1, f2, f3, f4, f5⟩ := hf it (by simp)
    obtain ⟨_, hit⟩ := st
    have e1 : (x.cps.size : Int) - 1 - ((i : Nat) : Int) = ((x.cps.size - 1 - i : Nat) : Int) := by omega
    rw [e1] at hit
    obtain ⟨c, hx⟩ : ∃ c, x.cps[x.cps.size - 1 - i]? = some c := ⟨_, Array.getElem?_eq_getElem (by omega)⟩
    refine next_rs_item hit hx hz fun h' st' sb => ?_
    have e2 : ((x.cps.size - 1 - i : Nat) : Int) - 1 = (x.cps.size : Int) - 1 - ((i + 1 : Nat) : Int) := by omega
    rw [e2] at st'
    have I1 : Inv X pins σ H { s with heap := h', toks := s.toks + 1 + 1 } := I.turned (t' := s.toks + 1 + 1) (fun b o hb e => (sb.2 b hb).trans e) f0 f1 f3 f4 f5
    obtain ⟨o, e, cc, d⟩ := id st'
    exact ⟨_, rfl, go_of (s := { s with heap := h', toks := s.toks + 1 + 1 }) e cc d (by decide) ⟨.str ⟨#[c]⟩, H, I1, ⟨_, rfl⟩, ⟨rfl, c, hx, rfl⟩, ⟨hin, st'⟩, fun b hb => (hf b hb).1⟩⟩
  done := by
    intro X hP hw hK hc i pins s σ H E I hf st hg
    subst hP hw hK
    obtain ⟨f0, f1, f2, f3, f4, f5⟩ := hf it (by simp)
    obtain ⟨hin, hit⟩ := st
    have hge : x.cps.size ≤ i := hg
    have e1 : (x.cps.size : Int) - 1 - ((i : Nat) : Int) = -1 := by omega
    rw [e1] at hit
    exact next_rs_end (I.ok.hd hc) hit fun h' eb => ⟨rfl, I.turned (t' := s.toks) (fun b o hb e => eb b o hb e) f0 f1 f3 f4 f5⟩
  self := fun A i s Q E st h => iter_rs st.2 h
def iRevS (ta : TA) : TI := fun σ H R => ta σ H fun vs H1 => ∃ x, vs = [.str x] ∧ x.length ≤ 100000 ∧ R (Itrs x) H1
section
variable {X : Cx} {tg : Expr}
theorem pi_revS {e : Expr} {ta : TA} {p pos : Pos} (hg : Gl X "reversed") (hm : X.mg "reversed" = none) (ha : PA X [e] ta) (hs : starEach [e] X.env = [(false, eval e X.env)] := by rfl) : PI X tg (.Call (.Name "reversed" p) [e] [] pos) (iRevS ta) := by
  refine ⟨fun pins s σ H R I h => ?_⟩
  refine Call_ (ld_blt I hg hm PyProof.Rows.boot_reversed (PyProof.Rows.callWith_type1 (thn (ha.run pos pins s σ H _ I h) fun us s1 ⟨vs, H1, I1, r1, q1⟩ => ?_) hs rfl))
  obtain ⟨x, e, hz, q⟩ := q1
  subst e
  cases r1 with
  | cons r rr =>
    cases rr
    obtain ⟨t, rfl⟩ := r
    have hn := line63
    have hz' : x.length ≤ sizeLine := le_size hz
    have e1 : ((x.length : Nat) : Int) - 1 = (x.cps.size : Int) - 1 - ((0 : Nat) : Int) := by show ((x.cps.size : Nat) : Int) - 1 = _; omega
    refine call_reversed_str (fun A E Q k => PyProof.Rows.len_str (by omega) k) (iter_rs (i := ((x.length : Nat) : Int) - 1) ⟨_, Heap.get?_push_size _ rfl, rfl, rfl⟩ ?_)
    refine pi_one (tk := s1.toks + 1 + 1) I1 _ (turn_rs _ x t hz') ⟨Nat.zero_le _, ?_⟩ q
    rw [← e1]
    exact ⟨_, Heap.get?_push_size _ rfl, rfl, rfl⟩
end
section
variable {σ : L2.St} {H : Hp} {g : TG} {tb : TS} {nx : L2.St → Hp → Prop} {rt : VK}
theorem r_iRevS {ta : TA} {R : It → Hp → Prop} (q : ta σ H fun vs H1 => ∃ x, vs = [.str x] ∧ x.length ≤ 100000 ∧ R (Itrs x) H1) : iRevS ta σ H R := q
/-- Pv i: the last i signs are done -/
theorem f_revS {z : Str} (hz : z.length ≤ 100000) (Pv : Nat → L2.St → Hp → Prop) (h0 : Pv 0 σ H)
    (hs : ∀ (i c : Nat) σ H, i < z.length → z.cps.toList[z.length - 1 - i]? = some c → Pv i σ H → g (.str (sing c)) σ H fun σ2 H2 => tb ⟨Pv (i + 1), rt, nx, Pv (i + 1)⟩ σ2 H2) (hd : ∀ σ H, Pv z.length σ H → nx σ H) :
    ∃ x, [V.str z] = [V.str x] ∧ x.length ≤ 100000 ∧ ∃ W : Nat → Nat → L2.St → Hp → Prop, (∃ m, W 0 m σ H) ∧ ∀ i m σ H, W i m σ H →
      ((Itrs x).stop i H ∧ nx σ H) ∨ ((Itrs x).go i H ∧ ∃ N : L2.St → Hp → Prop, (∀ σ' H', N σ' H' → ∃ m', m' < m ∧ W (i + 1) m' σ' H') ∧ ∀ x_1 H', (Itrs x).yld i H x_1 H' → g x_1 σ H' fun σ2 H2 => tb ⟨N, rt, nx, N⟩ σ2 H2) := by
  refine ⟨z, rfl, hz, fun i m σ H => i + m = z.length ∧ Pv i σ H, ⟨z.length, Nat.zero_add _, h0⟩, ?_⟩
  rintro i m σ H ⟨em, p⟩
  by_cases hi : i < z.length
  · refine .inr ⟨hi, Pv (i + 1), fun σ' H' p' => ⟨m - 1, by omega, by omega, p'⟩, ?_⟩
    rintro x H' ⟨rfl, c, hc, rfl⟩
    exact hs i c σ H' hi (by rw [Array.getElem?_toList]; exact hc) p
  · have ei : i = z.length := by omega
    subst ei
    exact .inl ⟨Nat.le_refl _, hd σ H p⟩
/-- while: Pv m, m what is left -/
theorem r_while {tc : TT} {D : Ends} (Pv : Nat → L2.St → Hp → Prop) (m : Nat) (h0 : Pv m σ H)
    (hs : ∀ m σ H, Pv m σ H → tc σ H fun b H1 => if b = true then ∃ N : L2.St → Hp → Prop, (∀ σ' H', N σ' H' → ∃ m', m' < m ∧ Pv m' σ' H') ∧ tb { D with nx := N, ct := N, bk := D.nx } σ H1 else D.nx σ H1) : tWhile tc tb D σ H :=
  ⟨Pv, ⟨m, h0⟩, hs⟩
end
/-! ### enumerate(text) -/
def Ites (x : Str) : It :=
  ⟨fun i _ => i < x.cps.size, fun i H v H' => ∃ T c, v = .ref T ∧ H T = none ∧ H' = upd H T (.tup [.int (i : Nat), .str ⟨#[c]⟩]) ∧ x.cps[i]? = some c, fun i _ => x.cps.size ≤ i⟩
theorem turn_enumS {P : Program} {w : World} {K : PySem.W.Frag} {elts : List Expr} {kk : Nat} {tpos : Pos} (x : Str) (t : Tok) (e it : Addr) (ty : String) (hty : ty = "str_ascii_iterator" ∨ ty = "str_iterator") :
    Turn P w K (.Tuple elts kk tpos) (Ites x) [e, it] e (fun i h => (∃ old, IsEnum h e it ((i : Nat) : Int) old) ∧ (h.IsStrIter it ty x t i ∧ i ≤ x.cps.size) ∧ e ≠ it) where
  mem := by simp
  obj := fun i h st b hb => by
    obtain ⟨⟨old, he⟩, ⟨⟨o, ho, hc, hd⟩, _⟩, _⟩ := st
    have e' : b = e ∨ b = it := by simpa using hb
    rcases e' with z | z
    · rw [z]; exact ⟨_, he, fun v q => nomatch q⟩
    · rw [z]; exact ⟨o, ho, fun v q => by rw [hd] at q; cases q⟩
  keep := fun i h h' st k => by
    obtain ⟨⟨old, he⟩, ⟨⟨o, ho, r⟩, hl⟩, hne⟩ := st
    exact ⟨⟨old, k e (by simp) _ he⟩, ⟨⟨o, k it (by simp) o ho, r⟩, hl⟩, hne⟩
  item := by
    intro X hP hw hK hc i pins s σ H E I hf st hg
    subst hP hw hK
    obtain ⟨⟨old, he⟩, ⟨hit, _⟩, hne⟩ := st
    have hin : i < x.cps.size := hg
    have D : Draws X.prog X.w X.A.in1 it [it] x.cps.size (SignAt x) (fun i h => h.IsStrIter it ty x t i) := by
      rcases hty with z | z
      · rw [z]; exact Draws.strAscii (show X.A.in1.handled = none from I.ok.hd hc) it x t
      · rw [z]; exact Draws.strWide (show X.A.in1.handled = none from I.ok.hd hc) it x t
    have hel : e < s.heap.objs.size := Heap.lt_size he
    have hil : it < s.heap.objs.size := by obtain ⟨_, q, _⟩ := hit; exact Heap.lt_size q
    refine wpAny_pyNext_enum_itemD D he hit hin hne (by simpa using hne) fun u h' tk hP ho hit' hT hsz hk => ?_
    obtain ⟨c, t2, hcx, rfl⟩ := hP
    refine ⟨_, rfl, wpAny_letOwnedTupleGo_enum (s := { s with heap := h', toks := tk + 1 }) ho fun h'' he' sb => ?_⟩
    have hT2 : h''.get? s.heap.objs.size = some { cls := .type "tuple", data := .seq #[.int i tk, .str ⟨#[c]⟩ t2] } := (sb.2 _ (Nat.ne_of_gt hel)).trans hT
    have new : ObjOk X.prog X.w (upd H s.heap.objs.size (.tup [.int (i : Nat), .str ⟨#[c]⟩])) h'' s.heap.objs.size (.tup [.int (i : Nat), .str ⟨#[c]⟩]) :=
      ⟨by show 2 ≤ sizeLine; decide, [.int i tk, .str ⟨#[c]⟩ t2], .cons ⟨_, rfl⟩ (.cons ⟨_, rfl⟩ .nil), ⟨_, hT2, rfl, _, rfl⟩⟩
    have I1 : Inv X pins σ (upd H s.heap.objs.size (.tup [.int (i : Nat), .str ⟨#[c]⟩])) { s with heap := h'', toks := tk + 1 } :=
      I.turnedNew (ch := [e, it]) (fun b ob hb q => (sb.2 b (fun z => hb (by simp [z]))).trans (hk b ob (fun z => hb (by simp [z])) (fun z => hb (by simp [z])) q)) hf (Nat.le_refl _) new
    have hit2 : h''.IsStrIter it ty x t (i + 1) := by
      obtain ⟨o, q, r⟩ := hit'
      exact ⟨o, (sb.2 it (Ne.symm hne)).trans q, r⟩
    refine ⟨.ref s.heap.objs.size, _, I1, rfl, ⟨_, c, rfl, I.hok.fresh (Nat.le_refl _), rfl, hcx⟩, ⟨⟨.str ⟨#[c]⟩ t2, ?_⟩, ⟨hit2, hin⟩, hne⟩, fun b hb => ?_⟩
    · have e1 : ((i + 1 : Nat) : Int) = (i : Int) + 1 := by omega
      rw [e1]; exact he'
    · have hb' : b < s.heap.objs.size := by
        have e' : b = e ∨ b = it := by simpa using hb
        rcases e' with z | z
        · rw [z]; exact hel
        · rw [z]; exact hil
      rw [upd_ne (Nat.ne_of_lt hb')]
      exact (hf b hb).1
  done := by
    intro X hP hw hK hc i pins s σ H E I hf st hg
    subst hP hw hK
    obtain ⟨⟨old, he⟩, ⟨hit, hle⟩, hne⟩ := st
    have D : Draws X.prog X.w X.A.in1 it [it] x.cps.size (SignAt x) (fun i h => h.IsStrIter it ty x t i) := by
      rcases hty with z | z
      · rw [z]; exact Draws.strAscii (show X.A.in1.handled = none from I.ok.hd hc) it x t
      · rw [z]; exact Draws.strWide (show X.A.in1.handled = none from I.ok.hd hc) it x t
    obtain ⟨f0, f1, f2, f3, f4, f5⟩ := hf it (by simp)
    have ei : i = x.cps.size := Nat.le_antisymm hle hg
    subst ei
    exact wpAny_pyNext_enum_endD D he hit fun h' eb => ⟨rfl, I.turned (t' := s.toks) (fun b o hb q => eb b o hb q) f0 f1 f3 f4 f5⟩
  self := fun A i s Q E st h => let ⟨⟨_, he⟩, _⟩ := st; wpAny_pyIter_enum he h
def iEnumS (ta : TA) : TI := fun σ H R => ta σ H fun vs H1 => ∃ x, vs = [.str x] ∧ R (Ites x) H1
theorem pi_enumS {X : Cx} {e : Expr} {ta : TA} {p pos tpos : Pos} {elts : List Expr} {kk : Nat} (hg : Gl X "enumerate") (hm : X.mg "enumerate" = none) (ha : PA X [e] ta) (hs : starEach [e] X.env = [(false, eval e X.env)] := by rfl) :
    PI X (.Tuple elts kk tpos) (.Call (.Name "enumerate" p) [e] [] pos) (iEnumS ta) := by
  refine ⟨fun pins s σ H R I h => ?_⟩
  refine Call_ (ld_blt I hg hm boot_enumerate (PyProof.Rows.callWith_type1 (thn (ha.run pos pins s σ H _ I h) fun us s1 ⟨vs, H1, I1, r1, q1⟩ => ?_) hs rfl))
  obtain ⟨x, ex, q⟩ := q1
  subst ex
  cases r1 with
  | cons r rr =>
    cases rr
    obtain ⟨t, rfl⟩ := r
    refine call_enumerate_str fun h' he hit hsz hk => wpAny_pyIter_enum he ?_
    have I2 : Inv X pins σ H1 { s1 with heap := h' } := I1.kept (t' := s1.toks) hk
    have hty : strIterType x = "str_ascii_iterator" ∨ strIterType x = "str_iterator" := by
      unfold strIterType
      split
      · exact .inl rfl
      · exact .inr rfl
    refine ⟨s1.heap.objs.size + 1, [s1.heap.objs.size + 1, s1.heap.objs.size], _, _, H1, rfl, I2, turn_enumS x t (s1.heap.objs.size + 1) s1.heap.objs.size _ hty, ⟨⟨.none, he⟩, ⟨hit, Nat.zero_le _⟩, Nat.succ_ne_self _⟩, fun b hb => ?_, q⟩
    have e' : b = s1.heap.objs.size + 1 ∨ b = s1.heap.objs.size := by simpa using hb
    have hle : s1.heap.objs.size ≤ b := by
      rcases e' with z | z
      · rw [z]; exact Nat.le_add_right _ _
      · rw [z]; exact Nat.le_refl _
    exact I1.fpOk hle (I1.hok.fresh hle)
section
variable {σ : L2.St} {H : Hp} {g : TG} {tb : TS} {nx : L2.St → Hp → Prop} {rt : VK}
theorem r_iEnumS {ta : TA} {R : It → Hp → Prop} (q : ta σ H fun vs H1 => ∃ x, vs = [.str x] ∧ R (Ites x) H1) : iEnumS ta σ H R := q
theorem f_enumS {z : Str} (Pv : Nat → L2.St → Hp → Prop) (h0 : Pv 0 σ H)
    (hs : ∀ (i c : Nat) σ H T H', z.cps.toList[i]? = some c → Pv i σ H → H T = none → Same H H' → H' T = some (.tup [.int (i : Nat), .str (sing c)]) → g (.ref T) σ H' fun σ2 H2 => tb ⟨Pv (i + 1), rt, nx, Pv (i + 1)⟩ σ2 H2) (hd : ∀ σ H, Pv z.length σ H → nx σ H) :
    ∃ x, [V.str z] = [V.str x] ∧ ∃ W : Nat → Nat → L2.St → Hp → Prop, (∃ m, W 0 m σ H) ∧ ∀ i m σ H, W i m σ H →
      ((Ites x).stop i H ∧ nx σ H) ∨ ((Ites x).go i H ∧ ∃ N : L2.St → Hp → Prop, (∀ σ' H', N σ' H' → ∃ m', m' < m ∧ W (i + 1) m' σ' H') ∧ ∀ x_1 H', (Ites x).yld i H x_1 H' → g x_1 σ H' fun σ2 H2 => tb ⟨N, rt, nx, N⟩ σ2 H2) := by
  refine ⟨z, rfl, fun i m σ H => i + m = z.length ∧ Pv i σ H, ⟨z.length, Nat.zero_add _, h0⟩, ?_⟩
  rintro i m σ H ⟨em, p⟩
  by_cases hi : i < z.length
  · refine .inr ⟨hi, Pv (i + 1), fun σ' H' p' => ⟨m - 1, by omega, by omega, p'⟩, ?_⟩
    rintro x H' ⟨T, c, rfl, hT, rfl, hc⟩
    exact hs i c σ H T _ (by rw [Array.getElem?_toList]; exact hc) p hT (same_new hT) upd_same
  · have ei : i = z.length := by omega
    subst ei
    exact .inl ⟨Nat.le_refl _, hd σ H p⟩
end
/-! ### comprehensions that lay new objects -/
section
variable {K : PySem.W.Frag} {σ : L2.St} {H : Hp} {g : TG} {tt : TT} {te : TE} {vs : List Nat} {Qd : Addr → Hp → Prop}
theorem c_listE {a : Addr} {xs : List V} (ha : H a = some (.lst xs)) (hz : xs.length ≤ 100000) (Pe : Addr → Hp → Nat → V → Prop) (mono : ∀ D H H' i y, But D H H' → Pe D H i y → Pe D H' i y)
    (turn : ∀ D acc i x H', xs[i]? = some x → H D = none → Same H H' → H' D = some (.lst acc) → ∀ (Ky : VK) (Kn : Hp → Prop), (∀ y H4, Same H' H4 → Pe D H4 i y → Ky y H4) →
      g x (wipe σ vs) H' fun σ2 H2 => wipe σ2 vs = wipe σ vs ∧ tt σ2 H2 fun b H3 => if b = true then te σ2 H3 Ky else Kn H3)
    (q : ∀ p ys H', H p = none → Same H H' → H' p = some (.lst ys) → ys.length = xs.length → (∀ i y, ys[i]? = some y → Pe p H' i y) → Qd p H') :
    ∃ a', V.ref a = .ref a' ∧ (∃ xs, SqL K H a' xs) ∧ ∀ D, H D = none → ∃ W : Nat → Nat → Hp → Prop, (∃ m, W 0 m (upd H D (.lst []))) ∧ ∀ i m H, W i m H →
      ((Itl K a').stop i H ∧ Qd D H) ∨ ((Itl K a').go i H ∧ ∃ Nx : Hp → Prop, (∀ H', Nx H' → ∃ m', m' < m ∧ W (i + 1) m' H') ∧ ∀ x_1 H', (Itl K a').yld i H x_1 H' → g x_1 (wipe σ vs) H' fun σ2 H2 => wipe σ2 vs = wipe σ vs ∧ tt σ2 H2 fun b H3 =>
        if b = true then te σ2 H3 fun y H4 => ∃ acc, H4 D = some (.lst acc) ∧ acc.length < sizeLine ∧ Nx (upd H4 D (.lst (acc ++ [y]))) else Nx H3) := by
  refine ⟨a, rfl, ⟨xs, SqL.of ha⟩, fun D hD => ?_⟩
  refine lc_list (K := K) (xs := xs) (fun i H' => ∃ acc, Same H H' ∧ H' D = some (.lst acc) ∧ acc.length = i ∧ ∀ j y, acc[j]? = some y → Pe D H' j y) ⟨[], same_new hD, upd_same, rfl, fun j y h => by simp at h⟩ (fun i H' _ ⟨acc, s, _⟩ => SqL.of (s _ _ ha)) (fun i x H' hx ⟨acc, s, e, el, pe⟩ => ?_) (fun H' ⟨acc, s, e, el, pe⟩ => q D acc H' hD s e el pe)
  have hi : i < xs.length := (List.getElem?_eq_some_iff.mp hx).1
  refine turn D acc i x H' hx hD s e _ _ fun y H4 s4 p4 => ?_
  have b4 : But D H4 (upd H4 D (.lst (acc ++ [y]))) := but_upd
  refine ⟨acc, s4 _ _ e, lt_size (by omega), acc ++ [y], b4.same (s.trans s4) hD, upd_same, by rw [List.length_append, el]; rfl, fun j z hz => ?_⟩
  by_cases hj : j < acc.length
  · rw [List.getElem?_append_left hj] at hz
    exact mono _ _ _ _ _ b4 (mono _ _ _ _ _ (fun b o _ e => s4 b o e) (pe j z hz))
  · have hj2 : j = acc.length := by
      have := (List.getElem?_eq_some_iff.mp hz).1
      rw [List.length_append, List.length_singleton] at this
      omega
    subst hj2
    rw [List.getElem?_append_right (Nat.le_refl _), Nat.sub_self] at hz
    have : y = z := by simpa using hz
    subst this
    rw [el]
    exact mono _ _ _ _ _ b4 p4
end
/-! ### for x in reversed(list) -/
section
variable {K : PySem.W.Frag} {σ : L2.St} {H : Hp} {g : TG} {tb : TS} {nx : L2.St → Hp → Prop} {rt : VK}
theorem r_iRev {ta : TA} {R : It → Hp → Prop} (q : ta σ H fun vs H1 => ∃ (a : Addr) (xs : List V), vs = [.ref a] ∧ SqL K H1 a xs ∧ R (Itv K a xs.length) H1) : iRev K ta σ H R := q
theorem f_rev {a : Addr} {xs : List V} (h : H a = some (.lst xs)) (Pv : Nat → L2.St → Hp → Prop) (h0 : Pv 0 σ H) (hl : ∀ i σ H, i ≤ xs.length → Pv i σ H → H a = some (.lst xs))
    (hs : ∀ i x σ H, i < xs.length → xs[xs.length - 1 - i]? = some x → Pv i σ H → g x σ H fun σ2 H2 => tb ⟨Pv (i + 1), rt, nx, Pv (i + 1)⟩ σ2 H2) (hd : ∀ σ H, Pv xs.length σ H → nx σ H) :
    ∃ (a' : Addr) (xs' : List V), [V.ref a] = [.ref a'] ∧ SqL K H a' xs' ∧ ∃ W : Nat → Nat → L2.St → Hp → Prop, (∃ m, W 0 m σ H) ∧ ∀ i m σ H, W i m σ H →
      ((Itv K a' xs'.length).stop i H ∧ nx σ H) ∨ ((Itv K a' xs'.length).go i H ∧ ∃ N : L2.St → Hp → Prop, (∀ σ' H', N σ' H' → ∃ m', m' < m ∧ W (i + 1) m' σ' H') ∧ ∀ x_1 H', (Itv K a' xs'.length).yld i H x_1 H' → g x_1 σ H' fun σ2 H2 => tb ⟨N, rt, nx, N⟩ σ2 H2) := by
  refine ⟨a, xs, rfl, SqL.of h, fun i m σ H => i + m = xs.length ∧ Pv i σ H, ⟨xs.length, Nat.zero_add _, h0⟩, ?_⟩
  rintro i m σ H ⟨em, p⟩
  by_cases hi : i < xs.length
  · have ha := hl i σ H (by omega) p
    refine .inr ⟨⟨hi, xs, xs[xs.length - 1 - i]'(by omega), SqL.of ha, List.getElem?_eq_getElem _⟩, Pv (i + 1), fun σ' H' p' => ⟨m - 1, by omega, by omega, p'⟩, ?_⟩
    rintro x H' ⟨rfl, f⟩
    exact hs i x σ H' hi (f xs (SqL.of ha)) p
  · have ei : i = xs.length := by omega
    subst ei
    exact .inl ⟨Nat.le_refl _, hd σ H p⟩
end
/-! ### a block cut in two -/
section
variable {X : Cx}
def tMid (t u : TS) : TS := fun D σ H => ∃ Mid : L2.St → Hp → Prop, t { D with nx := Mid } σ H ∧ ∀ σ' H', Mid σ' H' → u D σ' H'
theorem r_mid {t u : TS} {D : Ends} {σ : L2.St} {H : Hp} (Mid : L2.St → Hp → Prop) (h1 : t { D with nx := Mid } σ H) (h2 : ∀ σ' H', Mid σ' H' → u D σ' H') : tMid t u D σ H := ⟨Mid, h1, h2⟩
theorem pss_mid {st : Stmt} {rest : List Stmt} {t u : TS} (h1 : PS X st t) (h2 : PSs X rest u) : PSs X (st :: rest) (tMid t u) := by
  refine ⟨fun pins s σ H D I h => ?_⟩
  obtain ⟨Mid, hm, hu⟩ := h
  refine wpAny_execs_cons (thn (h1.run pins s σ H { D with nx := Mid } I hm) fun f s1 q => ?_)
  cases f with
  | next =>
    obtain ⟨σ', H', I', q⟩ := q
    exact h2.run pins s1 σ' H' D I' (hu σ' H' q)
  | ret v => exact q
  | brk => exact q
  | cont => exact q
end
/-! ### insert, index -/
def mInsert : V → List V → Hp → VK → Prop := fun x vs H Q => ∃ (l : Addr) (xs : List V) (i : Int) (y : V), x = .ref l ∧ vs = [.int i, y] ∧ H l = some (.lst xs) ∧ xs.length < sizeLine ∧ 0 ≤ i ∧ i < 2 ^ 63 ∧
    ∀ H', But l H H' → H' l = some (.lst (xs.take i.toNat ++ [y] ++ xs.drop i.toNat)) → Q .non H'
theorem mt_insertN {X : Cx} : MtR X "list.insert" mInsert := mtr_imp mt_insert fun x vs H Q ⟨l, xs, i, y, h1, h2, h3, h4, h5, h6, q⟩ => ⟨l, xs, i, y, h1, h2, h3, h4, h5, h6, q _ but_upd upd_same⟩
theorem r_ins0 {H : Hp} {Q : VK} {l : Addr} {xs : List V} {y : V} (h : H l = some (.lst xs)) (hl : xs.length < sizeLine) (q : ∀ H', But l H H' → H' l = some (.lst (y :: xs)) → Q .non H') : mInsert (.ref l) [.int 0, y] H Q :=
  ⟨l, xs, 0, y, rfl, rfl, h, hl, by decide, by decide, q⟩
def mIndex : V → List V → Hp → VK → Prop := fun x vs H Q => ∃ (a : Str) (c : Nat), x = .str a ∧ vs = [.str ⟨#[c]⟩] ∧ c ∈ a.cps.toList ∧ ∀ i : Nat, a.cps.toList[i]? = some c → Q (.int i) H
theorem mt_indexN {X : Cx} : MtR X "str.index" mIndex := mtr_imp mt_sindex fun x vs H Q ⟨a, c, h1, h2, h3, q⟩ => by
  have f := PySem.StrLaws.found_one a c
  rw [decide_eq_true h3] at f
  cases e : Builtin.Str.occurrences a ⟨#[c]⟩ 0 a.length 1 with
  | nil =>
    rw [e] at f
    cases f
  | cons i rest =>
    have sp := PySem.StrLaws.occ_spec a ⟨#[c]⟩ 0 a.length 1 i (by rw [e]; exact List.mem_cons_self)
    exact ⟨a, ⟨#[c]⟩, i, rest, h1, h2, e, q i ((PySem.StrLaws.subAt_one a c i).mp sp)⟩
end Z

/-! exceptions: defs that raise, own classes with an __init__ of two statements, defs called in a suite with the exception in hand -/
namespace Z
open PySem PySem.Spec PyProof.Rows L2

/-! ### defs that raise -/
structure OkX (P : Program) (w : World) (K : PySem.W.Frag) (mg : Str → Option Value) (base : Heap) (x : Str) (k : Nat) (ps : List Str) (sp : Sp) : Prop where
  ex : ∃ (f : Addr) (fd : FuncData), FnOk P w K mg base (L2.CX P w) k f fd ps sp ∧ Binds K fd ps [] ∧ mg x = some (.ref f) ∧ PySem.W.keepIn K (.ref f) = true
section
variable {P : Program} {w : World} {K : PySem.W.Frag} {mg : Str → Option Value} {base : Heap}
/-- THE RULE for a def that may raise -/
theorem Df.okX {x : Str} {st : Stmt} {N ps : List Str} {k : Nat} {sp : Sp} (F : Df K mg x st ps) (S : FnScope N ps (defScope st)) (len : ∀ vs H Q E, sp vs H Q E → vs.length = ps.length)
    (hbody : ∀ (f : Addr) (cdv : Value) (A : Around) (outer : List Env) (s : Shared) (H : Hp) (vs : List V) (Q : VK) (E : XK), Room k (A.deeper (envOfC x (defScope st) s.heap.objs.size f cdv)) → sp vs H Q E →
      ∃ t, PSs (cxOf (L2.CX P w) P w K mg base N x (defScope st) f cdv A outer s H E) (defBody st) t ∧ t { nx := fun _ H' => Q .non H', rt := Q } (start N vs) H) : OkX P w K mg base x (k + 1) ps sp := by
  obtain ⟨f, fd, F, b, m⟩ := F.ex
  exact ⟨f, fd, F.okX S len fun cdv A outer s H vs Q E hr h => hbody f cdv A outer s H vs Q E hr h, b, m, F.kp⟩
theorem OkX.mono {x : Str} {ps : List Str} {j k : Nat} {sp : Sp} (o : OkX P w K mg base x j ps sp) (h : j ≤ k) : OkX P w K mg base x k ps sp := by
  obtain ⟨f, fd, F, b, m, kp⟩ := o.ex
  exact ⟨f, fd, F.mono h, b, m, kp⟩
end
def tClX (sp : Sp) (W : WX) (t : TA) : TE := fun σ H Q => t σ H fun vs H1 => sp vs H1 Q fun cls d H' => W cls d σ H'
theorem pe_clX {X : Cx} {x : Str} {ps : List Str} {k : Nat} {sp : Sp} {W : WX} {e : Expr} {es : List Expr} {t : TA} {p pos : Pos} (o : OkX X.prog X.w X.K X.mg X.base x k ps sp) (hr : Room k X.A) (tk : Takes X W) (hg : Gl X x) (ha : PA X (e :: es) t)
    (hdb : (x == ("__debug__" : Str)) = false := by decide) (he : starEach (e :: es) X.env = (false, eval e X.env) :: starEach es X.env := by rfl) (hpl : (backTo pos (starEach es X.env)).any (·.1) = false := by rfl) :
    PE X (.Call (.Name x p) (e :: es) [] pos) (tClX sp W t) := by
  obtain ⟨f, fd, F, b, m, kp⟩ := o.ex
  exact pe_callS F hr hg m kp b (fun σ => passAt tk σ) ha hdb he hpl
theorem r_clX {sp : Sp} {W : WX} {t : TA} {σ : L2.St} {H : Hp} {Q : VK} (q : t σ H fun vs H1 => sp vs H1 Q fun cls d H' => W cls d σ H') : tClX sp W t σ H Q := q
/-- what a def lets out -/
abbrev wDef (E : XK) : WX := fun cls d _ H => E cls d H

/-! ### raise of a class without an own __init__ -/
def tRaiseP (C : Addr) (W : WX) : TS := fun _ σ H => W (.ref C) none σ H
theorem ps_raiseP {X : Cx} {W : WX} {C : Addr} {x m : Str} {j : Nat} {p p2 pos pos2 : Pos} (hc : X.calm = true) (tk : Takes X W) (q : PySem.W.excIn X.K C [.type "ValueError", .type "Exception", .type "BaseException", .type "object"] "ValueError.__new__" = true) (gC : X.mg x = some (.ref C)) (kC : PySem.W.keepIn X.K (.ref C) = true)
    (h1 : PySem.W.subIn X.K (.ref C) (.type "BaseException") = some true) (h2 : PySem.W.typeIn X.K (.ref C) = some (.type "type")) (hg : Gl X x) (hdb : (x == ("__debug__" : Str)) = false := by decide) :
    PS X (.Raise (some (.Call (.Name x p) [.Constant (.str m) j p2] [] pos)) none pos2) (tRaiseP C W) :=
  ps_raise hc tk (pmk_own PySem.F.excBase_ValueError q gC kC (raises_own h1 h2) hg hdb)
theorem r_raiseP {C : Addr} {W : WX} {D : Ends} {σ : L2.St} {H : Hp} (q : W (.ref C) none σ H) : tRaiseP C W D σ H := q

/-! ### a class whose __init__ calls its base's, then stores one field -/
/-- the base's __init__, read off the class -/
structure BaseI (K : PySem.W.Frag) (C : Addr) : Prop where
  rd : PySem.W.readsIn K C (.type "type") = true
  ga : PySem.W.specialIn K (.ref C) "__getattribute__" = some (some (.builtin "type.__getattribute__"))
  at_ : PySem.W.findCls K (.ref C) (.type "type") "__init__" = some (.val (.builtin "ValueError.__init__"))
/-- Base.__init__(self, ..) -/
theorem pe_bini {X : Cx} {C0 : Addr} {n : Str} {e : Expr} {es : List Expr} {ta : TA} {p1 p2 pos : Pos} {pl : Sem Bool} (T : BaseI X.K C0) (hg : Gl X n) (hm : X.mg n = some (.ref C0)) (ha : PA X (e :: es) ta) (hdb : (n == ("__debug__" : Str)) = false := by decide)
    (hc : eval (.Call (.Attribute (.Name n p1) "__init__" p2) (e :: es) [] pos) X.env = (do
      let ov ← eval (.Name n p1) X.env
      standAt p2.atName
      let (f, first) ← holding [ov] (getMethod ov "__init__" pl)
      callWith pos f first (backTo pos (starEach (e :: es) X.env)) (backToKw pos (keywordEach [] X.env))) := by rfl)
    (he : starEach (e :: es) X.env = (false, eval e X.env) :: starEach es X.env := by rfl) (hpl : (backTo pos (starEach es X.env)).any (·.1) = false := by rfl) :
    PE X (.Call (.Attribute (.Name n p1) "__init__" p2) (e :: es) [] pos) (tVeI X.K ta) := by
  refine ⟨fun pins s σ H Q I h => ?_⟩
  refine PySem.W.methodCall_KW (ld_glob I hg hm ?_ hdb) hc
  refine PySem.W.method_cls I.kIn T.ga (PySem.W.cls_value I.kIn T.rd T.at_ (by decide +kernel) ?_)
  show wpAny _ _ (callWith pos (Value.builtin "ValueError.__init__") [] (backTo pos (starEach (e :: es) X.env)) []) _ _ _
  refine PyProof.Rows.callWith_method1 (thn (ha.run pos pins _ σ H _ (I.tok _) h) fun us s1 ⟨vs, H1, I1, r1, a, C, ws, ev, hl, T, ea, q⟩ => ?_) he hpl
  subst ev
  cases r1 with
  | @cons _ u0 _ ur ra rw' =>
    obtain rfl : u0 = Value.ref a := ra
    have hlen : ur.length ≤ sizeLine := by
      rw [← Paired.length rw', sizeLine_eq]
      omega
    exact oinit_ok T I1 ea hlen fun s' J => ⟨.non, H1, J, rfl, q⟩
/-- what such an __init__ promises -/
def spInit (K : PySem.W.Frag) (C : Addr) (f : Str) : Sp := fun vs H Q _ => ∃ (a : Addr) (v : V), vs = [.ref a, v] ∧ H a = some (exo a C none) ∧ ∀ dx, H dx = none → dx ≠ a → Q .non (upd (upd H dx (exd dx [(f, v)])) a (exo a C (some dx)))
/-- the def of such an __init__, as it stands -/
theorem ok_init {P : Program} {w : World} {K : PySem.W.Frag} {mg : Str → Option Value} {base : Heap} {C fI : Addr} {fd : FuncData} {q f : Str} {st : Stmt} {N ps : List Str} {k : Nat} {m : Str} (F : Fun K "__init__" q st fI fd) (S : FnScope N ps (defScope st))
    (hN : N = [("self" : Str), f]) (hp : ps = [("self" : Str), f])
    (T : OexC K C) (hno : PySem.W.findIn K (.ref C) f = some none)
    (hbody : ∀ (A : Around) (outer : List Env) (s : Shared) (H : Hp) (E : XK) (cdv : Value), PSs (cxOf CX0 P w K mg base N q (defScope st) fI cdv A outer s H E).nox (defBody st) (tSeq (tDrop (tVeI K (tCons (tVar 0) (tCons (tC (.str m)) tNil)))) (tOst K f (tVar 0) (tVar 1)))) :
    FnOk P w K mg base CX0 (k + 1) fI fd ps (spInit K C f) := by
  refine F.ok S (fun vs H Q E h => ?_) (fun cdv A outer s H vs Q E hr h => ?_)
  · obtain ⟨a, v, rfl, _⟩ := h
    rw [hp]
    rfl
  · obtain ⟨a, v, rfl, ha, h⟩ := h
    refine ⟨_, hbody A outer s H E cdv, ?_⟩
    subst hN
    exact ⟨_, rfl, a, C, [.str m], rfl, (show 1 ≤ 1000 by decide), T, ha, _, rfl, _, rfl, a, C, rfl, T, hno, .inl ⟨ha, fun dx n ne => h dx n ne⟩⟩
def tRaiseO (K : PySem.W.Frag) (C : Addr) (f : Str) (W : WX) (ta : TA) : TS := fun _ σ H => tMkO C (spInit K C f) [] ta σ H fun cls d H' => W cls d σ H'
theorem ps_raiseO (K : PySem.W.Frag) {X : Cx} {W : WX} {C fI : Addr} {fd : FuncData} {x f : Str} {ps : List Str} {k : Nat} {e : Expr} {ta : TA} {p pos pos2 : Pos} (hc : X.calm = true) (tk : Takes X W) (T : OexC K C) (iC : PySem.W.findIn K (.ref C) "__init__" = some (some (.ref fI))) (tI : PySem.W.typeIn K (.ref fI) = some (.type "function"))
    (F1 : FnOk X.prog X.w X.K X.mg X.base CX0 k fI fd ps (spInit K C f)) (hr : Room (k + 1) X.A) (hb : Binds X.K fd ps []) (hm : X.mg x = some (.ref C)) (hg : Gl X x) (ha : PA X [e] ta) (hk : X.K = K := by rfl)
    (hdb : (x == ("__debug__" : Str)) = false := by decide) (he : starEach (e :: []) X.env = (false, eval e X.env) :: starEach [] X.env := by rfl) (hpl : (backTo pos (starEach [] X.env)).any (·.1) = false := by rfl) :
    PS X (.Raise (some (.Call (.Name x p) [e] [] pos)) none pos2) (tRaiseO K C f W ta) := by
  subst hk
  exact ps_raise hc tk (pmk_oex T iC tI F1 hr hb .nil pass0 hg hm ha hdb he hpl)
theorem r_raiseO {K : PySem.W.Frag} {C : Addr} {f : Str} {W : WX} {ta : TA} {D : Ends} {σ : L2.St} {H : Hp} (q : ta σ H fun vs H1 => ∃ v, vs = [v] ∧ ∀ d H2, H1 d = none → Same H1 H2 → H2 d = some (.xd [(f, v)]) → W (.ref C) (some d) σ H2)
    (mono : ∀ q1 q2 : List V → Hp → Prop, (∀ vs H1, q1 vs H1 → q2 vs H1) → ta σ H q1 → ta σ H q2) : tRaiseO K C f W ta D σ H := by
  refine mono _ _ (fun vs H1 ⟨v, ev, h⟩ => ?_) q
  subst ev
  refine ⟨by show 1 ≤ 1000; decide, fun a na => ⟨a, v, rfl, upd_same, fun dx nd ne => ⟨rfl, dx, [(f, v)], upd_same, by rw [upd_ne ne, upd_same], ?_, ?_⟩⟩⟩
  · rw [upd_ne ne] at nd
    exact nd
  · have nd' : H1 dx = none := by
      rw [upd_ne ne] at nd
      exact nd
    refine h dx _ nd' (fun b o e => ?_) upd_same
    rw [upd_ne (ne_of_none e nd'), del_ne (ne_of_none e na), upd_ne (ne_of_none e na), upd_ne (ne_of_none e nd'), upd_ne (ne_of_none e na)]
    exact e
/-- one argument, a name or a number of which the reading is plain -/
theorem r_raiseO1 {K : PySem.W.Frag} {C : Addr} {f : Str} {W : WX} {te : TE} {D : Ends} {σ : L2.St} {H : Hp} (mono : ∀ q1 q2 : VK, (∀ v H1, q1 v H1 → q2 v H1) → te σ H q1 → te σ H q2) (q : te σ H fun v H1 => ∀ d H2, H1 d = none → Same H1 H2 → H2 d = some (.xd [(f, v)]) → W (.ref C) (some d) σ H2) : tRaiseO K C f W (tCons te tNil) D σ H :=
  r_raiseO (mono _ _ (fun v H1 h => ⟨v, rfl, h⟩) q) fun q1 q2 h z => mono _ _ (fun v H1 y => h _ _ y) z

/-- C's own __init__ keeps its promise -/
structure InitOk (P : Program) (w : World) (K : PySem.W.Frag) (mg : Str → Option Value) (base : Heap) (C : Addr) (f : Str) (k : Nat) : Prop where
  ex : ∃ (j : Nat) (fI : Addr) (fd : FuncData) (ps : List Str), j + 1 ≤ k ∧ PySem.W.findIn K (.ref C) "__init__" = some (some (.ref fI)) ∧ PySem.W.typeIn K (.ref fI) = some (.type "function") ∧ FnOk P w K mg base CX0 j fI fd ps (spInit K C f) ∧ Binds K fd ps []
theorem InitOk.mono {P : Program} {w : World} {K : PySem.W.Frag} {mg : Str → Option Value} {base : Heap} {C : Addr} {f : Str} {j k : Nat} (i : InitOk P w K mg base C f j) (h : j ≤ k) : InitOk P w K mg base C f k := by
  obtain ⟨l, fI, fd, ps, hl, a, b, F, c⟩ := i.ex
  exact ⟨l, fI, fd, ps, Nat.le_trans hl h, a, b, F, c⟩
theorem ps_raiseI (K : PySem.W.Frag) {X : Cx} {W : WX} {C : Addr} {x f : Str} {k : Nat} {e : Expr} {ta : TA} {p pos pos2 : Pos} (hc : X.calm = true) (tk : Takes X W) (T : OexC K C) (i : InitOk X.prog X.w K X.mg X.base C f k) (hr : Room k X.A) (hm : X.mg x = some (.ref C)) (hg : Gl X x) (ha : PA X [e] ta) (hk : X.K = K := by rfl)
    (hdb : (x == ("__debug__" : Str)) = false := by decide) (he : starEach (e :: []) X.env = (false, eval e X.env) :: starEach [] X.env := by rfl) (hpl : (backTo pos (starEach [] X.env)).any (·.1) = false := by rfl) :
    PS X (.Raise (some (.Call (.Name x p) [e] [] pos)) none pos2) (tRaiseO K C f W ta) := by
  subst hk
  obtain ⟨l, fI, fd, ps, hl, a, b, F, c⟩ := i.ex
  exact ps_raiseO X.K hc tk T a b F (hr.mono hl) c hm hg ha rfl hdb he hpl
/-- e.f, e the exception that the suite holds -/
def tXfA (K : PySem.W.Frag) (a : Addr) (cls : Value) (d : Option Addr) (f : Str) (te : TE) : TE := fun σ H Q => te σ H fun x H1 => x = .ref a ∧ ∃ (C : Addr), cls = .ref C ∧ XfC K C ∧ PySem.W.findIn K (.ref C) f = some none ∧ ∃ (dd : Addr) (fs : List (Str × V)) (v : V), d = some dd ∧ H1 dd = some (.xd fs) ∧ fs.lookup f = some v ∧ Q v H1
theorem pe_xfA (K : PySem.W.Frag) {X : Cx} {a : Addr} {oe : Obj} {cls : Value} {d : Option Addr} {pn : List (Addr × Obj)} {e : Expr} {te : TE} {pos : Pos} {n : Str} (hz : Zc cls d oe) (hf : ∃ vs, oe.data = .fields vs) (he : PE (X.suite a ((a, oe) :: pn)) e te) (hk : X.K = K := by rfl) (hb : attributeBase e n X.env (eval e X.env) = eval e X.env := by rfl) :
    PE (X.suite a ((a, oe) :: pn)) (.Attribute e n pos) (tXfA K a cls d n te) := by
  subst hk
  refine ⟨fun pins s σ H Q I h => ?_⟩
  refine attr_of hb (thn (he.run pins s σ H _ I h) fun u s1 hh => ?_)
  obtain ⟨x, H1, I1, rx, ex, C, ec, T, hno, dd, fs, v, ed, ea, l, q⟩ := hh
  subst ex
  obtain rfl : u = Value.ref a := rx
  subst ec
  subst ed
  obtain ⟨ha, _⟩ := I1.pin (a, oe) (List.mem_append_left _ List.mem_cons_self)
  obtain ⟨vs, hd⟩ := hf
  have hx : ObjOk X.prog X.w H1 s1.heap dd (.xd fs) := I1.hok dd _ ea
  obtain ⟨mA, hns, hr⟩ := hx
  obtain ⟨od, ho, hl⟩ := lookIn_ns hns
  obtain ⟨u, hu, ru⟩ := RelO.some_of (v := v) (o := mA n) (by rw [← l]; exact hr n)
  have J : PySem.W.InstAt s1.heap a oe C (some od) := ⟨ha, hz.1, by unfold PySem.W.notCls; rw [hd] <;> rfl, by rw [hz.2]; exact ho⟩
  exact HandSPX.exc_get I1.kIn J T.ga T.gg T.exC (PySem.W.findObj_own T.hdC hno rfl (by rw [hl, hu])) (handed_of ru) ⟨v, H1, I1.tok _, ru, q⟩
theorem r_xfA {K : PySem.W.Frag} {a : Addr} {cls : Value} {d : Option Addr} {f : Str} {te : TE} {σ : L2.St} {H : Hp} {Q : VK} (q : te σ H fun x H1 => x = .ref a ∧ ∃ (C : Addr), cls = .ref C ∧ XfC K C ∧ PySem.W.findIn K (.ref C) f = some none ∧ ∃ (dd : Addr) (fs : List (Str × V)) (v : V), d = some dd ∧ H1 dd = some (.xd fs) ∧ fs.lookup f = some v ∧ Q v H1) : tXfA K a cls d f te σ H Q := q
theorem units_of {k : Nat} {A : Around} (r : L2H.RoomH k A) : A.units + 64 < cLine := by have := r.un; omega

/-! ### the exception in hand, as an object -/
theorem isP_of {X : Cx} {a D : Addr} {oe : Obj} {d : Option Addr} (C : L2.ExcC X.K D) (hm : (a, oe) ∈ X.pn) (hz : Zc (.ref D) d oe) (hf : ∃ vs, oe.data = .fields vs) {c : V} {cv : Value} {b : Bool} (hcv : ∀ u, RelV c u → u = cv) (e : PySem.W.kitOne X.K (.ref D) cv = some b)
    {fs : List (Str × V)} {pins : List (Addr × Obj)} {σ : L2.St} {H : Hp} {s : Shared} {us : List Value} {Q : VK} (I : Inv X pins σ H s) (hd : ∀ dd, d = some dd → H dd = some (.xd fs)) (r : Vals [.ref a, c] us) (q : Q (.bl b) H) : wpAny (model X.prog X.w) X.A (call (.builtin "isinstance") us) (EP X pins σ Q) X.xe s := by
  cases r with
  | cons rx rr =>
    cases rr with
    | cons rt rr =>
      cases rr
      cases rx
      have ec := hcv _ rt
      subst ec
      obtain ⟨hget, _⟩ := I.pin (a, oe) (List.mem_append.mpr (.inl hm))
      obtain ⟨vs, hv⟩ := hf
      have J : ∃ od, PySem.W.InstAt s.heap a oe D od := by
        cases d with
        | none =>
          refine ⟨none, hget, hz.1, by unfold PySem.W.notCls; rw [hv] <;> rfl, ?_⟩
          rw [hz.2]
          trivial
        | some dd =>
          have hx : ObjOk X.prog X.w H s.heap dd (.xd fs) := I.hok dd _ (hd dd rfl)
          obtain ⟨mA, hns, hr⟩ := hx
          obtain ⟨od, ho, hl⟩ := lookIn_ns hns
          exact ⟨some od, hget, hz.1, by unfold PySem.W.notCls; rw [hv] <;> rfl, by rw [hz.2]; exact ho⟩
      obtain ⟨od, J⟩ := J
      obtain ⟨cd, hcd, _⟩ := PySem.W.any_some C.hd
      exact PySem.W.kia_one (PySem.W.kitx_exc (od := od) (by rw [hcd]; rfl) C.hg C.hk C.hs C.ha C.hn C.ht C.hm) I.kIn J e (fun z => nomatch z) fun tk => ⟨.bl b, H, I.kept (t' := tk) fun _ _ z => z, rfl, q⟩
/-- isinstance(e, c), e the pinned exception -/
def bIsP (K : PySem.W.Frag) (D a : Addr) (d : Option Addr) : List V → Hp → VK → Prop := fun xs H Q => ∃ (c : V) (cv : Value) (b : Bool) (fs : List (Str × V)), xs = [.ref a, c] ∧ (∀ u, RelV c u → u = cv) ∧ PySem.W.kitOne K (.ref D) cv = some b ∧ (∀ dd, d = some dd → H dd = some (.xd fs)) ∧ Q (.bl b) H
theorem cr_isP (K : PySem.W.Frag) {X : Cx} {a D : Addr} {oe : Obj} {d : Option Addr} (C : L2.ExcC K D) (hm : (a, oe) ∈ X.pn) (hz : Zc (.ref D) d oe) (hf : ∃ vs, oe.data = .fields vs) (hk : X.K = K := by rfl) : CallR X (.builtin "isinstance") (bIsP K D a d) := by
  subst hk
  intro pins s σ H xs us Q I r h
  obtain ⟨c, cv, b, fs, rfl, hcv, e, hd, q⟩ := h
  exact isP_of C hm hz hf hcv e I hd r q
theorem r_isPC {K : PySem.W.Frag} {D a C : Addr} {d : Option Addr} {fs : List (Str × V)} {H : Hp} {Q : VK} {b : Bool} (e : PySem.W.kitOne K (.ref D) (.ref C) = some b) (hd : ∀ dd, d = some dd → H dd = some (.xd fs)) (q : Q (.bl b) H) : bIsP K D a d [.ref a, .ref C] H Q :=
  ⟨.ref C, .ref C, b, fs, rfl, fun u r => r, e, hd, q⟩
theorem r_isPT {K : PySem.W.Frag} {D a : Addr} {T : String} {d : Option Addr} {fs : List (Str × V)} {H : Hp} {Q : VK} {b : Bool} (e : PySem.W.kitOne K (.ref D) (.type T) = some b) (hd : ∀ dd, d = some dd → H dd = some (.xd fs)) (q : Q (.bl b) H) : bIsP K D a d [.ref a, .ty T] H Q :=
  ⟨.ty T, .type T, b, fs, rfl, fun u r => r, e, hd, q⟩

/-! ### a def called in a suite, the exception in hand handed to it -/
structure OkP (P : Program) (w : World) (K : PySem.W.Frag) (mg : Str → Option Value) (base : Heap) (x : Str) (k : Nat) (ps : List Str) (sp : Addr → Value → Option Addr → Sp) : Prop where
  ex : ∃ (f : Addr) (fd : FuncData), (∀ a cls d vs H Q E, sp a cls d vs H Q E → vs.length = ps.length) ∧
    (∀ (A : Around) (outer : List Env) (s : Shared) (H : Hp) (args : Args) (us : List Value) (vs : List V) (Q : VK) (E : XK) (p : Addr × Obj) (cls : Value) (d : Option Addr), L2H.RoomH k A → Zc cls d p.2 → (∃ vs, p.2.data = .fields vs) → L2H.PinOk outer H s p → Env0 P w K mg base A outer s H → BindsTo s fd args (ps.zip us) → Vals vs us → sp p.1 cls d vs H Q E →
      codeAny (model P w) A (.call (.ref f) args) (CR CX0 outer P w H s Q E) s) ∧ Binds K fd ps [] ∧ mg x = some (.ref f) ∧ PySem.W.keepIn K (.ref f) = true
section
variable {P : Program} {w : World} {K : PySem.W.Frag} {mg : Str → Option Value} {base : Heap}
theorem Df.okP {x : Str} {st : Stmt} {N ps : List Str} {k : Nat} {sp : Addr → Value → Option Addr → Sp} (F : Df K mg x st ps) (S : FnScope N ps (defScope st)) (len : ∀ a cls d vs H Q E, sp a cls d vs H Q E → vs.length = ps.length)
    (hbody : ∀ (f : Addr) (cdv : Value) (A : Around) (outer : List Env) (s : Shared) (H : Hp) (vs : List V) (Q : VK) (E : XK) (p : Addr × Obj) (cls : Value) (d : Option Addr), Zc cls d p.2 → (∃ vs, p.2.data = .fields vs) → L2H.RoomH k (A.deeper (envOfC x (defScope st) s.heap.objs.size f cdv)) → sp p.1 cls d vs H Q E →
      ∃ t, PSs (L2H.cxH CX0 P w K mg base N x (defScope st) f cdv A outer s H E p).nox (defBody st) t ∧ t { nx := fun _ H' => Q .non H', rt := Q } (L2.start N vs) H) : OkP P w K mg base x (k + 1) ps sp := by
  obtain ⟨f, fd, F, b, m⟩ := F.ex
  obtain ⟨oc, od, kV, doc, pm, an, cdv, ct, osl, rfl, lk, hcd⟩ := F.ex
  refine ⟨f, _, len, fun A outer s H args us vs Q E p cls d hr hz hf hpin e0 hb r hsp => ?_, b, m, F.kp⟩
  have hl := len _ _ _ _ _ _ _ hsp
  have KX : K.In s.heap := e0.mod.kin.keeps fun b o e => (e0.bs b o e).1
  have lim : s.heap.NoLimit := e0.mod.nolimit.keeps fun b o e => (e0.bs b o e).1
  have hkind : ∀ y ∈ ps.zip us, (defScope st).names.lookup y.1 = some .local ∨ ((defScope st).names.lookup y.1 = some .cell ∧ ((cellsFrom (s.heap.objs.size + 1) (defScope st).names []).lookup y.1).isSome = true) := fun ⟨n, v⟩ hy => by
    rcases S.par n (List.of_mem_zip hy).1 with q | q
    · exact .inl q
    · exact .inr ⟨q, PySem.W.cellsFrom_some _ _ _ (.inl q)⟩
  refine codeAny_call_function hr.depth (KX _ _ lk) rfl S.co S.gen rfl (PySem.W.codeRec_of KX hcd) (hb _ _ _ _ ?_)
  refine wpAny_newFunctionEnv_cells S.kind hkind fun env he s1 xc => ?_
  subst he
  refine ⟨lim.keeps xc.toInCall.keep, codeAny_func ?_⟩
  obtain ⟨t, ht, hq⟩ := hbody f cdv A outer s H vs Q E p cls d hz hf (hr.deeper _) hsp
  have I := L2H.inv_startH (CX := CX0) (E := E) S hpin e0 hl r xc
  refine wpAny_mono (ht.run [] s1 (L2.start N vs) H _ (I.wish _) hq) (fun fl s' hs => ?_) fun e s' hs => (show False from hs).elim
  have fin : ∀ {σ' : L2.St} {H' : Hp} {v : V} {u : Value}, Inv (L2H.cxH CX0 P w K mg base N x (defScope st) f cdv A outer s H E p).nox [] σ' H' s' → RelV v u → Q v H' → CE outer P w H s Q u s' :=
    fun {σ' H' v u} J rv q => ⟨v, H', J.os, J.bare, J.base, J.hok, rv, q⟩
  cases fl with
  | ret u =>
    obtain ⟨v, σ', H', J, rv, q⟩ := hs
    exact fin J rv q
  | next =>
    obtain ⟨σ', H', J, q⟩ := hs
    exact fin (v := V.non) (u := Value.none) J rfl q
  | brk =>
    obtain ⟨_, _, _, q⟩ := hs
    exact False.elim q
  | cont =>
    obtain ⟨_, _, _, q⟩ := hs
    exact False.elim q
theorem OkP.mono {x : Str} {ps : List Str} {j k : Nat} {sp : Addr → Value → Option Addr → Sp} (o : OkP P w K mg base x j ps sp) (h : j ≤ k) : OkP P w K mg base x k ps sp := by
  obtain ⟨f, fd, len, F, b, m, kp⟩ := o.ex
  exact ⟨f, fd, len, fun A outer s H args us vs Q E p cls d hr => F A outer s H args us vs Q E p cls d (hr.mono h), b, m, kp⟩
end
theorem pe_clP {X : Cx} {x : Str} {ps : List Str} {k : Nat} {sp : Addr → Value → Option Addr → Sp} {a : Addr} {oe : Obj} {cls : Value} {d : Option Addr} {pn : List (Addr × Obj)} {e : Expr} {es : List Expr} {t : TA} {p pos : Pos} (o : OkP X.prog X.w X.K X.mg X.base x k ps sp) (hr : L2H.RoomH k X.A)
    (hz : Zc cls d oe) (hf : ∃ vs, oe.data = .fields vs) (hg : Gl X x) (ha : PA (X.suite a ((a, oe) :: pn)) (e :: es) t)
    (hdb : (x == ("__debug__" : Str)) = false := by decide) (he : starEach (e :: es) X.env = (false, eval e X.env) :: starEach es X.env := by rfl) (hpl : (backTo pos (starEach es X.env)).any (·.1) = false := by rfl) :
    PE (X.suite a ((a, oe) :: pn)) (.Call (.Name x p) (e :: es) [] pos) (tCl (sp a cls d) t) := by
  obtain ⟨f, fd, len, F, b, m, kp⟩ := o.ex
  refine ⟨fun pins s σ H Q I h => ?_⟩
  refine wpAny_Call_Name_kw (ld_glob I hg m ?_ hdb)
  refine PySem.W.callWith_K (h₀ := X.base) I.ok.mod.kin kp (thn (ha.run pos pins s σ H _ I h) fun us s1 ⟨vs, H1, I1, r, q⟩ => ⟨I1.kIn, ?_⟩) he hpl
  have hl : us.length = ps.length := by rw [← r.length]; exact len _ _ _ _ _ _ _ q
  have b' := b s1 us I1.kIn (by rw [List.append_nil]; exact hl)
  rw [List.append_nil] at b'
  have P1 := I1.pin (a, oe) (List.mem_append_left _ List.mem_cons_self)
  have hpin : L2H.PinOk X.stack H1 s1 (a, oe) := ⟨P1.1, P1.2.1, fun hm => (List.mem_cons.mp (I1.stkSub a hm)).elim P1.2.2.1 P1.2.2.2.1, P1.2.2.2.2⟩
  refine wpAny_call (codeAny_mono (F (X.suite a ((a, oe) :: pn)).A X.stack s1 H1 ⟨us, []⟩ us vs Q E0 (a, oe) cls d ⟨hr.dp, hr.un⟩ hz hf hpin I1.env0 b' r q) fun r s' hq => ?_)
  cases r with
  | error e => exact (show False from hq).elim
  | ok fl =>
    cases fl with
    | ret u => exact I1.after hq
    | next => exact False.elim hq
    | brk => exact False.elim hq
    | cont => exact False.elim hq

/-! ### xs.count(True), xs.index(True), of True and False -/
def mCountB (K : PySem.W.Frag) : V → List V → Hp → VK → Prop := fun x xs H Q => ∃ (p : Addr) (bs : List Bool) (b : Bool), x = .ref p ∧ xs = [.bl b] ∧ SqL K H p (bs.map V.bl) ∧ Q (.int (bs.count b : Nat)) H
theorem flat_bls (bs : List Bool) : (bs.map V.bl).all flatV = true := by
  rw [List.all_map]
  exact List.all_eq_true.mpr fun _ _ => rfl
theorem countP_eqU {b : Bool} : ∀ {bs : List Bool} {us : List Value}, Vals (bs.map V.bl) us → us.countP (eqU (.bl b)) = bs.count b
  | [], _, r => by cases r; rfl
  | c :: bs, _, r => by
    rw [List.map_cons] at r
    cases r with
    | cons h t =>
      rw [List.countP_cons, countP_eqU t, eqU_of h rfl, List.count_cons]
      have : eqV (V.bl c) (V.bl b) = (c == b) := by cases c <;> cases b <;> rfl
      rw [this]
theorem mt_countB (K : PySem.W.Frag) {X : Cx} (hk : X.K = K := by rfl) : MtR X "list.count" (mCountB K) := by
  subst hk
  intro pins s σ H x xs v us Q I rx rxs h
  obtain ⟨p, bs, b, rfl, rfl, hs, q⟩ := h
  cases rx
  cases rxs with
  | cons ry rt =>
    rename_i uy ut
    cases rt
    obtain ⟨its, rv, ⟨⟨cls, dd, data, sl⟩, n, ho, hc, hdn, hd⟩, hlen⟩ := I.list hs
    simp only at hc hd
    subst hc hd
    refine call_meets PySem.F.slot_list_count ⟨_, ho, rfl⟩ PySem.F.entry_list_count (PySem.F.args_list_count_2 _ _)
      (SeqAt.list_countAt p its.toArray n dd sl uy (eqU (.bl b))) ⟨ho, fun u' hu' => mem_eqAt ry rfl rv (flat_bls bs) u' (by simpa using hu'), ?_⟩
    refine ⟨.int (bs.count b : Nat), H, I.tok _, ⟨s.toks, ?_⟩, q⟩
    show Value.int ((its.toArray.toList.countP (eqU (.bl b)) : Nat) : Int) s.toks = Value.int ((bs.count b : Nat) : Int) s.toks
    rw [show its.toArray.toList = its from rfl, countP_eqU rv]
def mIndexB (K : PySem.W.Frag) : V → List V → Hp → VK → Prop := rIndex K
theorem mt_indexB (K : PySem.W.Frag) {X : Cx} (hk : X.K = K := by rfl) : MtR X "list.index" (mIndexB K) := by
  subst hk
  exact mt_index
theorem r_countB {K : PySem.W.Frag} {H : Hp} {Q : VK} {p : Addr} {bs : List Bool} {b : Bool} (h : H p = some (.lst (bs.map V.bl))) (q : Q (.int (bs.count b : Nat)) H) : mCountB K (.ref p) [.bl b] H Q := ⟨p, bs, b, rfl, rfl, SqL.of h, q⟩
theorem r_indexB {K : PySem.W.Frag} {H : Hp} {Q : VK} {p : Addr} {bs : List Bool} {j : Nat} (h : H p = some (.lst (bs.map V.bl))) (hj : bs[j]? = some true) (hno : ∀ m, m < j → bs[m]? = some false) (q : Q (.int (j : Nat)) H) : mIndexB K (.ref p) [.bl true] H Q := by
  refine ⟨p, bs.map V.bl, .bl true, j, .bl true, rfl, rfl, SqL.of h, rfl, flat_bls bs, by rw [List.getElem?_map, hj]; rfl, rfl, fun m z' hm hz => ?_, q⟩
  rw [List.getElem?_map, hno m hm] at hz
  cases hz
  rfl
/-! ### a, b, c = x, y, z -/
theorem r_spar3 {i j l : Nat} {ta : TA} {s2 : TS} {nx bk ct : L2.St → Hp → Prop} {rt : VK} {σ : L2.St} {H : Hp} (q : ta σ H fun vs H1 => ∃ u v w, vs = [u, v, w] ∧ s2 ⟨nx, rt, bk, ct⟩ (((σ.set i (some u)).set j (some v)).set l (some w)) H1) : tSeq (tPar3 i j l ta) s2 ⟨nx, rt, bk, ct⟩ σ H := q
theorem r_par3 {i j l : Nat} {ta : TA} {nx bk ct : L2.St → Hp → Prop} {rt : VK} {σ : L2.St} {H : Hp} (q : ta σ H fun vs H1 => ∃ u v w, vs = [u, v, w] ∧ nx (((σ.set i (some u)).set j (some v)).set l (some w)) H1) : tPar3 i j l ta ⟨nx, rt, bk, ct⟩ σ H := q
theorem r_three {u v w : V} {P : V → V → V → Prop} (q : P u v w) : ∃ u' v' w', [u, v, w] = [u', v', w'] ∧ P u' v' w' := ⟨u, v, w, rfl, q⟩
end Z

open PySem PySem.Spec PyProof.Rows L2 Z
-- a fact of the heap as it stands now
local macro_rules | `(tactic| walk_at "hp") => `(tactic| first | assumption | (refine same_at (by assumption) ?_; walk_at "hp") | (refine But.at (by assumption) ?_ ?_; (walk_at "hp"); (first | assumption | (apply Ne.symm; assumption))))
-- one step of a reading
local macro_rules | `(tactic| walk_at "r1") => `(tactic| first
  | (with_reducible refine r_var (by with_unfolding_all rfl) ?_)
  | (with_reducible refine r_c ?_)
  | (with_reducible refine r_op ?_)
  | (with_reducible refine r_un ?_)
  | (with_reducible refine r_sasg ?_)
  | (with_reducible refine r_sif ?_)
  | (with_reducible refine r_if ?_)
  | (with_reducible refine r_sset ?_)
  | (with_reducible refine r_set ?_)
  | (with_reducible refine r_sdrop ?_)
  | (with_reducible refine r_drop ?_)
  | (with_reducible refine r_ret ?_)
  | (with_reducible refine r_asg ?_)
  | (with_reducible refine r_test ?_)
  | (with_reducible refine r_tB ?_)
  | (with_reducible refine r_bl ?_)
  | (with_reducible refine r_not ?_)
  | (with_reducible refine r_and ?_)
  | (with_reducible refine r_or ?_)
  | (with_reducible refine r_yes ?_)
  | (with_reducible refine r_nil ?_)
  | (with_reducible refine r_cons ?_)
  | (with_reducible refine r_cl ?_)
  | (with_reducible refine r_cb ?_)
  | (with_reducible refine r_bm ?_)
  | (with_reducible refine r_tup ?_)
  | (with_reducible refine r_lst ?_)
  | (with_reducible refine r_few (by with_unfolding_all exact Nat.le_of_ble_eq_true rfl) ?_)
  | (with_reducible refine r_sl ?_)
  | (with_reducible refine r_noP ?_)
  | (with_reducible refine r_po ?_)
  | (with_reducible refine r_poI ?_)
  | (with_reducible refine r_ifE ?_)
  | (with_reducible refine r_andV ?_)
  | (with_reducible refine r_orV ?_)
  | (with_reducible refine r_notV ?_)
  | (with_reducible refine r_chain ?_)
  | (with_reducible refine r_addI ?_)
  | (with_reducible refine r_subI ?_)
  | (with_reducible refine r_neg ?_)
  | (with_reducible refine r_leI ?_)
  | (with_reducible refine r_ltI ?_)
  | (with_reducible refine r_gtI ?_)
  | (with_reducible refine r_geI ?_)
  | (with_reducible refine r_eqI ?_)
  | (with_reducible refine r_neI ?_)
  | (with_reducible refine r_eqS ?_)
  | (with_reducible refine r_neS ?_)
  | (with_reducible refine r_eqB ?_)
  | (with_reducible refine r_neB ?_)
  | (with_reducible refine r_inS ?_)
  | (with_reducible refine r_niS ?_)
  | (with_reducible refine r_isN ?_)
  | (with_reducible refine r_notN ?_)
  | (with_reducible refine r_min ?_)
  | (with_reducible refine r_min3 ?_)
  | (with_reducible refine r_intI ?_)
  | (with_reducible refine r_intB ?_)
  | (with_reducible refine r_tyS ?_)
  | (with_reducible refine r_ixL (by walk_at "hp") (by first | with_unfolding_all rfl | with_unfolding_all exact atI_nat (j := 0) rfl | with_unfolding_all exact atI_nat (j := 1) rfl) ?_)
  | (with_reducible refine r_ixU (by walk_at "hp") (by with_unfolding_all rfl) ?_)
  | (with_reducible refine r_lenL (by walk_at "hp") ?_)
  | (with_reducible refine r_lenU (by walk_at "hp") ?_)
  | (with_reducible refine r_tyL (by walk_at "hp") ?_)
  | (with_reducible refine r_next ?_)
  | (with_reducible refine r_sfor ?_)
  | (with_reducible refine iteT ?_)
  | (with_reducible refine iteF ?_)
  | (with_reducible refine iteNT ?_)
  | (with_reducible refine iteNF ?_)
  | (with_reducible refine r_hide ?_)
  | (with_reducible refine r_lenSetS ?_)
  | (with_reducible refine r_lc ?_)
  | (with_reducible refine r_iStr ?_)
  | (with_reducible refine r_iEnum ?_)
  | (with_reducible refine r_iEnumS ?_)
  | (with_reducible refine r_iRevS ?_)
  | (with_reducible refine r_iRev ?_)
  | (with_reducible refine r_gName ?_)
  | (with_reducible refine r_gTup (by walk_at "hp") (by with_unfolding_all rfl) ?_)
  | (with_reducible refine r_gCons ?_)
  | (with_reducible refine r_gNil ?_)
  | (with_reducible refine r_for ?_)
  | (with_reducible refine r_iList ?_)
  | (with_reducible refine r_iRng1 ?_)
  | (with_reducible refine r_sasgG ?_)
  | (with_reducible refine r_asgG ?_)
  | (with_reducible refine r_seq ?_)
  | (with_reducible refine r_dget ?_)
  | (with_reducible refine r_din ?_)
  | (with_reducible refine r_dnotin ?_)
  | (with_reducible refine r_sdput ?_)
  | (with_reducible refine r_dput ?_)
  | (with_reducible refine r_dnewT ?_)
  | (with_reducible refine r_dispT ?_)
  | (with_reducible refine r_pairs ?_)
  | (with_reducible refine r_pairs0 ?_)
  | (with_reducible refine r_minK ?_)
  | (with_reducible refine r_minKD ?_)
  | (with_reducible refine r_iTup ?_)
  | (with_reducible refine r_iRevR ?_)
  | (with_reducible refine r_rg1 ?_)
  | (with_reducible refine r_isB ?_)
  | (with_reducible refine r_notB ?_)
  | (with_reducible refine r_clX ?_)
  | (with_reducible refine r_raiseP ?_)
  | (with_reducible refine r_par3 ?_)
  | (with_reducible refine r_three ?_))
local macro_rules | `(tactic| walk_at "r") => `(tactic| repeat walk_at "r1")
namespace Z
open PySem PySem.Spec PyProof.Rows L2
def topS (i : Nat) : Stmt := PySem.Challenge.pw_shifttape_k13_texts_refused.main.body.getD i (.Pass ⟨0, 0, 0, 0⟩)
abbrev s_are_signs : Stmt := topS 12
theorem sc_are_signs : FnScope ["signs", "good", "sign"] ["signs"] (defScope s_are_signs) := ⟨rfl, rfl, rfl, by decide +kernel, rfl, by decide +kernel, by decide +kernel⟩
abbrev s_need_sheet : Stmt := topS 13
theorem sc_need_sheet : FnScope ["sheet", "zero", "one", "home"] ["sheet"] (defScope s_need_sheet) := ⟨rfl, rfl, rfl, by decide +kernel, rfl, by decide +kernel, by decide +kernel⟩
abbrev s_home_of : Stmt := topS 18
theorem sc_home_of : FnScope ["word", "sign"] ["word"] (defScope s_home_of) := ⟨rfl, rfl, rfl, by decide +kernel, rfl, by decide +kernel, by decide +kernel⟩
abbrev s_read_sheet : Stmt := topS 19
theorem sc_read_sheet : FnScope ["text", "rows", "number", "row", "good", "sign", "sheet"] ["text"] (defScope s_read_sheet) := ⟨rfl, rfl, rfl, by decide +kernel, rfl, by decide +kernel, by decide +kernel⟩
abbrev s__law_begun : Stmt := topS 21
theorem sc__law_begun : FnScope ["_law_script", "_law_stirred", "_law_cell"] ["_law_script"] (defScope s__law_begun) := ⟨rfl, rfl, rfl, by decide +kernel, rfl, by decide +kernel, by decide +kernel⟩
abbrev s__law_take : Stmt := topS 22
theorem sc__law_take : FnScope ["_law_box", "_law_many", "_law_number"] ["_law_box", "_law_many"] (defScope s__law_take) := ⟨rfl, rfl, rfl, by decide +kernel, rfl, by decide +kernel, by decide +kernel⟩
abbrev s__law_alike : Stmt := topS 23
theorem sc__law_alike : FnScope ["_law_found", "_law_due_here", "_law_k"] ["_law_found", "_law_due_here"] (defScope s__law_alike) := ⟨rfl, rfl, rfl, by decide +kernel, rfl, by decide +kernel, by decide +kernel⟩
abbrev s__law_class : Stmt := topS 24
theorem sc__law_class : FnScope ["_law_e", "_law_kinds", "_law_words"] ["_law_e"] (defScope s__law_class) := ⟨rfl, rfl, rfl, by decide +kernel, rfl, by decide +kernel, by decide +kernel⟩
abbrev s__law_picked : Stmt := topS 25
theorem sc__law_picked : FnScope ["_law_box", "_law_signs", "_law_many", "_law_left", "_law_turn"] ["_law_box", "_law_signs", "_law_many"] (defScope s__law_picked) := ⟨rfl, rfl, rfl, by decide +kernel, rfl, by decide +kernel, by decide +kernel⟩
abbrev s__law_sheet : Stmt := topS 26
theorem sc__law_sheet : FnScope ["_law_box", "_law_most", "_law_many", "_law_every", "_law_often", "_law_zero", "_law_one", "_law_place", "_law_home_here"] ["_law_box", "_law_most"] (defScope s__law_sheet) := ⟨rfl, rfl, rfl, by decide +kernel, rfl, by decide +kernel, by decide +kernel⟩
abbrev s__law_text : Stmt := topS 27
theorem sc__law_text : FnScope ["_law_box", "_law_sheet_here", "_law_most", "_law_found", "_law_number", "_law_often", "_law_turn"] ["_law_box", "_law_sheet_here", "_law_most"] (defScope s__law_text) := ⟨rfl, rfl, rfl, by decide +kernel, rfl, by decide +kernel, by decide +kernel⟩
abbrev s__law_tape : Stmt := topS 28
theorem sc__law_tape : FnScope ["_law_box", "_law_sheet_here", "_law_most", "_law_n", "_law_often", "_law_found", "_law_turn"] ["_law_box", "_law_sheet_here", "_law_most"] (defScope s__law_tape) := ⟨rfl, rfl, rfl, by decide +kernel, rfl, by decide +kernel, by decide +kernel⟩
abbrev s__law_spoilt : Stmt := topS 29
theorem sc__law_spoilt : FnScope ["_law_box", "_law_text_here", "_law_deed", "_law_rows", "_law_at", "_law_odd", "_law_place", "_law_signs", "_law_sign"] ["_law_box", "_law_text_here"] (defScope s__law_spoilt) := ⟨rfl, rfl, rfl, by decide +kernel, rfl, by decide +kernel, by decide +kernel⟩
abbrev s__law_home : Stmt := topS 30
theorem sc__law_home : FnScope ["_law_word", "_law_sign"] ["_law_word"] (defScope s__law_home) := ⟨rfl, rfl, rfl, by decide +kernel, rfl, by decide +kernel, by decide +kernel⟩
abbrev s__law_due : Stmt := topS 31
theorem sc__law_due : FnScope ["_law_text_here", "_law_rows", "_law_number", "_law_zero", "_law_one", "_law_home_here"] ["_law_text_here"] (defScope s__law_due) := ⟨rfl, rfl, rfl, by decide +kernel, rfl, by decide +kernel, by decide +kernel⟩
abbrev s__law_told : Stmt := topS 32
theorem sc__law_told : FnScope ["_law_text_here", "_law_e", "_law_word"] ["_law_text_here"] (defScope s__law_told) := ⟨rfl, rfl, rfl, by decide +kernel, rfl, by decide +kernel, by decide +kernel⟩
abbrev s_law : Stmt := topS 33
theorem sc_law : FnScope ["_law_script", "_law_box", "_law_zero", "_law_one", "_law_home_here", "_law_text_here", "_law_deed", "_law_due_here"] ["_law_script"] (defScope s_law) := ⟨rfl, rfl, rfl, by decide +kernel, rfl, by decide +kernel, by decide +kernel⟩
structure TX (mg : Str → Option Value) : Prop where
  b_len : mg "len" = none
  b_range : mg "range" = none
  b_list : mg "list" = none
  b_int : mg "int" = none
  b_str : mg "str" = none
  b_all : mg "all" = none
  b_isinstance : mg "isinstance" = none
  b_enumerate : mg "enumerate" = none
  b_set : mg "set" = none
  b_tuple : mg "tuple" = none
  b_bool : mg "bool" = none
  b_ValueError : mg "ValueError" = none
  c_MOST_SIGNS : ∃ t, mg "MOST_SIGNS" = some (.int 26 t)
  c_FIRST : ∃ t, mg "FIRST" = some (.str " " t)
  c_LAST : ∃ t, mg "LAST" = some (.str "~" t)
  c_FIGURES : ∃ t, mg "FIGURES" = some (.str "0123456789" t)
  c_NOTHING : ∃ t, mg "NOTHING" = some (.str "-" t)
  c_ROWS : ∃ t, mg "ROWS" = some (.int 3 t)
def clsStmt (s : Stmt) (j : Nat) : Stmt := match s with
  | .ClassDef _ _ _ body _ _ _ _ _ _ _ => body.getD j (.Pass ⟨0, 0, 0, 0⟩)
  | _ => .Pass ⟨0, 0, 0, 0⟩
abbrev s_BadText_init : Stmt := clsStmt (topS 7) 0
theorem sc_BadText_init : FnScope ["self", "row"] ["self", "row"] (defScope s_BadText_init) := ⟨rfl, rfl, rfl, by decide +kernel, rfl, by decide +kernel, by decide +kernel⟩
theorem iok_BadText {P : Program} {w : World} {K : PySem.W.Frag} {mg : Str → Option Value} {base : Heap} {C0 C fI : Addr} {fd : FuncData} (TB : BaseI K C0) (hm : mg "TapeError" = some (.ref C0)) (T : OexC K C) (hno : PySem.W.findIn K (.ref C) "row" = some none) (F : Fun K "__init__" "BadText.__init__" s_BadText_init fI fd)
    (hi : PySem.W.findIn K (.ref C) "__init__" = some (some (.ref fI))) (ht : PySem.W.typeIn K (.ref fI) = some (.type "function")) : InitOk P w K mg base C "row" 2 :=
  ⟨1, fI, fd, ["self", "row"], Nat.le_refl _, hi, ht, ok_init (f := "row") F sc_BadText_init rfl rfl T hno (fun A outer s H E cdv => pss_cons (ps_expr (pe_bini TB (by rfl) hm (pa_cons (pv 0) (pa_cons pe_str pa_nil)))) (pss_one (ps_ost (pv 0) (pv 1)))), F.binds fun _ _ _ _ _ _ us hl => match us, hl with | [_, _], _ => rfl⟩
structure Cl where
  TapeError : Addr
  BadSheet : Addr
  BadSet : Addr
  BadTape : Addr
  NoSign : Addr
  BadCount : Addr
  BadText : Addr
structure EX (K : PySem.W.Frag) (mg : Str → Option Value) (cl : Cl) : Prop where
  g_TapeError : mg "TapeError" = some (.ref cl.TapeError)
  g_BadSheet : mg "BadSheet" = some (.ref cl.BadSheet)
  g_BadSet : mg "BadSet" = some (.ref cl.BadSet)
  g_BadTape : mg "BadTape" = some (.ref cl.BadTape)
  g_NoSign : mg "NoSign" = some (.ref cl.NoSign)
  g_BadCount : mg "BadCount" = some (.ref cl.BadCount)
  g_BadText : mg "BadText" = some (.ref cl.BadText)
  k_BadSheet : PySem.W.keepIn K (.ref cl.BadSheet) = true
  ex_BadSheet : PySem.W.subIn K (.ref cl.BadSheet) (.type "BaseException") = some true
  ty_BadSheet : PySem.W.typeIn K (.ref cl.BadSheet) = some (.type "type")
  x_BadSheet : PySem.W.excIn K cl.BadSheet [.type "ValueError", .type "Exception", .type "BaseException", .type "object"] "ValueError.__new__" = true
  e_BadSheet : L2.ExcC K cl.BadSheet
  h_BadSheet_TapeError : PySem.W.exmOne K (.ref cl.BadSheet) (.ref cl.TapeError) = some true
  is_BadSheet_BadSheet : PySem.W.kitOne K (.ref cl.BadSheet) (.ref cl.BadSheet) = some true
  is_BadSheet_BadSet : PySem.W.kitOne K (.ref cl.BadSheet) (.ref cl.BadSet) = some false
  is_BadSheet_BadTape : PySem.W.kitOne K (.ref cl.BadSheet) (.ref cl.BadTape) = some false
  is_BadSheet_NoSign : PySem.W.kitOne K (.ref cl.BadSheet) (.ref cl.NoSign) = some false
  is_BadSheet_BadCount : PySem.W.kitOne K (.ref cl.BadSheet) (.ref cl.BadCount) = some false
  is_BadSheet_BadText : PySem.W.kitOne K (.ref cl.BadSheet) (.ref cl.BadText) = some false
  iv_BadSheet : PySem.W.kitOne K (.ref cl.BadSheet) (.type "ValueError") = some true
  k_BadText : PySem.W.keepIn K (.ref cl.BadText) = true
  ex_BadText : PySem.W.subIn K (.ref cl.BadText) (.type "BaseException") = some true
  ty_BadText : PySem.W.typeIn K (.ref cl.BadText) = some (.type "type")
  o_BadText : OexC K cl.BadText
  n_BadText : PySem.W.findIn K (.ref cl.BadText) "row" = some none
  xf_BadText : XfC K cl.BadText
  e_BadText : L2.ExcC K cl.BadText
  h_BadText_TapeError : PySem.W.exmOne K (.ref cl.BadText) (.ref cl.TapeError) = some true
  is_BadText_BadSheet : PySem.W.kitOne K (.ref cl.BadText) (.ref cl.BadSheet) = some false
  is_BadText_BadSet : PySem.W.kitOne K (.ref cl.BadText) (.ref cl.BadSet) = some false
  is_BadText_BadTape : PySem.W.kitOne K (.ref cl.BadText) (.ref cl.BadTape) = some false
  is_BadText_NoSign : PySem.W.kitOne K (.ref cl.BadText) (.ref cl.NoSign) = some false
  is_BadText_BadCount : PySem.W.kitOne K (.ref cl.BadText) (.ref cl.BadCount) = some false
  is_BadText_BadText : PySem.W.kitOne K (.ref cl.BadText) (.ref cl.BadText) = some true
  iv_BadText : PySem.W.kitOne K (.ref cl.BadText) (.type "ValueError") = some true
  b_TapeError : BaseI K cl.TapeError
section
variable {P : Program} {w : World} {K : PySem.W.Frag} {mg : Str → Option Value} {base : Heap} {TTs : List (Addr × Str)}
/-! ### the box of draws -/
def PN : List V → Prop := fun xs => ∃ ns : List Int, xs = ns.map V.int
def PB (l : Addr) : List V → Prop := fun xs => ∃ z : Int, 0 ≤ z ∧ z < 2147483647 ∧ xs = [.ref l, .int z]
def Box (H : Hp) (v : V) : Prop := ∃ b l, v = .ref b ∧ H b = some (hidL (PB l) b) ∧ H l = some (hidL PN l) ∧ b ≠ l
theorem same_box {H H' : Hp} {v : V} (e : Same H H') (h : Box H v) : Box H' v := by
  obtain ⟨b, l, rfl, h1, h2, h3⟩ := h
  exact ⟨b, l, rfl, e _ _ h1, e _ _ h2, h3⟩
/-- all but two -/
def Two (b l : Addr) (H H' : Hp) : Prop := ∀ c o, c ≠ b → c ≠ l → H c = some o → H' c = some o
theorem Two.b {b l : Addr} {H0 H H' : Hp} (t : Two b l H0 H) (k : But b H H') : Two b l H0 H' := fun c o h1 h2 e => k c o h1 (t c o h1 h2 e)
theorem Two.l {b l : Addr} {H0 H H' : Hp} (t : Two b l H0 H) (k : But l H H') : Two b l H0 H' := fun c o h1 h2 e => k c o h2 (t c o h1 h2 e)
theorem Two.s {b l : Addr} {H0 H H' : Hp} (t : Two b l H0 H) (k : Same H H') : Two b l H0 H' := fun c o h1 h2 e => k c o (t c o h1 h2 e)
theorem Two.refl {b l : Addr} {H : Hp} : Two b l H H := fun _ _ _ _ e => e
theorem Two.same {b l : Addr} {H H' : Hp} {o u : HO} (t : Two b l H H') (hb : H b = some o) (hb' : H' b = some o) (hl : H l = some u) (hl' : H' l = some u) : Same H H' := fun c x e => by
  by_cases h1 : c = b
  · rw [h1] at e ⊢
    rw [hb'] 
    exact hb.symm.trans e
  · by_cases h2 : c = l
    · rw [h2] at e ⊢
      rw [hl']
      exact hl.symm.trans e
    · exact t c x h1 h2 e
def spTake : Sp := fun vs H Q _ => ∃ (v : V) (m : Int), vs = [v, .int m] ∧ Box H v ∧ 0 < m ∧ m ≤ 10 ^ 59 ∧ ∀ (r : Nat) H', (r : Int) < m → Same H H' → Q (.int r) H'
theorem use_take {H : Hp} {Q : VK} {E : XK} {v : V} {m : Int} (h : Box H v) (h0 : 0 < m) (h1 : m ≤ 10 ^ 59) (q : ∀ (r : Nat) H', (r : Int) < m → Same H H' → Q (.int r) H') : spTake [v, .int m] H Q E := ⟨v, m, rfl, h, h0, h1, q⟩
theorem fin_take {H H' : Hp} {Q : VK} {m x : Int} (q : ∀ (r : Nat) H', (r : Int) < m → Same H H' → Q (.int r) H') (h0 : 0 < m) (s : Same H H') : Q (.int (x % m)) H' := by
  have e := Int.toNat_of_nonneg (Int.emod_nonneg x (show m ≠ 0 by omega))
  have l := Int.emod_lt_of_pos x h0
  rw [← e]
  exact q _ _ (by omega) s
theorem ok__law_take {k : Nat} (F : Df K mg "_law_take" s__law_take ["_law_box", "_law_many"]) : OkAt P w K mg base "_law_take" (k + 1) ["_law_box", "_law_many"] spTake := by
  refine F.ok sc__law_take (fun vs H Q E h => ?_) (fun f cdv A outer s H vs Q E hr h => ?_)
  · obtain ⟨v, m, rfl, _⟩ := h
    rfl
  · obtain ⟨v, m, rfl, ⟨b, l, rfl, hb, hl, bl⟩, h0, hm, q⟩ := h
    refine ⟨_, (pss_show (pss_show (pss_cons (ps_if (pt_cmpR (op_uEq K hr.units) (pe_ix (ix_u K) (pv 0) pe_int (fun _ _ => rfl)) (pe_lstN pa_nil) (nomark _)) (pss_cons (ps_asg (pe_op op_uMod (pe_op op_uMul (pe_ix (ix_u K) (pv 0) pe_int (fun _ _ => rfl)) pe_int) pe_int) (pg_sub (pv 0) pe_int set_u)) (pss_one (ps_ret (pe_hide (pe_hide (pe_op op_uMod (pe_op op_uFdiv (pe_ix (ix_u K) (pv 0) pe_int (fun _ _ => rfl)) pe_int) (pv 1))))))) pss_nil) (pss_cons (ps_set (i := 2) sc__law_take.nd rfl (by first | exact Or.inl rfl | exact Or.inr rfl) (pe_ix (ix_u K) (pe_ix (ix_u K) (pv 0) pe_int (fun _ _ => rfl)) pe_int (fun _ _ => rfl))) (pss_cons (ps_asg (pe_op op_uFdiv (pv 2) (pv 1)) (pg_sub (pe_ix (ix_u K) (pv 0) pe_int (fun _ _ => rfl)) pe_int set_u)) (pss_cons (ps_if (PW.pt (pw_or (pt_cmpR (op_uEq K hr.units) (pe_ix (ix_u K) (pe_ix (ix_u K) (pv 0) pe_int (fun _ _ => rfl)) pe_int (fun _ _ => rfl)) pe_int (nomark _)) (pw_or1 (pt_cmpR (op_uEq K hr.units) (pe_ix (ix_u K) (pe_ix (ix_u K) (pv 0) pe_int (fun _ _ => rfl)) pe_int (fun _ _ => rfl)) (pe_un un_neg pe_int) (nomark _))))) (pss_one (ps_expr (pe_bmK K PySem.F.plainAttrs_list PySem.F.slot_list_pop PySem.F.type_list_pop mt_popAtN (pe_ix (ix_u K) (pv 0) pe_int (fun _ _ => rfl)) (pa_cons pe_int pa_nil)))) pss_nil) (pss_one (ps_ret (pe_hide (pe_hide (pe_op op_uMod (pv 2) (pv 1)))))))))))), ?_⟩
    refine ⟨b, _, hb, fun xs H1 p1 k1 e1 n1 => ?_⟩
    obtain ⟨z, z0, z1, rfl⟩ := p1
    refine ⟨l, _, k1 _ _ bl.symm hl, fun ys H2 p2 k2 e2 n2 => ?_⟩
    obtain ⟨ns, rfl⟩ := p2
    have eb : H2 b = some (.lst [.ref l, .int z]) := k2 _ _ bl e1
    have t2 : Two b l H H2 := (Two.refl.b k1).l k2
    clear k1 k2 e1 n1 n2
    walk_at "r"
    intro p H3 np s3 e3
    walk_at "r"
    refine r_eqLI0 (by walk_at "hp") e3 ?_
    walk_at "r"
    have t3 : Two b l H H3 := t2.s s3
    have eb3 := s3 _ _ eb
    have el3 := s3 _ _ e2
    refine w_dec (fun en => ?_) (fun en => ?_)
    · -- no number is left
      walk_at "r"
      refine r_mulI (.inr ⟨by decide, by decide⟩) ?_
      walk_at "r"
      refine r_modI (by decide) ?_
      walk_at "r"
      refine r_setL eb3 rfl fun H4 k4 e4 => ?_
      walk_at "r"
      refine r_fdivI (cdiv_of (by decide) (by decide)) ?_
      walk_at "r"
      refine r_modI h0 ?_
      have el4 := k4 _ _ bl.symm el3
      refine ⟨l, _, PN, el4, ⟨ns, rfl⟩, fun H5 k5 e5 => ⟨b, _, PB l, k5 _ _ bl e4, ⟨_, Int.emod_nonneg _ (by decide), Int.emod_lt_of_pos _ (by decide), rfl⟩, fun H6 k6 e6 => ?_⟩⟩
      exact fin_take q h0 ((((t3.b k4).l k5).b k6).same hb e6 hl (k6 _ _ bl.symm e5))
    · obtain ⟨n, ns, rfl⟩ : ∃ n r, ns = n :: r := by
        cases ns with
        | nil => exact absurd rfl en
        | cons n r => exact ⟨n, r, rfl⟩
      walk_at "r"
      refine r_fdivI (cdiv_of h0 hm) ?_
      walk_at "r"
      refine r_setL el3 (ixN_nat (j := 0) (by simp)) fun H4 k4 e4 => ?_
      have eb4 := k4 _ _ bl eb3
      have t4 := t3.l k4
      have fin : ∀ (ms : List Int) (H5 : Hp), Two b l H H5 → H5 b = some (.lst [.ref l, .int z]) → H5 l = some (.lst (ms.map V.int)) →
          ∃ a xs Pd, H5 a = some (.lst xs) ∧ Pd xs ∧ ∀ H', But a H5 H' → H' a = some (hidL Pd a) → ∃ a_1 xs Pd, H' a_1 = some (.lst xs) ∧ Pd xs ∧ ∀ H'_1, But a_1 H' H'_1 → H'_1 a_1 = some (hidL Pd a_1) → Q (.int (n % m)) H'_1 :=
        fun ms H5 t5 eb5 el5 => ⟨l, _, PN, el5, ⟨ms, rfl⟩, fun H6 k6 e6 => ⟨b, _, PB l, k6 _ _ bl eb5, ⟨z, z0, z1, rfl⟩, fun H7 k7 e7 => fin_take q h0 (((t5.l k6).b k7).same hb e7 hl (k7 _ _ bl.symm e6))⟩⟩
      have pop : ∀ (H5 : Hp) (Q' : VK), H5 l = some (.lst (((n / m) :: ns).map V.int)) → (∀ H', But l H5 H' → H' l = some (.lst (ns.map V.int)) → Q' (.int (n / m)) H') → mPopAt (.ref l) [.int 0] H5 Q' :=
        fun H5 Q' e k => ⟨l, _, 0, 0, _, rfl, rfl, e, by decide, by decide, (ixN_seq (ixN_nat (j := 0) (by simp))).1, rfl, k⟩
      have el4 : H4 l = some (.lst (((n / m) :: ns).map V.int)) := e4
      walk_at "r"
      refine w_dec (fun _ => ?_) (fun _ => ?_)
      · walk_at "r"
        refine pop H4 _ el4 fun H5 k5 e5 => ?_
        walk_at "r"
        refine r_modI h0 ?_
        exact fin _ H5 (t4.l k5) (k5 _ _ bl eb4) e5
      · walk_at "r"
        refine w_dec (fun _ => ?_) (fun _ => ?_)
        · walk_at "r"
          refine pop H4 _ el4 fun H5 k5 e5 => ?_
          walk_at "r"
          refine r_modI h0 ?_
          exact fin _ H5 (t4.l k5) (k5 _ _ bl eb4) e5
        · walk_at "r"
          refine r_modI h0 ?_
          exact fin _ H4 t4 eb4 el4

/-! ### sheets -/
/-- a sheet: its two texts, its home -/
structure Sh where
  zero : List Nat
  one : List Nat
  home : Option Nat
namespace Sh
def n (s : Sh) : Nat := s.zero.length
def signs (s : Sh) (b : Bool) : List Nat := if b then s.one else s.zero
structure Ok (s : Sh) : Prop where
  len : s.one.length = s.zero.length
  pos : 1 ≤ s.zero.length
  most : s.zero.length ≤ 26
  nd0 : s.zero.Nodup
  nd1 : s.one.Nodup
  ok0 : ∀ c ∈ s.zero, 32 ≤ c ∧ c ≤ 126
  ok1 : ∀ c ∈ s.one, 32 ≤ c ∧ c ≤ 126
  home : ∀ h, s.home = some h → h < s.zero.length
end Sh
def mkS (l : List Nat) : Str := ⟨l.toArray⟩
theorem tl_mkS (l : List Nat) : (mkS l).cps.toList = l := rfl
theorem len_mkS (l : List Nat) : (mkS l).length = l.length := by
  show l.toArray.size = _
  simp
theorem mkS_app (a b : List Nat) : mkS a ++ mkS b = mkS (a ++ b) := by
  refine TL.ext_tl ?_
  rw [TL.tl_append]
  rfl
theorem mkS_eq (a b : List Nat) : decide (mkS a = mkS b) = decide (a = b) := by
  by_cases e : a = b
  · rw [e, decide_eq_true rfl, decide_eq_true rfl]
  · rw [decide_eq_false e, decide_eq_false fun z => e (congrArg (fun x : Str => x.cps.toList) z)]
def hV : Option Nat → V
  | none => .non
  | some h => .int h
theorem hV_eq {c : Nat} {o : Option Nat} : V.int (c : Int) = hV o ↔ o = some c := by
  cases o with
  | none => exact ⟨(fun z => nomatch z), (fun z => nomatch z)⟩
  | some h =>
    constructor
    · intro z
      have := V.int.inj z
      rw [show h = c by omega]
    · intro z
      rw [Option.some.inj z]
      rfl
/-- the sheet sh stands at v -/
def IsSh (H : Hp) (v : V) (sh : Sh) : Prop := ∃ a, v = .ref a ∧ H a = some (.tup [.str (mkS sh.zero), .str (mkS sh.one), hV sh.home])
theorem same_sh {H H' : Hp} {v : V} {sh : Sh} (e : Same H H') (h : IsSh H v sh) : IsSh H' v sh := by
  obtain ⟨a, rfl, h⟩ := h
  exact ⟨a, rfl, e _ _ h⟩
def spIsShift : Sp := fun vs H Q _ => ∃ (v : V) (sh : Sh) (c : Nat), vs = [v, .int c] ∧ IsSh H v sh ∧ sh.Ok ∧ Q (.bl (decide (sh.n ≤ c))) H
theorem use_is_shift {H : Hp} {Q : VK} {E : XK} {v : V} {sh : Sh} {c : Nat} (h : IsSh H v sh) (ok : sh.Ok) (q : Q (.bl (decide (sh.n ≤ c))) H) : spIsShift [v, .int c] H Q E := ⟨v, sh, c, rfl, h, ok, q⟩
/-! ### the set behind a code -/
def b2n (b : Bool) : Nat := if b then 1 else 0
def setV (b : Bool) : V := .int (b2n b)
def Sh.behind (s : Sh) (c : Nat) (b : Bool) : Bool := if s.n ≤ c then decide (c = s.n + 1) else if s.home = some c then false else b
def spSetBehind : Sp := fun vs H Q _ => ∃ (v : V) (sh : Sh) (c : Nat) (b : Bool), vs = [v, .int c, setV b] ∧ IsSh H v sh ∧ sh.Ok ∧ c < sh.n + 2 ∧ Q (setV (sh.behind c b)) H
theorem use_set_behind {H : Hp} {Q : VK} {E : XK} {v : V} {sh : Sh} {c : Nat} {b : Bool} (h : IsSh H v sh) (ok : sh.Ok) (hc : c < sh.n + 2) (q : Q (setV (sh.behind c b)) H) : spSetBehind [v, .int c, setV b] H Q E := ⟨v, sh, c, b, rfl, h, ok, hc, q⟩
/-! ### what is a sheet -/
def goodSigns (l : List Nat) : Bool := decide (1 ≤ l.length) && decide (l.length ≤ 26) && l.all (fun c => decide (32 ≤ c) && decide (c ≤ 126)) && decide l.Nodup
theorem lt_sing (a b : Nat) : decide ((sing a).cps.toList < (sing b).cps.toList) = decide (a < b) := by
  show decide ([a] < [b]) = decide (a < b)
  by_cases h : a < b
  · rw [decide_eq_true h, decide_eq_true (List.cons_lt_cons_iff.mpr (.inl h))]
  · rw [decide_eq_false h, decide_eq_false fun z => by
      rcases List.cons_lt_cons_iff.mp z with z | ⟨_, z⟩
      · exact h z
      · cases z]
theorem all_id (l : List Nat) (f : Nat → Bool) : (l.map f).all id = l.all f := by
  rw [List.all_map]
  rfl
def spAreSigns : Sp := fun vs H Q _ => ∃ l : List Nat, vs = [.str (mkS l)] ∧ l.length ≤ 3000 ∧ ∀ H', Same H H' → Q (.bl (goodSigns l)) H'
theorem use_are_signs {H : Hp} {Q : VK} {E : XK} {l : List Nat} (h : l.length ≤ 3000) (q : ∀ H', Same H H' → Q (.bl (goodSigns l)) H') : spAreSigns [.str (mkS l)] H Q E := ⟨l, rfl, h, q⟩
theorem ok_are_signs {k : Nat} (T : TX mg) (F : Df K mg "are_signs" s_are_signs ["signs"]) : OkAt P w K mg base "are_signs" (k + 1) ["signs"] spAreSigns := by
  refine F.ok sc_are_signs (fun vs H Q E h => ?_) (fun f cdv A outer s H vs Q E hr h => ?_)
  · obtain ⟨l, rfl, _⟩ := h
    rfl
  · obtain ⟨l, rfl, hl, q⟩ := h
    have sz : (mkS l).length ≤ 100000 := by rw [len_mkS]; omega
    refine ⟨_, (pss_cons (ps_setLc (i := 1) (own := [("sign", 2)]) (g := gName 2) (tt := tYes) rfl sc_are_signs.nd rfl rfl (sw_true rfl rfl rfl (by decide +kernel)) (pi_str (pv 0)) (blkOk_by (own := [("sign", 2)]) (N := ["signs", "good", "sign"]) (sc := defScope s_are_signs) (by decide +kernel)) (fun _ _ _ _ _ => (pg_name (i := 2) sc_are_signs.nd rfl (by first | exact Or.inl rfl | exact Or.inr rfl))) (fun _ _ _ _ _ => pts_nil) (fun _ _ _ _ _ => (pe_chain op_uLe op_uLe (pe_gStr (by rfl) T.c_FIRST) (pv 2) (pe_gStr (by rfl) T.c_LAST)))) (pss_one (ps_ret (pe_and (pe_chain op_uLe op_uLe pe_int (pe_callB (cr_len K) (by rfl) T.b_len (by decide +kernel) (pa_cons (pv 0) pa_nil)) (pe_gInt (by rfl) T.c_MOST_SIGNS)) (pe_and (pe_callB (cr_allB K) (by rfl) T.b_all (by decide +kernel) (pa_cons (pv 1) pa_nil)) (pe_one (pe_cmpR (op_uEq K hr.units) (pe_lenSetS (by rfl) T.b_len (by rfl) T.b_set (pv 0)) (pe_callB (cr_len K) (by rfl) T.b_len (by decide +kernel) (pa_cons (pv 0) pa_nil)) (nomark _)))))))), ?_⟩
    walk_at "r"
    refine c_str (fun i => ((l.take i).map fun c => decide (32 ≤ c) && decide (c ≤ 126)).map V.bl) sz rfl (fun i => by rw [List.length_map, List.length_map, List.length_take]; omega) (fun i c H' hc s Ky Kn hy _ => ?_) (fun p H1 n1 s1 e1 => ?_)
    · rw [tl_mkS] at hc
      have fin : ∀ b : Bool, b = (decide (32 ≤ c) && decide (c ≤ 126)) → Ky (.bl b) H' := fun b hb => hy _ _ (Same.refl _) (by
        dsimp only
        rw [List.take_add_one, hc, hb, List.map_append, List.map_append]
        rfl)
      walk_at "r"
      refine ⟨rfl, ?_⟩
      walk_at "r"
      refine r_leS ?_
      walk_at "r"
      have e1 : decide ((sing c).cps.toList < (Str.ofString " ").cps.toList) = decide (c < 32) := lt_sing c 32
      have e2 : decide ((Str.ofString "~").cps.toList < (sing c).cps.toList) = decide (126 < c) := lt_sing 126 c
      rw [e1]
      refine w_nd (fun h1 => ?_) (fun h1 => ?_)
      · walk_at "r"
        refine r_leS ?_
        walk_at "r"
        rw [e2]
        refine fin _ ?_
        rw [decide_eq_true (show 32 ≤ c by omega)]
        by_cases h2 : 126 < c
        · rw [decide_eq_true h2, decide_eq_false (show ¬ c ≤ 126 by omega)]
          rfl
        · rw [decide_eq_false h2, decide_eq_true (show c ≤ 126 by omega)]
          rfl
      · refine fin _ ?_
        rw [decide_eq_false (show ¬ 32 ≤ c by omega)]
        rfl
    · have et : l.take (mkS l).length = l := by rw [len_mkS]; exact List.take_length
      rw [et] at e1
      walk_at "r"
      refine r_lenS (le_size sz) ?_
      walk_at "r"
      have gs : goodSigns l = (decide (1 ≤ l.length) && decide (l.length ≤ 26) && l.all (fun c => decide (32 ≤ c) && decide (c ≤ 126)) && decide l.Nodup) := rfl
      refine w_dec (fun h1 => ?_) (fun h1 => ?_)
      · walk_at "r"
        refine w_dec (fun h2 => ?_) (fun h2 => ?_)
        · walk_at "r"
          refine r_all e1 ?_
          rw [all_id]
          walk_at "r"
          rw [len_mkS] at h1 h2
          rw [decide_eq_true (show 1 ≤ l.length by omega), decide_eq_true (show l.length ≤ 26 by omega)] at gs
          refine w_b (fun h3 => ?_) (fun h3 => ?_)
          · walk_at "r"
            refine ⟨_, rfl, by rw [len_mkS]; omega, ?_⟩
            walk_at "r"
            refine r_lenS (le_size sz) ?_
            walk_at "r"
            rw [tl_mkS, len_mkS]
            have e : decide (((dl l).length : Int) = (l.length : Int)) = goodSigns l := by
              rw [gs, h3]
              have d := (dl_le l).2.2
              by_cases h : l.Nodup
              · rw [decide_eq_true h, decide_eq_true (by have := d.mpr h; omega)]
                rfl
              · rw [decide_eq_false h, decide_eq_false fun z => h (d.mp (by omega))]
                rfl
            rw [e]
            exact q H1 s1
          · have e : goodSigns l = false := by
              rw [gs, h3]
              rfl
            rw [← e]
            exact q H1 s1
        · have e : goodSigns l = false := by
            rw [gs, decide_eq_false (show ¬ l.length ≤ 26 by rw [len_mkS] at h2; omega), Bool.and_false]
            rfl
          walk_at "r"
          rw [← e]
          exact q H1 s1
      · have e : goodSigns l = false := by
          rw [gs, decide_eq_false (show ¬ 1 ≤ l.length by rw [len_mkS] at h1; omega)]
          rfl
        walk_at "r"
        rw [← e]
        exact q H1 s1

/-! ### tapes -/
def tapeV (t : List Nat) : List V := t.map fun c => V.int (c : Nat)
def IsTape (H : Hp) (v : V) (t : List Nat) : Prop := ∃ a, v = .ref a ∧ H a = some (.lst (tapeV t))
theorem same_tape {H H' : Hp} {v : V} {t : List Nat} (e : Same H H') (h : IsTape H v t) : IsTape H' v t := by
  obtain ⟨a, rfl, h⟩ := h
  exact ⟨a, rfl, e _ _ h⟩
theorem tapeV_at {t : List Nat} {i : Nat} {x : V} (h : (tapeV t)[i]? = some x) : ∃ c, t[i]? = some c ∧ x = .int (c : Nat) := by
  unfold tapeV at h
  rw [List.getElem?_map] at h
  cases e : t[i]? with
  | none => rw [e] at h; cases h
  | some c =>
    rw [e] at h
    exact ⟨c, rfl, (Option.some.inj h).symm⟩
theorem tapeV_len (t : List Nat) : (tapeV t).length = t.length := List.length_map _
theorem tapeV_app (t u : List Nat) : tapeV t ++ tapeV u = tapeV (t ++ u) := (List.map_append ..).symm
theorem tapeV_ints (t : List Nat) : tapeV t = (t.map fun c => ((c : Nat) : Int)).map V.int := by
  unfold tapeV
  rw [List.map_map]
  rfl
theorem cast_inj {t u : List Nat} : (t.map fun c => ((c : Nat) : Int)) = (u.map fun c => ((c : Nat) : Int)) ↔ t = u := by
  constructor
  · intro h
    induction t generalizing u with
    | nil => cases u with
      | nil => rfl
      | cons _ _ => cases h
    | cons a r ih => cases u with
      | nil => cases h
      | cons b v =>
        rw [List.map_cons, List.map_cons] at h
        injection h with h1 h2
        rw [ih h2, show a = b by omega]
  · rintro rfl
    rfl
theorem r_neT {K : PySem.W.Frag} {H : Hp} {Q : VK} {a b : Addr} {t u : List Nat} (h1 : H a = some (.lst (tapeV t))) (h2 : H b = some (.lst (tapeV u))) (q : Q (.bl (!decide (t = u))) H) : uNe K (.ref a) (.ref b) H Q := by
  rw [tapeV_ints] at h1 h2
  refine r_neLI h1 h2 ?_
  have e : decide ((t.map fun c => ((c : Nat) : Int)) = (u.map fun c => ((c : Nat) : Int))) = decide (t = u) := by
    by_cases h : t = u
    · rw [decide_eq_true h, decide_eq_true (cast_inj.mpr h)]
    · rw [decide_eq_false h, decide_eq_false fun z => h (cast_inj.mp z)]
  rw [e]
  exact q
namespace Sh
def Codes (s : Sh) (t : List Nat) : Prop := ∀ c ∈ t, c < s.n + 2
def sign (s : Sh) (c : Nat) (b : Bool) : Nat := (s.signs b).getD c 0
def txt (s : Sh) : List Nat → Bool → List Nat
  | [], _ => []
  | c :: t, b => (if s.n ≤ c then [] else [s.sign c b]) ++ txt s t (s.behind c b)
def sets (s : Sh) : List Nat → Bool → List Bool
  | [], _ => []
  | c :: t, b => s.behind c b :: sets s t (s.behind c b)
def last (s : Sh) : List Nat → Bool → Bool
  | [], b => b
  | c :: t, b => last s t (s.behind c b)
theorem txt_app (s : Sh) : ∀ (t u : List Nat) (b : Bool), s.txt (t ++ u) b = s.txt t b ++ s.txt u (s.last t b)
  | [], _, _ => rfl
  | c :: t, u, b => by
    show (if s.n ≤ c then [] else [s.sign c b]) ++ s.txt (t ++ u) (s.behind c b) = _
    rw [txt_app s t u]
    exact (List.append_assoc ..).symm
theorem sets_app (s : Sh) : ∀ (t u : List Nat) (b : Bool), s.sets (t ++ u) b = s.sets t b ++ s.sets u (s.last t b)
  | [], _, _ => rfl
  | c :: t, u, b => by
    show s.behind c b :: s.sets (t ++ u) (s.behind c b) = _
    rw [sets_app s t u]
    rfl
theorem last_app (s : Sh) : ∀ (t u : List Nat) (b : Bool), s.last (t ++ u) b = s.last u (s.last t b)
  | [], _, _ => rfl
  | c :: t, u, b => last_app s t u (s.behind c b)
theorem txt_len (s : Sh) : ∀ (t : List Nat) (b : Bool), (s.txt t b).length ≤ t.length
  | [], _ => Nat.le_refl _
  | c :: t, b => by
    show ((if s.n ≤ c then [] else [s.sign c b]) ++ s.txt t (s.behind c b)).length ≤ t.length + 1
    have ih := txt_len s t (s.behind c b)
    rw [List.length_append]
    by_cases h : s.n ≤ c
    · rw [if_pos h]; simp; omega
    · rw [if_neg h]; simp; omega
theorem sets_len (s : Sh) : ∀ (t : List Nat) (b : Bool), (s.sets t b).length = t.length
  | [], _ => rfl
  | c :: t, b => congrArg (· + 1) (sets_len s t (s.behind c b))
theorem sets_last (s : Sh) : ∀ (t : List Nat) (b : Bool), ((b :: s.sets t b).getLast?) = some (s.last t b)
  | [], _ => rfl
  | c :: t, b => by
    show (b :: s.behind c b :: s.sets t (s.behind c b)).getLast? = _
    rw [List.getLast?_cons_cons]
    exact sets_last s t (s.behind c b)
theorem signs_len {s : Sh} (ok : s.Ok) (b : Bool) : (s.signs b).length = s.n := by
  cases b
  · rfl
  · exact ok.len
theorem sign_at {s : Sh} (ok : s.Ok) {c : Nat} {b : Bool} (h : c < s.n) : (s.signs b)[c]? = some (s.sign c b) := by
  unfold sign
  rw [List.getD_eq_getElem?_getD, List.getElem?_eq_getElem (by rw [signs_len ok]; exact h)]
  rfl
end Sh
theorem take_snoc {α : Type} {l : List α} {i : Nat} {x : α} (h : l[i]? = some x) : l.take (i + 1) = l.take i ++ [x] := by
  rw [List.take_add_one, h]
  rfl
section
variable {H : Hp} {Q : VK} {v : V} {sh : Sh} {b : Bool}
/-- sheet[number] -/
theorem r_ixSh (h : IsSh H v sh) (q : Q (.str (mkS (sh.signs b))) H) : uIx K v (setV b) H Q := by
  obtain ⟨a, rfl, ha⟩ := h
  refine r_ixU ha (n := (b2n b : Nat)) ?_ q
  cases b <;> rfl
theorem r_ixC {l : List Nat} {c x : Nat} (h : l[c]? = some x) (hl : l.length ≤ 100000) (q : Q (.str (mkS [x])) H) : uIx K (.str (mkS l)) (.int (c : Nat)) H Q :=
  r_ixS (by rw [len_mkS]; exact le_size hl) (atI_nat (by rw [tl_mkS]; exact h)) q
end
theorem join_signs (l : List Nat) : Txt.join (Str.ofString "") (l.map fun c => mkS [c]) = mkS l := by
  refine TL.ext_tl ?_
  rw [TL.join_eq, TL.tl_join]
  show TL.joinL [] ((l.map fun c => mkS [c]).map TL.tl) = l
  rw [List.map_map]
  have e : ∀ l : List Nat, TL.joinL [] (l.map ((TL.tl) ∘ fun c => mkS [c])) = l := by
    intro l
    induction l with
    | nil => rfl
    | cons c r ih =>
      cases r with
      | nil => rfl
      | cons d r =>
        show [c] ++ ([] ++ TL.joinL [] ((d :: r).map ((TL.tl) ∘ fun c => mkS [c]))) = _
        rw [ih]
        rfl
  exact e l
theorem join_size (l : List Nat) (h : l.length ≤ 100000) : ((l.map fun c => mkS [c]).map (·.length)).sum + (l.map fun c => mkS [c]).length * (Str.ofString "").length ≤ 16777216 := by
  have e : ∀ l : List Nat, ((l.map fun c => mkS [c]).map (·.length)).sum = l.length := by
    intro l
    induction l with
    | nil => rfl
    | cons c r ih =>
      show 1 + ((r.map fun c => mkS [c]).map (·.length)).sum = r.length + 1
      omega
  rw [e]
  have z : (Str.ofString "").length = 0 := by decide
  rw [z]
  omega
def spGone : Sp := fun vs H Q _ => ∃ (v u : V) (sh : Sh) (t : List Nat) (b : Bool), vs = [v, u, setV b] ∧ IsSh H v sh ∧ sh.Ok ∧ IsTape H u t ∧ sh.Codes t ∧ t.length ≤ 10000 ∧
  ∀ p ps H', Same H H' → H' p = some (.tup [.str (mkS (sh.txt t b)), .ref ps]) → H' ps = some (.lst ((sh.sets t b).map setV)) → Q (.ref p) H'
theorem use_gone {H : Hp} {Q : VK} {E : XK} {v u : V} {sh : Sh} {t : List Nat} {b : Bool} (h : IsSh H v sh) (ok : sh.Ok) (ht : IsTape H u t) (hc : sh.Codes t) (hl : t.length ≤ 10000)
    (q : ∀ p ps H', Same H H' → H' p = some (.tup [.str (mkS (sh.txt t b)), .ref ps]) → H' ps = some (.lst ((sh.sets t b).map setV)) → Q (.ref p) H') : spGone [v, u, setV b] H Q E := ⟨v, u, sh, t, b, rfl, h, ok, ht, hc, hl, q⟩
def spBegun (K : PySem.W.Frag) : Sp := fun vs H Q _ => ∃ (a : Addr) (ns : List Int), vs = [.ref a] ∧ SqL K H a (ns.map V.int) ∧ ns.length ≤ 63 ∧ ∀ v H', Same H H' → Box H' v → Q v H'
theorem use_begun {K : PySem.W.Frag} {H : Hp} {Q : VK} {E : XK} {a : Addr} {ns : List Int} (h : SqL K H a (ns.map V.int)) (hl : ns.length ≤ 63) (q : ∀ v H', Same H H' → Box H' v → Q v H') : spBegun K [.ref a] H Q E := ⟨a, ns, rfl, h, hl, q⟩
theorem ok__law_begun {k : Nat} (T : TX mg) (F : Df K mg "_law_begun" s__law_begun ["_law_script"]) : OkAt P w K mg base "_law_begun" (k + 1) ["_law_script"] (spBegun K) := by
  refine F.ok sc__law_begun (fun vs H Q E h => ?_) (fun f cdv A outer s H vs Q E hr h => ?_)
  · obtain ⟨a, ns, rfl, _⟩ := h
    rfl
  · obtain ⟨a, ns, rfl, ha, hl, q⟩ := h
    refine ⟨_, (pss_cons (ps_set (i := 1) sc__law_begun.nd rfl (by first | exact Or.inl rfl | exact Or.inr rfl) pe_int) (pss_cons (ps_for PassesOwn.never rfl (pi_listK K (pv 0)) (pg_name (i := 2) sc__law_begun.nd rfl (by first | exact Or.inl rfl | exact Or.inr rfl)) (pss_one (ps_set (i := 1) sc__law_begun.nd rfl (by first | exact Or.inl rfl | exact Or.inr rfl) (pe_op op_uMod (pe_op (op_uAdd K) (pe_op (op_uAdd K) (pe_op op_uMul (pv 1) pe_int) (pe_op op_uMul (pv 2) pe_int)) pe_int) pe_int)))) (pss_one (ps_ret (pe_hide (pe_hide (pe_lstN (pa_cons (pe_callTy (cr_listN K) (by rfl) T.b_list (by decide +kernel) (pa_cons (pv 0) pa_nil)) (pa_cons (pe_op op_uMul (pv 1) (pe_callTy cr_int (by rfl) T.b_int (by decide +kernel) (pa_cons (pe_cmpR op_uGt (pe_callB (cr_len K) (by rfl) T.b_len (by decide +kernel) (pa_cons (pv 0) pa_nil)) pe_int (nomark _)) pa_nil))) pa_nil))))))))), ?_⟩
    walk_at "r"
    refine f_listQ ha (fun i σ H' => ∃ (z : Int) (y : Option V), σ = [some (.ref a), some (.int z), y] ∧ H' = H ∧ 0 ≤ z ∧ z < 2147483647) ⟨0, none, rfl, rfl, by decide, by decide⟩ ?_ ?_ ?_
    · rintro i σ H' _ ⟨z, y, _, rfl, _⟩
      exact ha
    · rintro i x σ H' hx ⟨z, y, rfl, rfl, z0, z1⟩
      obtain ⟨n, rfl⟩ : ∃ n, x = .int n := by
        rw [List.getElem?_map] at hx
        cases e : ns[i]? with
        | none => rw [e] at hx; cases hx
        | some n => rw [e] at hx; exact ⟨n, (Option.some.inj hx).symm⟩
      walk_at "r"
      refine r_mulI (.inr ⟨by decide, by decide⟩) ?_
      walk_at "r"
      refine r_mulI (.inr ⟨by decide, by decide⟩) ?_
      walk_at "r"
      refine r_modI (by decide) ?_
      walk_at "r"
      exact ⟨_, _, rfl, rfl, Int.emod_nonneg _ (by decide), Int.emod_lt_of_pos _ (by decide)⟩
    · rintro σ H' ⟨z, y, rfl, rfl, z0, z1⟩
      walk_at "r"
      refine r_listQ ha fun l H1 n1 s1 e1 => ?_
      walk_at "r"
      refine r_lenQ (s1.seq ha) ?_
      walk_at "r"
      refine r_mulI (.inr (by split <;> exact ⟨by decide, by decide⟩)) ?_
      walk_at "r"
      intro b H2 n2 s2 e2
      have bl : l ≠ b := ne_of_none e1 n2
      refine ⟨l, _, PN, s2 _ _ e1, ⟨ns, rfl⟩, fun H3 k3 e3 => ⟨b, _, PB l, k3 _ _ bl.symm e2, ⟨_, ?_, ?_, rfl⟩, fun H4 k4 e4 => q _ H4 ?_ ⟨b, l, rfl, e4, k4 _ _ bl e3, bl.symm⟩⟩⟩
      · split <;> omega
      · split <;> omega
      · exact k4.same (k3.same (s1.trans s2) n1) (s1.free n2)

def signsV (l : List Nat) : List V := l.map fun c => V.str (sing c)
theorem signsV_len (l : List Nat) : (signsV l).length = l.length := List.length_map _
theorem signsV_at {l : List Nat} {i c : Nat} (h : l[i]? = some c) : (signsV l)[i]? = some (.str (sing c)) := by
  unfold signsV
  rw [List.getElem?_map, h]
  rfl
def spPicked : Sp := fun vs H Q _ => ∃ (v : V) (z : Str) (m : Int), vs = [v, .str z, .int m] ∧ Box H v ∧ z.cps.toList.Nodup ∧ 0 ≤ m ∧ m ≤ z.cps.toList.length ∧ z.cps.toList.length ≤ 1000 ∧
  ∀ p r H', H p = none → Same H H' → H' p = some (.lst (signsV r)) → (r.length : Int) = m → r.Nodup → (∀ c ∈ r, c ∈ z.cps.toList) → Q (.ref p) H'
theorem use_picked {H : Hp} {Q : VK} {E : XK} {v : V} {z : Str} {m : Int} (h : Box H v) (nd : z.cps.toList.Nodup) (h0 : 0 ≤ m) (h1 : m ≤ z.cps.toList.length) (h2 : z.cps.toList.length ≤ 1000)
    (q : ∀ p r H', H p = none → Same H H' → H' p = some (.lst (signsV r)) → (r.length : Int) = m → r.Nodup → (∀ c ∈ r, c ∈ z.cps.toList) → Q (.ref p) H') : spPicked [v, .str z, .int m] H Q E := ⟨v, z, m, rfl, h, nd, h0, h1, h2, q⟩
theorem erase_perm {α : Type} : ∀ (r : List α) (i : Nat) (c : α), r[i]? = some c → (c :: r.eraseIdx i).Perm r
  | [], i, c, h => by simp at h
  | x :: r, 0, c, h => by
    have e : x = c := by simpa using h
    subst e
    exact List.Perm.refl _
  | x :: r, i + 1, c, h => by
    have ih := erase_perm r i c (by simpa using h)
    exact (List.Perm.swap x c (r.eraseIdx i)).trans (List.Perm.cons x ih)
theorem erase_map {α β : Type} (g : α → β) : ∀ (r : List α) (i : Nat), (r.map g).eraseIdx i = (r.eraseIdx i).map g
  | [], _ => rfl
  | x :: r, 0 => rfl
  | x :: r, i + 1 => congrArg (g x :: ·) (erase_map g r i)
theorem perm_pick {l u r : List Nat} {i c : Nat} (p : (u ++ r).Perm l) (h : r[i]? = some c) : ((u ++ [c]) ++ r.eraseIdx i).Perm l := by
  refine List.Perm.trans ?_ p
  rw [List.append_assoc]
  refine List.Perm.append_left u ?_
  exact erase_perm r i c h
theorem ok__law_picked {k : Nat} (T : TX mg) (F : Df K mg "_law_picked" s__law_picked ["_law_box", "_law_signs", "_law_many"]) (o__law_take : OkAt P w K mg base "_law_take" k ["_law_box", "_law_many"] spTake) :
    OkAt P w K mg base "_law_picked" (k + 1) ["_law_box", "_law_signs", "_law_many"] spPicked := by
  refine F.ok sc__law_picked (fun vs H Q E h => ?_) (fun f cdv A outer s H vs Q E hr h => ?_)
  · obtain ⟨v, z, m, rfl, _⟩ := h
    rfl
  · obtain ⟨v, z, m, rfl, hb, nd, m0, m1, hl, q⟩ := h
    have zl : z.length = z.cps.toList.length := (Array.length_toList).symm
    refine ⟨_, (pss_cons (ps_set (i := 3) sc__law_picked.nd rfl (by first | exact Or.inl rfl | exact Or.inr rfl) (pe_callTy cr_listS (by rfl) T.b_list (by decide +kernel) (pa_cons (pv 1) pa_nil))) (pss_one (ps_ret (pe_lc (own := [("_law_turn", 4)]) (g := gName 4) (tt := tYes) rfl sc__law_picked.nd (pi_range1 (by rfl) T.b_range (pa_cons (pv 2) pa_nil)) (blkOk_by (own := [("_law_turn", 4)]) (N := ["_law_box", "_law_signs", "_law_many", "_law_left", "_law_turn"]) (sc := defScope s__law_picked) (by decide +kernel)) (fun _ _ _ _ _ => (pg_name (i := 4) sc__law_picked.nd rfl (by first | exact Or.inl rfl | exact Or.inr rfl))) (fun _ _ _ _ _ => pts_nil) (fun _ _ _ _ _ => (pe_bmK K PySem.F.plainAttrs_list PySem.F.slot_list_pop PySem.F.type_list_pop mt_popAtN (pv 3) (pa_cons (pe_cl o__law_take hr (by rfl) (pa_cons (pv 0) (pa_cons (pe_callB (cr_len K) (by rfl) T.b_len (by decide +kernel) (pa_cons (pv 3) pa_nil)) pa_nil))) pa_nil))))))), ?_⟩
    walk_at "r"
    refine ⟨z, rfl, by omega, fun p H1 n1 s1 e1 => ?_⟩
    generalize z.cps.toList = l at *
    walk_at "r"
    refine c_range1G m0 (by omega) (fun D i H' => ∃ u r, (u ++ r).Perm l ∧ u.length = i ∧ Same H H' ∧ H' p = some (.lst (signsV r)) ∧ H' D = some (.lst (signsV u))) (fun D H2 nD s2 e2 => ⟨[], l, List.Perm.refl _, rfl, s1.trans s2, s2 _ _ e1, e2⟩) ?_ ?_
    · rintro D i H' hi nD ⟨u, r, pm, hu, s2, e2, e3⟩
      have hlen : u.length + r.length = l.length := by
        have := pm.length_eq
        rw [List.length_append] at this
        exact this
      have dp : p ≠ D := ne_of_none e1 nD
      walk_at "r"
      refine ⟨rfl, ?_⟩
      walk_at "r"
      rw [signsV_len]
      refine use_take (same_box s2 hb) (by omega) (by omega) fun j H3 hj s3 => ?_
      walk_at "r"
      obtain ⟨c, hc⟩ : ∃ c, r[j]? = some c := ⟨r[j], List.getElem?_eq_getElem (by omega)⟩
      refine r_popAt (s3 _ _ e2) rfl (by rw [signsV_len]; omega) (signsV_at hc) fun H4 k4 e4 => ?_
      refine ⟨_, k4 _ _ dp.symm (s3 _ _ e3), by rw [signsV_len]; exact lt_size (by omega), u ++ [c], r.eraseIdx j, perm_pick pm hc, by rw [List.length_append]; simp [hu], ?_, ?_, ?_⟩
      · exact (but_upd (o := .lst (signsV u ++ [.str (sing c)]))).same (k4.same (s2.trans s3) n1) (s1.free nD)
      · rw [upd_ne dp, e4]
        unfold signsV
        rw [erase_map]
      · rw [upd_same]
        unfold signsV
        rw [List.map_append]
        rfl
    · rintro D H' nD ⟨u, r, pm, hu, s2, e2, e3⟩
      refine q D u H' (s1.free nD) s2 e3 (by omega) ?_ ?_
      · exact (List.nodup_append.mp (pm.nodup_iff.mpr nd)).1
      · exact fun c hc => pm.subset (List.mem_append_left _ hc)

/-- signs to draw from -/
structure Alpha (z : Str) : Prop where
  nd : z.cps.toList.Nodup
  ok : ∀ c ∈ z.cps.toList, 32 ≤ c ∧ c ≤ 126
  len : 26 ≤ z.cps.toList.length
  most : z.cps.toList.length ≤ 1000
theorem alpha_A : Alpha (Str.ofString "abcdefghijklmnopqrstuvwxyz .,") := ⟨by decide +kernel, by decide +kernel, by decide +kernel, by decide +kernel⟩
theorem alpha_B : Alpha (Str.ofString "0123456789abcdefgh!?-+ .,:/()xyz") := ⟨by decide +kernel, by decide +kernel, by decide +kernel, by decide +kernel⟩
theorem alpha_E : Alpha (Str.ofString " !\"#$&'()*+,-./0123456789:;<=>?@ABCDEFGHIJKLMNOPQRSTUVWXYZ[\\]^_`" ++ Str.ofString "abcdefghijklmnopqrstuvwxyz{|}~") := ⟨by decide +kernel, by decide +kernel, by decide +kernel, by decide +kernel⟩
theorem inV_signs (c : Nat) (l : List Nat) : inV (.str (sing c)) (signsV l) = decide (c ∈ l) := by
  unfold inV signsV
  rw [List.any_map]
  induction l with
  | nil => rfl
  | cons a r ih =>
    rw [List.any_cons, ih]
    show (sing a == sing c || _) = _
    by_cases e : a = c
    · subst e
      simp
    · have h : (sing a == sing c) = false := by simpa using fun z => e (sing_inj z)
      rw [h, Bool.false_or]
      by_cases h2 : c ∈ r
      · rw [decide_eq_true h2, decide_eq_true (List.mem_cons_of_mem _ h2)]
      · rw [decide_eq_false h2, decide_eq_false fun z => by
          rcases List.mem_cons.mp z with z | z
          · exact e z.symm
          · exact h2 z]
theorem flat_signs (l : List Nat) : (signsV l).all flatV = true := by
  unfold signsV
  rw [List.all_map]
  exact List.all_eq_true.mpr fun _ _ => rfl
theorem signsV_strs (l : List Nat) : signsV l = (l.map fun c => mkS [c]).map V.str := by
  unfold signsV
  rw [List.map_map]
  rfl
theorem nodup_set {l : List Nat} (nd : l.Nodup) {i c : Nat} (h : c ∉ l) : (l.set i c).Nodup := by
  induction l generalizing i with
  | nil => simpa using nd
  | cons a r ih =>
    obtain ⟨na, nr⟩ := List.nodup_cons.mp nd
    have hc : c ∉ r := fun z => h (List.mem_cons_of_mem _ z)
    cases i with
    | zero => exact List.nodup_cons.mpr ⟨hc, nr⟩
    | succ i =>
      refine List.nodup_cons.mpr ⟨fun z => ?_, ih nr hc⟩
      rcases List.mem_or_eq_of_mem_set z with z | z
      · exact na z
      · exact h (z ▸ List.mem_cons_self)
theorem pick2 {x y : V} {j : Nat} (h : j < 2) {Pd : V → Prop} (px : Pd x) (py : Pd y) : ∃ z, atI [x, y] (j : Int) = some z ∧ Pd z := by
  match j, h with
  | 0, _ => exact ⟨x, rfl, px⟩
  | 1, _ => exact ⟨y, rfl, py⟩
def spSheet : Sp := fun vs H Q _ => ∃ (v : V) (m : Int), vs = [v, .int m] ∧ Box H v ∧ 1 ≤ m ∧ m ≤ 26 ∧ ∀ u sh H', Same H H' → IsSh H' u sh → sh.Ok → (sh.n : Int) ≤ m → Q u H'
theorem use_sheet {H : Hp} {Q : VK} {E : XK} {v : V} {m : Int} (h : Box H v) (h1 : 1 ≤ m) (h2 : m ≤ 26) (q : ∀ u sh H', Same H H' → IsSh H' u sh → sh.Ok → (sh.n : Int) ≤ m → Q u H') : spSheet [v, .int m] H Q E := ⟨v, m, rfl, h, h1, h2, q⟩
theorem ok__law_sheet {k : Nat} (T : TX mg) (F : Df K mg "_law_sheet" s__law_sheet ["_law_box", "_law_most"]) (o__law_take : OkAt P w K mg base "_law_take" k ["_law_box", "_law_many"] spTake)
    (o__law_picked : OkAt P w K mg base "_law_picked" k ["_law_box", "_law_signs", "_law_many"] spPicked) : OkAt P w K mg base "_law_sheet" (k + 1) ["_law_box", "_law_most"] spSheet := by
  refine F.ok sc__law_sheet (fun vs H Q E h => ?_) (fun f cdv A outer s H vs Q E hr h => ?_)
  · obtain ⟨v, m, rfl, _⟩ := h
    rfl
  · obtain ⟨v, m, rfl, hb, m1, m2, q⟩ := h
    refine ⟨_, (pss_cons (ps_set (i := 2) sc__law_sheet.nd rfl (by first | exact Or.inl rfl | exact Or.inr rfl) (pe_op (op_uAdd K) pe_int (pe_cl o__law_take hr (by rfl) (pa_cons (pv 0) (pa_cons (pv 1) pa_nil))))) (pss_cons (ps_set (i := 3) sc__law_sheet.nd rfl (by first | exact Or.inl rfl | exact Or.inr rfl) pe_str) (pss_cons (ps_set (i := 3) sc__law_sheet.nd rfl (by first | exact Or.inl rfl | exact Or.inr rfl) (pe_op (op_uAdd K) (pv 3) pe_str)) (pss_cons (ps_set (i := 4) sc__law_sheet.nd rfl (by first | exact Or.inl rfl | exact Or.inr rfl) (pe_op op_uFdiv (pe_cl o__law_take hr (by rfl) (pa_cons (pv 0) (pa_cons pe_int pa_nil))) pe_int)) (pss_cons (ps_set (i := 5) sc__law_sheet.nd rfl (by first | exact Or.inl rfl | exact Or.inr rfl) (pe_cl o__law_picked hr (by rfl) (pa_cons (pv 0) (pa_cons (pe_ix (ix_u K) (pe_lstN (pa_cons pe_str (pa_cons (pv 3) pa_nil))) (pv 4) (fun _ _ => rfl)) (pa_cons (pv 2) pa_nil))))) (pss_cons (ps_set (i := 6) sc__law_sheet.nd rfl (by first | exact Or.inl rfl | exact Or.inr rfl) (pe_cl o__law_picked hr (by rfl) (pa_cons (pv 0) (pa_cons (pe_ix (ix_u K) (pe_lstN (pa_cons pe_str (pa_cons (pv 3) pa_nil))) (pv 4) (fun _ _ => rfl)) (pa_cons (pv 2) pa_nil))))) (pss_cons (ps_for PassesOwn.never rfl (pi_range1 (by rfl) T.b_range (pa_cons (pv 2) pa_nil)) (pg_name (i := 7) sc__law_sheet.nd rfl (by first | exact Or.inl rfl | exact Or.inr rfl)) (pss_one (ps_if (PW.pt (pw_and (pt_cmpR (op_uEq K hr.units) (pe_cl o__law_take hr (by rfl) (pa_cons (pv 0) (pa_cons pe_int pa_nil))) pe_int (nomark _)) (pw_and1 (pt_cmpR (op_uNi K) (pe_ix (ix_u K) (pv 5) (pv 7) (fun _ _ => rfl)) (pv 6) (by rfl))))) (pss_one (ps_asg (pe_ix (ix_u K) (pv 5) (pv 7) (fun _ _ => rfl)) (pg_sub (pv 6) (pv 7) set_u))) pss_nil))) (pss_cons (ps_set (i := 8) sc__law_sheet.nd rfl (by first | exact Or.inl rfl | exact Or.inr rfl) (pe_ix (ix_u K) (pe_lstN (pa_cons pe_non (pa_cons (pe_cl o__law_take hr (by rfl) (pa_cons (pv 0) (pa_cons (pv 2) pa_nil))) pa_nil))) (pe_cl o__law_take hr (by rfl) (pa_cons (pv 0) (pa_cons pe_int pa_nil))) (fun _ _ => rfl))) (pss_one (ps_ret (pe_tupN (pa_cons (pe_bmK K PySem.F.plainAttrs_str PySem.F.slot_str_join PySem.F.type_str_join (mt_joinN K) pe_str (pa_cons (pv 5) pa_nil)) (pa_cons (pe_bmK K PySem.F.plainAttrs_str PySem.F.slot_str_join PySem.F.type_str_join (mt_joinN K) pe_str (pa_cons (pv 6) pa_nil)) (pa_cons (pv 8) pa_nil)))))))))))))), ?_⟩
    walk_at "r"
    refine use_take hb (by omega) (by omega) fun r1 H1 hr1 s1 => ?_
    walk_at "r"
    refine r_addS (le_size (by decide +kernel)) ?_
    walk_at "r"
    refine use_take (same_box s1 hb) (by decide) (by decide) fun r2 H2 hr2 s2 => ?_
    walk_at "r"
    refine r_fdivI (cdiv_of (by decide) (by decide)) ?_
    walk_at "r"
    intro p1 H3 n1 s3 e3
    walk_at "r"
    have s123 := (s1.trans s2).trans s3
    obtain ⟨j, hj, j2⟩ : ∃ j : Nat, (r2 : Int) / 3 = (j : Int) ∧ j < 2 := ⟨r2 / 3, by omega, by omega⟩
    rw [hj]
    obtain ⟨zA, hA, ⟨zA, rfl, alA⟩⟩ := pick2 (Pd := fun x => ∃ z, x = .str z ∧ Alpha z) j2 ⟨_, rfl, alpha_A⟩ ⟨_, rfl, alpha_E⟩
    refine r_ixL e3 hA ?_
    walk_at "r"
    have lA := alA.len
    refine use_picked (same_box s123 hb) alA.nd (by omega) (by omega) alA.most fun pz z0 H4 n4 s4 e4 len0 nd0 in0 => ?_
    walk_at "r"
    intro p2 H5 n5 s5 e5
    walk_at "r"
    obtain ⟨zB, hB, ⟨zB, rfl, alB⟩⟩ := pick2 (Pd := fun x => ∃ z, x = .str z ∧ Alpha z) j2 ⟨_, rfl, alpha_B⟩ ⟨_, rfl, alpha_E⟩
    refine r_ixL e5 hB ?_
    walk_at "r"
    have s15 := (s123.trans s4).trans s5
    have lB := alB.len
    refine use_picked (same_box s15 hb) alB.nd (by omega) (by omega) alB.most fun po o0 H6 n6 s6 e6 len1 nd1 in1 => ?_
    walk_at "r"
    have ez := s6 _ _ (s5 _ _ e4)
    have nz : H pz = none := s123.free n4
    have no : H po = none := s15.free n6
    have dzo : pz ≠ po := ne_of_none (s5 _ _ e4) n6
    refine f_range1 (by omega) (by omega) (fun i σ H' => ∃ y3 y4 y7 l, σ = [some v, some (.int m), some (.int (1 + (r1 : Int))), y3, y4, some (.ref pz), some (.ref po), y7, none] ∧ Same H H' ∧
      H' pz = some (.lst (signsV z0)) ∧ H' po = some (.lst (signsV l)) ∧ l.length = z0.length ∧ l.Nodup ∧ ∀ c ∈ l, 32 ≤ c ∧ c ≤ 126)
      ⟨_, _, _, o0, rfl, s15.trans s6, ez, e6, by omega, nd1, fun c hc => alB.ok c (in1 c hc)⟩ ?_ ?_
    · rintro i σ H' hi ⟨y3, y4, y7, l, rfl, s, g1, g2, ll, nd, ok⟩
      walk_at "r"
      refine use_take (same_box s hb) (by decide) (by decide) fun r3 H7 _ s7 => ?_
      walk_at "r"
      have g1' := s7 _ _ g1
      have g2' := s7 _ _ g2
      obtain ⟨c, hc⟩ : ∃ c, z0[i]? = some c := ⟨z0[i], List.getElem?_eq_getElem (by omega)⟩
      have cok := alA.ok c (in0 c (List.mem_of_getElem? hc))
      refine w_dec (fun _ => ?_) (fun _ => ?_)
      · walk_at "r"
        refine r_ixL g1' (atI_nat (signsV_at hc)) ?_
        walk_at "r"
        refine r_niL g2' rfl (flat_signs l) ?_
        rw [inV_signs]
        walk_at "r"
        refine w_nd (fun h => ?_) (fun _ => ?_)
        · walk_at "r"
          refine r_ixL g1' (atI_nat (signsV_at hc)) ?_
          walk_at "r"
          refine r_setL g2' (ixN_nat (by rw [signsV_len]; omega)) fun H8 k8 e8 => ?_
          refine ⟨_, _, _, l.set i c, rfl, k8.same (s.trans s7) no, k8 _ _ dzo g1', ?_, by rw [List.length_set]; exact ll, nodup_set nd h, fun d hd => ?_⟩
          · rw [e8]
            unfold signsV
            rw [List.map_set]
          · rcases List.mem_or_eq_of_mem_set hd with z | z
            · exact ok d z
            · exact z ▸ cok
        · walk_at "r"
          exact ⟨_, _, _, l, rfl, s.trans s7, g1', g2', ll, nd, ok⟩
      · walk_at "r"
        exact ⟨_, _, _, l, rfl, s.trans s7, g1', g2', ll, nd, ok⟩
    · rintro σ H' ⟨y3, y4, y7, l, rfl, s, g1, g2, ll, nd, ok⟩
      walk_at "r"
      refine use_take (same_box s hb) (by omega) (by omega) fun rh H7 hrh s7 => ?_
      walk_at "r"
      intro p8 H8 n8 s8 e8
      walk_at "r"
      have s78 := (s.trans s7).trans s8
      refine use_take (same_box s78 hb) (by decide) (by decide) fun r9 H9 h9 s9 => ?_
      obtain ⟨x, hx, ⟨o, rfl, ho⟩⟩ := pick2 (Pd := fun x => ∃ o : Option Nat, x = hV o ∧ ∀ h, o = some h → h < z0.length) (j := r9) (by omega) ⟨none, rfl, fun h z => nomatch z⟩ ⟨some rh, rfl, fun h z => by
        have := Option.some.inj z
        omega⟩
      refine r_ixL (s9 _ _ e8) hx ?_
      walk_at "r"
      have s79 := (s7.trans s8).trans s9
      have h26 : z0.length ≤ 26 := by omega
      refine r_join (ys := z0.map fun c => mkS [c]) (by rw [← signsV_strs]; exact s79 _ _ g1) (join_size _ (by omega)) ?_
      rw [join_signs]
      walk_at "r"
      refine r_join (ys := l.map fun c => mkS [c]) (by rw [← signsV_strs]; exact s79 _ _ g2) (join_size _ (by omega)) ?_
      rw [join_signs]
      walk_at "r"
      intro pr Hr nr sr er
      refine q _ ⟨z0, l, o⟩ Hr ((s.trans s79).trans sr) ⟨pr, rfl, er⟩ ⟨ll, ?_, h26, nd0, nd, fun c hc => alA.ok c (in0 c hc), ok, ho⟩ ?_
      · show 1 ≤ z0.length
        omega
      · show (z0.length : Int) ≤ m
        omega

/-! ### data as the asker compares it -/
mutual
inductive Da (H : Hp) : V → PyData → Prop
  | non : Da H .non .none
  | bl (b : Bool) : Da H (.bl b) (.bool b)
  | int (i : Int) : Da H (.int i) (.int i)
  | str (x : Str) : Da H (.str x) (.str x)
  | lst {a : Addr} {xs : List V} {ds : List PyData} : H a = some (.lst xs) → DaAll H xs ds → Da H (.ref a) (.list ds)
  | tup {a : Addr} {xs : List V} {ds : List PyData} : H a = some (.tup xs) → DaAll H xs ds → Da H (.ref a) (.tuple ds)
inductive DaAll (H : Hp) : List V → List PyData → Prop
  | nil : DaAll H [] []
  | cons {v : V} {vs : List V} {d : PyData} {ds : List PyData} : Da H v d → DaAll H vs ds → DaAll H (v :: vs) (d :: ds)
end
mutual
theorem same_da {H H' : Hp} (e : Same H H') : ∀ (d : PyData) (v : V), Da H v d → Da H' v d
  | .none, _, h => by cases h; exact .non
  | .bool b, _, h => by cases h; exact .bl b
  | .int i, _, h => by cases h; exact .int i
  | .str s, _, h => by cases h; exact .str s
  | .list ds, _, h => by
    cases h with
    | lst hl ha => exact .lst (e _ _ hl) (same_daAll e ds _ ha)
  | .tuple ds, _, h => by
    cases h with
    | tup hl ha => exact .tup (e _ _ hl) (same_daAll e ds _ ha)
  | .dict _, _, h => by cases h
theorem same_daAll {H H' : Hp} (e : Same H H') : ∀ (ds : List PyData) (vs : List V), DaAll H vs ds → DaAll H' vs ds
  | [], _, h => by cases h; exact .nil
  | d :: ds, _, h => by
    cases h with
    | cons h1 h2 => exact .cons (same_da e d _ h1) (same_daAll e ds _ h2)
end
theorem daAll_len {H : Hp} : ∀ {vs : List V} {ds : List PyData}, DaAll H vs ds → vs.length = ds.length
  | _, _, .nil => rfl
  | _, _, .cons _ h => congrArg (· + 1) (daAll_len h)
theorem daAll_at {H : Hp} : ∀ {vs : List V} {ds : List PyData} (_ : DaAll H vs ds) (i : Nat) (d : PyData), ds[i]? = some d → ∃ v, vs[i]? = some v ∧ Da H v d
  | _, _, .nil, i, d, h => by simp at h
  | _, _, .cons h1 _, 0, d, h => by
    simp at h
    subst h
    exact ⟨_, rfl, h1⟩
  | _, _, .cons _ t, i + 1, d, h => by
    obtain ⟨v, e, q⟩ := daAll_at t i d (by simpa using h)
    exact ⟨v, by simpa using e, q⟩
def tyN : PyData → String
  | .none => "NoneType"
  | .bool _ => "bool"
  | .int _ => "int"
  | .str _ => "str"
  | .list _ => "list"
  | .tuple _ => "tuple"
  | .dict _ => "dict"
theorem da_ty {K : PySem.W.Frag} {H : Hp} {v : V} {d : PyData} (h : Da H v d) : TyX K H v (.type (tyN d)) := by
  cases h with
  | non => exact .base .non
  | bl b => exact .base (.bl b)
  | int i => exact .base (.int i)
  | str x => exact .base (.str x)
  | lst e _ => exact .base (.lst e)
  | tup e _ => exact .base (.tup e)
theorem r_isi {K : PySem.W.Frag} {H : Hp} {Q : VK} {v : V} {d : PyData} {T : String} {r : Bool} (h : Da H v d) (e : kitB (tyN d) T = some r) (q : Q (.bl r) H) : bIsi K [v, .ty T] H Q :=
  ⟨v, .ty T, _, _, r, rfl, .ty T, da_ty h, kit_ty e, q⟩
theorem kb_none : kitB "NoneType" "bool" = some false ∧ kitB "NoneType" "int" = some false ∧ kitB "NoneType" "str" = some false ∧ kitB "NoneType" "list" = some false ∧ kitB "NoneType" "tuple" = some false := ⟨by decide +kernel, by decide +kernel, by decide +kernel, by decide +kernel, by decide +kernel⟩
theorem kb_bool : kitB "bool" "bool" = some true := by decide +kernel
theorem kb_int : kitB "int" "bool" = some false ∧ kitB "int" "int" = some true := ⟨by decide +kernel, by decide +kernel⟩
theorem kb_str : kitB "str" "bool" = some false ∧ kitB "str" "int" = some false ∧ kitB "str" "str" = some true := ⟨by decide +kernel, by decide +kernel, by decide +kernel⟩
theorem kb_list : kitB "list" "bool" = some false ∧ kitB "list" "int" = some false ∧ kitB "list" "str" = some false ∧ kitB "list" "list" = some true ∧ kitB "list" "tuple" = some false := ⟨by decide +kernel, by decide +kernel, by decide +kernel, by decide +kernel, by decide +kernel⟩
theorem kb_tuple : kitB "tuple" "bool" = some false ∧ kitB "tuple" "int" = some false ∧ kitB "tuple" "str" = some false ∧ kitB "tuple" "list" = some false ∧ kitB "tuple" "tuple" = some true := ⟨by decide +kernel, by decide +kernel, by decide +kernel, by decide +kernel, by decide +kernel⟩
def dLess : Nat → PyData → Prop
  | 0, _ => False
  | n + 1, .list ds => ds.length ≤ 100000 ∧ ∀ d ∈ ds, dLess n d
  | n + 1, .tuple ds => ds.length ≤ 100000 ∧ ∀ d ∈ ds, dLess n d
  | _ + 1, .dict _ => False
  | _ + 1, _ => True
def spAlike (n : Nat) : Sp := fun vs H Q _ => ∃ (x y : V) (d : PyData), vs = [x, y] ∧ Da H x d ∧ Da H y d ∧ dLess n d ∧ Q (.bl true) H
theorem use_alike {n : Nat} {H : Hp} {Q : VK} {E : XK} {x y : V} {d : PyData} (h1 : Da H x d) (h2 : Da H y d) (h : dLess n d) (q : Q (.bl true) H) : spAlike n [x, y] H Q E := ⟨x, y, d, rfl, h1, h2, h, q⟩
theorem Df.triv {K : PySem.W.Frag} {mg : Str → Option Value} {x : Str} {st : Stmt} {ps : List Str} (F : Df K mg x st ps) {P : Program} {w : World} {base : Heap} {k : Nat} {sp : Sp} (h : ∀ vs H Q E, ¬ sp vs H Q E) : OkAt P w K mg base x k ps sp := by
  obtain ⟨f, fd, F, b, m⟩ := F.ex
  exact ⟨f, fd, ⟨fun vs H Q E z => absurd z (h vs H Q E), fun _ _ _ _ _ _ _ _ _ _ _ _ _ z => absurd z (h _ _ _ _)⟩, b, m, F.kp⟩
theorem ok__law_alike (T : TX mg) (F : Df K mg "_law_alike" s__law_alike ["_law_found", "_law_due_here"]) : ∀ n : Nat, OkAt P w K mg base "_law_alike" n ["_law_found", "_law_due_here"] (spAlike n)
  | 0 => F.triv fun vs H Q E z => by
    obtain ⟨_, _, _, _, _, _, z, _⟩ := z
    exact z
  | k + 1 => by
    have o__law_alike := ok__law_alike T F k
    refine F.ok sc__law_alike (fun vs H Q E h => ?_) (fun f cdv A outer s H vs Q E hr h => ?_)
    · obtain ⟨x, y, d, rfl, _⟩ := h
      rfl
    · obtain ⟨x, y, d, rfl, hx, hy, hd, q⟩ := h
      refine ⟨_, (pss_cons (ps_if (pt_cmpR op_uIsN (pv 1) pe_non (nomark _)) (pss_one (ps_ret (pe_cmpR op_uIsN (pv 0) pe_non (nomark _)))) pss_nil) (pss_cons (ps_if (pt_val (pe_callB (cr_isi K) (by rfl) T.b_isinstance (by decide +kernel) (pa_cons (pv 1) (pa_cons (pe_bltn (v := .ty "bool") (by rfl) T.b_bool (by decide +kernel) rfl) pa_nil)))) (pss_one (ps_ret (pe_and (pe_callB (cr_isi K) (by rfl) T.b_isinstance (by decide +kernel) (pa_cons (pv 0) (pa_cons (pe_bltn (v := .ty "bool") (by rfl) T.b_bool (by decide +kernel) rfl) pa_nil))) (pe_one (pe_cmpR (op_uEq K hr.units) (pv 0) (pv 1) (nomark _)))))) pss_nil) (pss_cons (ps_if (pt_val (pe_callB (cr_isi K) (by rfl) T.b_isinstance (by decide +kernel) (pa_cons (pv 1) (pa_cons (pe_bltn (v := .ty "int") (by rfl) T.b_int (by decide +kernel) rfl) pa_nil)))) (pss_one (ps_ret (pe_and (pe_callB (cr_isi K) (by rfl) T.b_isinstance (by decide +kernel) (pa_cons (pv 0) (pa_cons (pe_bltn (v := .ty "int") (by rfl) T.b_int (by decide +kernel) rfl) pa_nil))) (pe_and (pe_not (pe_callB (cr_isi K) (by rfl) T.b_isinstance (by decide +kernel) (pa_cons (pv 0) (pa_cons (pe_bltn (v := .ty "bool") (by rfl) T.b_bool (by decide +kernel) rfl) pa_nil)))) (pe_one (pe_cmpR (op_uEq K hr.units) (pv 0) (pv 1) (nomark _))))))) pss_nil) (pss_cons (ps_if (pt_val (pe_callB (cr_isi K) (by rfl) T.b_isinstance (by decide +kernel) (pa_cons (pv 1) (pa_cons (pe_bltn (v := .ty "str") (by rfl) T.b_str (by decide +kernel) rfl) pa_nil)))) (pss_one (ps_ret (pe_and (pe_callB (cr_isi K) (by rfl) T.b_isinstance (by decide +kernel) (pa_cons (pv 0) (pa_cons (pe_bltn (v := .ty "str") (by rfl) T.b_str (by decide +kernel) rfl) pa_nil))) (pe_one (pe_cmpR (op_uEq K hr.units) (pv 0) (pv 1) (nomark _)))))) pss_nil) (pss_cons (ps_if (PW.pt (pw_or (pt_cmpR (op_uNe K hr.units) (pe_callB (cr_isi K) (by rfl) T.b_isinstance (by decide +kernel) (pa_cons (pv 1) (pa_cons (pe_bltn (v := .ty "tuple") (by rfl) T.b_tuple (by decide +kernel) rfl) pa_nil))) (pe_callB (cr_isi K) (by rfl) T.b_isinstance (by decide +kernel) (pa_cons (pv 0) (pa_cons (pe_bltn (v := .ty "tuple") (by rfl) T.b_tuple (by decide +kernel) rfl) pa_nil))) (nomark _)) (pw_or1 (pt_cmpR (op_uNe K hr.units) (pe_callB (cr_isi K) (by rfl) T.b_isinstance (by decide +kernel) (pa_cons (pv 1) (pa_cons (pe_bltn (v := .ty "list") (by rfl) T.b_list (by decide +kernel) rfl) pa_nil))) (pe_callB (cr_isi K) (by rfl) T.b_isinstance (by decide +kernel) (pa_cons (pv 0) (pa_cons (pe_bltn (v := .ty "list") (by rfl) T.b_list (by decide +kernel) rfl) pa_nil))) (nomark _))))) (pss_one (ps_ret pe_bl)) pss_nil) (pss_cons (ps_if (pt_cmpR (op_uNe K hr.units) (pe_callB (cr_len K) (by rfl) T.b_len (by decide +kernel) (pa_cons (pv 0) pa_nil)) (pe_callB (cr_len K) (by rfl) T.b_len (by decide +kernel) (pa_cons (pv 1) pa_nil)) (nomark _)) (pss_one (ps_ret pe_bl)) pss_nil) (pss_cons (ps_for PassesOwn.never rfl (pi_range1 (by rfl) T.b_range (pa_cons (pe_callB (cr_len K) (by rfl) T.b_len (by decide +kernel) (pa_cons (pv 1) pa_nil)) pa_nil)) (pg_name (i := 2) sc__law_alike.nd rfl (by first | exact Or.inl rfl | exact Or.inr rfl)) (pss_one (ps_if (pt_not (pt_val (pe_cl o__law_alike hr (by rfl) (pa_cons (pe_ix (ix_u K) (pv 0) (pv 2) (fun _ _ => rfl)) (pa_cons (pe_ix (ix_u K) (pv 1) (pv 2) (fun _ _ => rfl)) pa_nil))))) (pss_one (ps_ret pe_bl)) pss_nil))) (pss_one (ps_ret pe_bl))))))))), ?_⟩
      cases d with
      | none =>
        cases hx
        cases hy
        walk_at "r"
        refine w_yes rfl ?_
        walk_at "r"
        rw [decide_eq_true rfl]
        exact q
      | bool b =>
        cases id hx
        cases id hy
        walk_at "r"
        refine w_no (fun z => nomatch z) ?_
        walk_at "r"
        refine r_isi hy kb_bool ?_
        walk_at "r"
        refine r_isi hx kb_bool ?_
        walk_at "r"
        rw [decide_eq_true rfl]
        exact q
      | int i =>
        cases id hx
        cases id hy
        walk_at "r"
        refine w_no (fun z => nomatch z) ?_
        walk_at "r"
        refine r_isi hy kb_int.1 ?_
        walk_at "r"
        refine r_isi hy kb_int.2 ?_
        walk_at "r"
        refine r_isi hx kb_int.2 ?_
        walk_at "r"
        refine r_isi hx kb_int.1 ?_
        walk_at "r"
        rw [decide_eq_true rfl]
        exact q
      | str z =>
        cases id hx
        cases id hy
        walk_at "r"
        refine w_no (fun z => nomatch z) ?_
        walk_at "r"
        refine r_isi hy kb_str.1 ?_
        walk_at "r"
        refine r_isi hy kb_str.2.1 ?_
        walk_at "r"
        refine r_isi hy kb_str.2.2 ?_
        walk_at "r"
        refine r_isi hx kb_str.2.2 ?_
        walk_at "r"
        rw [decide_eq_true rfl]
        exact q
      | dict _ => exact hd.elim
      | list ds =>
        obtain ⟨hlen, hall⟩ := hd
        cases id hx with
        | lst ex ax =>
          rename_i a xs
          cases id hy with
          | lst ey ay =>
            rename_i b ys
            have lx := daAll_len ax
            have ly := daAll_len ay
            walk_at "r"
            refine w_no (fun z => nomatch z) ?_
            walk_at "r"
            refine r_isi hy kb_list.1 ?_
            walk_at "r"
            refine r_isi hy kb_list.2.1 ?_
            walk_at "r"
            refine r_isi hy kb_list.2.2.1 ?_
            walk_at "r"
            refine r_isi hy kb_list.2.2.2.2 ?_
            walk_at "r"
            refine r_isi hx kb_list.2.2.2.2 ?_
            walk_at "r"
            refine w_nno rfl ?_
            walk_at "r"
            refine r_isi hy kb_list.2.2.2.1 ?_
            walk_at "r"
            refine r_isi hx kb_list.2.2.2.1 ?_
            walk_at "r"
            refine w_nno rfl ?_
            walk_at "r"
            refine w_nno (by omega) ?_
            walk_at "r"
            refine f_range1 (by omega) (by omega) (fun i σ H' => ∃ z, σ = [some (.ref a), some (.ref b), z] ∧ H' = H) ⟨none, rfl, rfl⟩ ?_ ?_
            · rintro i σ H' hi ⟨z, rfl, rfl⟩
              have hi2 : i < ds.length := by omega
              obtain ⟨u1, g1, d1⟩ := daAll_at ax i ds[i] (List.getElem?_eq_getElem hi2)
              obtain ⟨u2, g2, d2⟩ := daAll_at ay i ds[i] (List.getElem?_eq_getElem hi2)
              walk_at "r"
              refine r_ixL ex (atI_nat g1) ?_
              walk_at "r"
              refine r_ixL ey (atI_nat g2) ?_
              walk_at "r"
              refine use_alike d1 d2 (hall _ (List.getElem_mem hi2)) ?_
              walk_at "r"
              exact ⟨_, rfl, rfl⟩
            · rintro σ H' ⟨z, rfl, rfl⟩
              walk_at "r"
              exact q
      | tuple ds =>
        obtain ⟨hlen, hall⟩ := hd
        cases id hx with
        | tup ex ax =>
          rename_i a xs
          cases id hy with
          | tup ey ay =>
            rename_i b ys
            have lx := daAll_len ax
            have ly := daAll_len ay
            walk_at "r"
            refine w_no (fun z => nomatch z) ?_
            walk_at "r"
            refine r_isi hy kb_tuple.1 ?_
            walk_at "r"
            refine r_isi hy kb_tuple.2.1 ?_
            walk_at "r"
            refine r_isi hy kb_tuple.2.2.1 ?_
            walk_at "r"
            refine r_isi hy kb_tuple.2.2.2.2 ?_
            walk_at "r"
            refine r_isi hx kb_tuple.2.2.2.2 ?_
            walk_at "r"
            refine w_nno rfl ?_
            walk_at "r"
            refine r_isi hy kb_tuple.2.2.2.1 ?_
            walk_at "r"
            refine r_isi hx kb_tuple.2.2.2.1 ?_
            walk_at "r"
            refine w_nno rfl ?_
            walk_at "r"
            refine w_nno (by omega) ?_
            walk_at "r"
            refine f_range1 (by omega) (by omega) (fun i σ H' => ∃ z, σ = [some (.ref a), some (.ref b), z] ∧ H' = H) ⟨none, rfl, rfl⟩ ?_ ?_
            · rintro i σ H' hi ⟨z, rfl, rfl⟩
              have hi2 : i < ds.length := by omega
              obtain ⟨u1, g1, d1⟩ := daAll_at ax i ds[i] (List.getElem?_eq_getElem hi2)
              obtain ⟨u2, g2, d2⟩ := daAll_at ay i ds[i] (List.getElem?_eq_getElem hi2)
              walk_at "r"
              refine r_ixU ex (atI_nat g1) ?_
              walk_at "r"
              refine r_ixU ey (atI_nat g2) ?_
              walk_at "r"
              refine use_alike d1 d2 (hall _ (List.getElem_mem hi2)) ?_
              walk_at "r"
              exact ⟨_, rfl, rfl⟩
            · rintro σ H' ⟨z, rfl, rfl⟩
              walk_at "r"
              exact q

/-! ### slices -/
theorem cut_to {xs : List V} {k : Nat} : cutV xs none (some (k : Int)) = xs.take k := by
  unfold cutV
  rw [HT.sIx_none, HT.sIx_nat]
  show xs.take (min k xs.length - 0) = _
  rw [Nat.sub_zero, List.take_eq_take_iff]
  omega
theorem cut_from {xs : List V} {k : Nat} : cutV xs (some (k : Int)) none = xs.drop k := by
  unfold cutV
  rw [HT.sIx_none, HT.sIx_nat]
  by_cases h : k ≤ xs.length
  · rw [Nat.min_eq_left h]
    exact List.take_of_length_le (by rw [List.length_drop]; omega)
  · rw [Nat.min_eq_right (by omega), List.drop_of_length_le (Nat.le_refl _), List.drop_of_length_le (by omega)]
    exact List.take_nil
theorem getD_at {l : List Nat} {i : Nat} (h : i < l.length) : l[i]? = some (l.getD i 0) := by
  rw [List.getD_eq_getElem?_getD, List.getElem?_eq_getElem h]
  rfl
theorem pickN {xs : List V} {j : Nat} (h : j < xs.length) {Pd : V → Prop} (a : ∀ x ∈ xs, Pd x) : ∃ z, atI xs (j : Int) = some z ∧ Pd z :=
  ⟨xs[j], atI_nat (List.getElem?_eq_getElem h), a _ (List.getElem_mem h)⟩
theorem pick_nat {ns : List Nat} {m j : Nat} (h : j < ns.length) (a : ∀ n ∈ ns, n ≤ m) : ∃ n : Nat, atI (ns.map fun n => V.int (n : Nat)) (j : Int) = some (.int (n : Nat)) ∧ n ≤ m :=
  ⟨ns[j], atI_nat (by rw [List.getElem?_map, List.getElem?_eq_getElem h]; rfl), a _ (List.getElem_mem h)⟩
theorem setV_of {r : Nat} (h : (r : Int) < 2) : ∃ b : Bool, V.int (r : Int) = setV b := by
  by_cases e : r = 1
  · exact ⟨true, by rw [e]; rfl⟩
  · exact ⟨false, by rw [show r = 0 by omega]; rfl⟩
/-- texts -/
def strsV (l : List (List Nat)) : List V := l.map fun x => V.str (mkS x)
theorem strsV_at {l : List (List Nat)} {i : Nat} {x : List Nat} (h : l[i]? = some x) : (strsV l)[i]? = some (.str (mkS x)) := by
  unfold strsV
  rw [List.getElem?_map, h]
  rfl
theorem strsV_len (l : List (List Nat)) : (strsV l).length = l.length := List.length_map _
theorem tapeV_get {t : List Nat} {i c : Nat} (h : t[i]? = some c) : (tapeV t)[i]? = some (.int (c : Nat)) := by
  unfold tapeV
  rw [List.getElem?_map, h]
  rfl
theorem cutS_from {l : List Nat} {k : Nat} : cutS (mkS l) (some (k : Int)) none = mkS (l.drop k) := by
  unfold cutS
  rw [HT.sIx_none, HT.sIx_nat, len_mkS]
  refine congrArg (fun x : List Nat => mkS x) ?_
  show (l.drop (min k l.length)).take (l.length - min k l.length) = _
  by_cases h : k ≤ l.length
  · rw [Nat.min_eq_left h]
    exact List.take_of_length_le (by rw [List.length_drop]; omega)
  · rw [Nat.min_eq_right (by omega), List.drop_of_length_le (Nat.le_refl _), List.drop_of_length_le (by omega)]
    exact List.take_nil
theorem cutS_to {l : List Nat} {k : Nat} : cutS (mkS l) none (some (k : Int)) = mkS (l.take k) := by
  unfold cutS
  rw [HT.sIx_none, HT.sIx_nat, len_mkS]
  refine congrArg (fun x : List Nat => mkS x) ?_
  show (l.drop 0).take (min k l.length - 0) = _
  rw [Nat.sub_zero, List.drop_zero, List.take_eq_take_iff]
  omega
/-! ### data that may be compared -/
mutual
theorem da_dp {K : PySem.W.Frag} {H : Hp} : ∀ (d : PyData) (v : V), Da H v d → Dp K H v d
  | .none, _, h => by cases h; exact .non
  | .bool b, _, h => by cases h; exact .bl b
  | .int i, _, h => by cases h; exact .int i
  | .str s, _, h => by cases h; exact .str s
  | .list ds, _, h => by
    cases h with
    | lst hl ha => exact .lst (SqL.of hl) (da_dpAll ds _ ha)
  | .tuple ds, _, h => by
    cases h with
    | tup hl ha => exact .tup (SqT.of hl) (da_dpAll ds _ ha)
  | .dict _, _, h => by cases h
theorem da_dpAll {K : PySem.W.Frag} {H : Hp} : ∀ (ds : List PyData) (vs : List V), DaAll H vs ds → DpAll K H vs ds
  | [], _, h => by cases h; exact .nil
  | d :: ds, _, h => by
    cases h with
    | cons h1 h2 => exact .cons (da_dp d _ h1) (da_dpAll ds _ h2)
end
theorem shaped_all {n : Nat} (hn : n ≤ 60) : ∀ {ds : List PyData}, (∀ d ∈ ds, d.canLay0 = true ∧ d.depth ≤ n) → PyData.canLayAll0 ds = true ∧ PyData.depthAll ds ≤ n
  | [], _ => ⟨rfl, Nat.zero_le _⟩
  | d :: ds, h => by
    obtain ⟨h1, h2⟩ := shaped_all hn (ds := ds) fun d hd => h d (List.mem_cons_of_mem _ hd)
    obtain ⟨h3, h4⟩ := h d List.mem_cons_self
    rw [PyData.canLayAll0, PyData.depthAll, h1, h3]
    exact ⟨rfl, by omega⟩
theorem shaped_list {n : Nat} (hn : n ≤ 60) {ds : List PyData} (h : ∀ d ∈ ds, d.canLay0 = true ∧ d.depth ≤ n) : SeqAt.shaped (.list ds) = true := by
  obtain ⟨h1, h2⟩ := shaped_all hn h
  unfold SeqAt.shaped
  rw [show (PyData.list ds).canLay0 = true from h1, decide_eq_true (show (PyData.list ds).depth ≤ 64 by show PyData.depthAll ds + 1 ≤ 64; omega)]
  rfl
theorem eqv_nil (ds : List PyData) : PyData.eqv (.list ds) (.list []) = decide (ds = []) := by
  rw [PyData.eqv]
  cases ds <;> rfl
theorem r_eqNil {K : PySem.W.Frag} {H : Hp} {Q : VK} {a b : Addr} {xs : List V} {ds : List PyData} {n : Nat} (h1 : H a = some (.lst xs)) (d : DaAll H xs ds) (hn : n ≤ 60) (hd : ∀ d ∈ ds, d.canLay0 = true ∧ d.depth ≤ n) (h2 : H b = some (.lst [])) (q : Q (.bl (decide (ds = []))) H) : uEq K (.ref a) (.ref b) H Q :=
  r_eqD (da_dp (.list ds) _ (.lst h1 d)) (dp_nil h2) (shaped_list hn hd) rfl (by rw [eqv_nil]; exact q)
theorem da_tape {H : Hp} {a : Addr} {t : List Nat} (h : H a = some (.lst (tapeV t))) : Da H (.ref a) (.list (t.map fun c => .int (c : Nat))) := by
  refine .lst h ?_
  clear h
  unfold tapeV
  induction t with
  | nil => exact .nil
  | cons c r ih => exact .cons (.int _) ih
theorem less_tape {n : Nat} {t : List Nat} (h : t.length ≤ 100000) : dLess (n + 2) (.list (t.map fun c => .int (c : Nat))) := by
  refine ⟨by rw [List.length_map]; exact h, fun d hd => ?_⟩
  obtain ⟨c, _, rfl⟩ := List.mem_map.mp hd
  exact True.intro
theorem strsV_app (a b : List (List Nat)) : strsV a ++ strsV b = strsV (a ++ b) := (List.map_append ..).symm
theorem pick_natR {ns : List Nat} {lo m j : Nat} (h : j < ns.length) (a : ∀ n ∈ ns, lo ≤ n ∧ n ≤ m) : ∃ n : Nat, atI (ns.map fun n => V.int (n : Nat)) (j : Int) = some (.int (n : Nat)) ∧ lo ≤ n ∧ n ≤ m :=
  ⟨ns[j], atI_nat (by rw [List.getElem?_map, List.getElem?_eq_getElem h]; rfl), a _ (List.getElem_mem h)⟩
theorem div3 {r : Nat} (h : (r : Int) < 4) : ∃ j : Nat, (r : Int) / 3 = (j : Int) ∧ j < 2 := ⟨r / 3, by omega, by omega⟩
theorem joinL_nil : ∀ l : List (List Nat), TL.joinL [] l = l.flatten
  | [] => rfl
  | [a] => by rw [List.flatten_cons]; exact (List.append_nil _).symm
  | a :: b :: l => by
    rw [List.flatten_cons, ← joinL_nil (b :: l)]
    rfl
theorem join_strs (l : List (List Nat)) : Txt.join (Str.ofString "") (l.map mkS) = mkS l.flatten := by
  refine TL.ext_tl ?_
  rw [TL.join_eq, TL.tl_join, List.map_map]
  show TL.joinL [] (l.map fun x => x) = l.flatten
  rw [List.map_id']
  exact joinL_nil l
theorem strs_size {l : List (List Nat)} (h : l.flatten.length ≤ 100000) : ((l.map mkS).map (·.length)).sum + (l.map mkS).length * (Str.ofString "").length ≤ 16777216 := by
  have z : (Str.ofString "").length = 0 := by decide
  have e : ((l.map mkS).map (·.length)).sum = l.flatten.length := by
    rw [List.map_map, List.length_flatten]
    exact congrArg List.sum (List.map_congr_left fun x _ => len_mkS x)
  rw [z, e]
  omega
theorem strsV_mk (l : List (List Nat)) : strsV l = (l.map mkS).map V.str := by
  unfold strsV
  rw [List.map_map]
  rfl
theorem r_joinS {K : PySem.W.Frag} {H : Hp} {Q : VK} {p : Addr} {l : List (List Nat)} (h : H p = some (.lst (strsV l))) (hl : l.flatten.length ≤ 100000) (q : Q (.str (mkS l.flatten)) H) : mJoin K (.str (Str.ofString "")) [.ref p] H Q := by
  rw [strsV_mk] at h
  refine r_join h (strs_size hl) ?_
  rw [join_strs]
  exact q
theorem mkS_one (a b : Nat) : decide (mkS [a] = mkS [b]) = decide (a = b) := by
  rw [mkS_eq]
  by_cases e : a = b
  · rw [e, decide_eq_true rfl, decide_eq_true rfl]
  · rw [decide_eq_false e, decide_eq_false fun z => e (by injection z)]
theorem sing_ne (a b : Nat) : decide (sing a = sing b) = decide (a = b) := by
  by_cases e : a = b
  · rw [e, decide_eq_true rfl, decide_eq_true rfl]
  · rw [decide_eq_false e, decide_eq_false fun z => e (sing_inj z)]
theorem r_inC {K : PySem.W.Frag} {H : Hp} {Q : VK} {c : Nat} {l : List Nat} (q : Q (.bl (decide (c ∈ l))) H) : uIn K (.str (sing c)) (.str (mkS l)) H Q := r_inS q
theorem r_niC {K : PySem.W.Frag} {H : Hp} {Q : VK} {c : Nat} {l : List Nat} (q : Q (.bl (!decide (c ∈ l))) H) : uNi K (.str (sing c)) (.str (mkS l)) H Q := r_niS q

/-! ### a home, as a word -/
def digitC (c : Nat) : Bool := decide (48 ≤ c) && decide (c ≤ 57)
/-- none: no home's word -/
def homeN (w : List Nat) : Option (Option Nat) :=
  if w = [45] then some none else if (1 ≤ w.length ∧ w.length ≤ 2) ∧ w.all digitC = true then (if w.head? = some 48 ∧ w ≠ [48] then none else some (some (NumText.digitsVal w))) else none
def homeV : Option (Option Nat) → V
  | none => .int (-1)
  | some o => hV o
theorem figs : Str.ofString "0123456789" = mkS [48, 49, 50, 51, 52, 53, 54, 55, 56, 57] := by decide +kernel
theorem dash : Str.ofString "-" = mkS [45] := by decide +kernel
theorem zeroS : Str.ofString "0" = mkS [48] := by decide +kernel
theorem figs_mem (c : Nat) : decide (c ∈ [48, 49, 50, 51, 52, 53, 54, 55, 56, 57]) = digitC c := by
  unfold digitC
  by_cases h : 48 ≤ c ∧ c ≤ 57
  · rw [decide_eq_true h.1, decide_eq_true h.2, decide_eq_true]
    · rfl
    · simp only [List.mem_cons, List.not_mem_nil, or_false]
      omega
  · have h2 : (decide (48 ≤ c) && decide (c ≤ 57)) = false := by
      rw [Bool.and_eq_false_iff, decide_eq_false_iff_not, decide_eq_false_iff_not]
      omega
    rw [h2, decide_eq_false]
    simp only [List.mem_cons, List.not_mem_nil, or_false]
    omega
/-- lists of signs against [] -/
theorem signs_da {H : Hp} : ∀ l : List Nat, DaAll H (signsV l) (l.map fun c => .str (sing c))
  | [] => .nil
  | c :: l => .cons (.str _) (signs_da l)
theorem signs_flat {l : List Nat} (h : ∀ c ∈ l, c ≤ 126) : ∀ d ∈ l.map (fun c => PyData.str (sing c)), d.canLay0 = true ∧ d.depth ≤ 1 := fun d hd => by
  obtain ⟨c, hc, rfl⟩ := List.mem_map.mp hd
  refine ⟨?_, Nat.zero_le _⟩
  have := h c hc
  show (sing c).cps.all (· < 0x110000) = true
  unfold sing
  simp
  omega
theorem r_eqNilS {K : PySem.W.Frag} {H : Hp} {Q : VK} {a b : Addr} {l : List Nat} (h1 : H a = some (.lst (signsV l))) (h : ∀ c ∈ l, c ≤ 126) (h2 : H b = some (.lst [])) (q : Q (.bl (decide (l = []))) H) : uEq K (.ref a) (.ref b) H Q := by
  refine r_eqNil h1 (signs_da l) (by decide) (signs_flat h) h2 ?_
  rw [show decide (l.map (fun c => PyData.str (sing c)) = []) = decide (l = []) by cases l <;> rfl]
  exact q
theorem r_neNilS {K : PySem.W.Frag} {H : Hp} {Q : VK} {a b : Addr} {l : List Nat} (h1 : H a = some (.lst (signsV l))) (h : ∀ c ∈ l, c ≤ 126) (h2 : H b = some (.lst [])) (q : Q (.bl (!decide (l = []))) H) : uNe K (.ref a) (.ref b) H Q := by
  refine r_neD (da_dp (.list (l.map fun c => .str (sing c))) _ (.lst h1 (signs_da l))) (dp_nil h2) (shaped_list (n := 1) (by decide) (signs_flat h)) rfl ?_
  rw [eqv_nil, show decide (l.map (fun c => PyData.str (sing c)) = []) = decide (l = []) by cases l <;> rfl]
  exact q
theorem filter_take_snoc {l : List Nat} {P : Nat → Bool} {i c : Nat} (h : l[i]? = some c) : signsV ((l.take (i + 1)).filter P) = signsV ((l.take i).filter P) ++ (if P c = true then [.str (sing c)] else []) := by
  unfold signsV
  rw [take_snoc h, List.filter_append, List.map_append]
  congr 1
  rw [List.filter_cons]
  split <;> rfl
def spHomeOf : Sp := fun vs H Q E => ∃ (w : List Nat), vs = [.str (mkS w)] ∧ (w.length ≤ 10000) ∧ (∀ c ∈ w, c ≤ 126) ∧ (∀ H', Same H H' → Q (homeV (homeN w)) H')
theorem use_home_of {H : Hp} {Q : VK} {E : XK} {w : List Nat} (hl : w.length ≤ 10000) (hw : ∀ c ∈ w, c ≤ 126) (q : ∀ H', Same H H' → Q (homeV (homeN w)) H') : spHomeOf [.str (mkS w)] H Q E := ⟨w, rfl, hl, hw, q⟩

theorem ok_home_of {k : Nat} (T : TX mg) (F : Df K mg "home_of" s_home_of ["word"]) : OkAt P w K mg base "home_of" (k + 1) ["word"] spHomeOf := by
  refine F.ok sc_home_of (fun vs H Q E h => ?_) (fun f cdv A outer s H vs Q E hr h => ?_)
  · obtain ⟨w, rfl, _⟩ := h
    rfl
  obtain ⟨w, rfl, hl, hw, q⟩ := h
  refine ⟨_, (pss_cons (ps_if (pt_cmpR (op_uEq K hr.units) (pv 0) (pe_gStr (by rfl) T.c_NOTHING) (nomark _)) (pss_one (ps_ret pe_non)) pss_nil) (pss_cons (ps_if (PW.pt (pw_or (pt_not (pt_chain op_uLe op_uLe pe_int (pe_callB (cr_len K) (by rfl) T.b_len (by decide +kernel) (pa_cons (pv 0) pa_nil)) pe_int)) (pw_or1 (pt_cmpR (op_uNe K hr.units) (pe_lc (own := [("sign", 1)]) (g := gName 1) rfl sc_home_of.nd (pi_str (pv 0)) (blkOk_by (own := [("sign", 1)]) (N := ["word", "sign"]) (sc := defScope s_home_of) (by decide +kernel)) (fun _ _ _ _ _ => (pg_name (i := 1) sc_home_of.nd rfl (by first | exact Or.inl rfl | exact Or.inr rfl))) (fun _ _ _ _ _ => (pts_one (pt_cmpR (op_uNi K) (pv 1) (pe_gStr (by rfl) T.c_FIGURES) (by rfl)))) (fun _ _ _ _ _ => (pv 1))) (pe_lstN pa_nil) (nomark _))))) (pss_one (ps_ret (pe_un un_neg pe_int))) pss_nil) (pss_one (ps_ret (pe_ifExp (PW.pt (pw_and (pt_cmpR (op_uEq K hr.units) (pe_ix (ix_u K) (pv 0) pe_int (fun _ _ => rfl)) pe_str (nomark _)) (pw_and1 (pt_cmpR (op_uNe K hr.units) (pv 0) pe_str (nomark _))))) (pe_un un_neg pe_int) (pe_callTy cr_int (by rfl) T.b_int (by decide +kernel) (pa_cons (pv 0) pa_nil))))))), ?_⟩
  have hlw : (mkS w).length ≤ sizeLine := by rw [len_mkS]; exact le_size (by omega)
  walk_at "r"
  rw [dash, mkS_eq]
  refine w_dec (fun h => ?_) (fun h => ?_)
  · walk_at "r"
    have e : homeN w = some none := if_pos h
    rw [e] at q
    exact q _ (Same.refl _)
  have e0 : homeN w = if (1 ≤ w.length ∧ w.length ≤ 2) ∧ w.all digitC = true then (if w.head? = some 48 ∧ w ≠ [48] then none else some (some (NumText.digitsVal w))) else none := if_neg h
  walk_at "r"
  refine r_lenS hlw ?_
  rw [len_mkS]
  walk_at "r"
  refine w_dec (fun h1 => ?_) (fun h1 => ?_)
  rotate_left
  · walk_at "r"
    rw [e0, if_neg (fun z => h1 (by omega))] at q
    exact q _ (Same.refl _)
  walk_at "r"
  refine w_nd (fun h2 => ?_) (fun h2 => ?_)
  · walk_at "r"
    rw [e0, if_neg (fun z => h2 (by omega))] at q
    exact q _ (Same.refl _)
  walk_at "r"
  refine c_str (fun i => signsV ((w.take i).filter fun c => !digitC c)) (by rw [len_mkS]; omega) rfl (fun i => by rw [signsV_len]; exact Nat.le_trans (List.length_filter_le _ _) (by rw [List.length_take]; omega)) (fun i c H' hx s Ky Kn hy hn => ?_) (fun p H1 n1 s1 e1 => ?_)
  · rw [tl_mkS] at hx
    walk_at "r"
    refine ⟨rfl, ?_⟩
    walk_at "r"
    rw [figs]
    refine r_niC ?_
    rw [figs_mem]
    walk_at "r"
    refine w_b (fun hd => ?_) (fun hd => ?_)
    · walk_at "r"
      exact hy _ _ (Same.refl _) (by dsimp only; rw [filter_take_snoc hx, if_pos hd])
    · exact hn _ (Same.refl _) (by dsimp only; rw [filter_take_snoc hx, if_neg (by rw [hd]; decide), List.append_nil])
  rw [len_mkS, List.take_length] at e1
  walk_at "r"
  intro p2 H2 n2 s2 e2
  have e1' := s2 _ _ e1
  have s12 := s1.trans s2
  refine r_neNilS e1' (fun c hc => hw c (List.mem_filter.mp hc).1) e2 ?_
  have hfd : (w.filter fun c => !digitC c) = [] ↔ w.all digitC = true := by
    rw [List.filter_eq_nil_iff, List.all_eq_true]
    constructor
    · intro z c hc
      have := z c hc
      cases e : digitC c
      · rw [e] at this
        exact absurd rfl this
      · rfl
    · intro z c hc
      rw [z c hc]
      decide
  walk_at "r"
  refine w_nd (fun h3 => ?_) (fun h3 => ?_)
  · walk_at "r"
    rw [e0, if_neg (fun z => h3 (hfd.mpr z.2))] at q
    exact q _ s12
  have hall := hfd.mp h3
  have hn0 : 0 < w.length := by omega
  have hx := getD_at hn0
  have hh : w.head? = some (w.getD 0 0) := by rw [List.head?_eq_getElem?, hx]
  rw [e0, if_pos ⟨by omega, hall⟩, hh] at q
  walk_at "r"
  refine r_ixC hx (by omega) ?_
  walk_at "r"
  rw [zeroS, mkS_one]
  refine w_dec (fun h4 => ?_) (fun h4 => ?_)
  · walk_at "r"
    rw [mkS_eq]
    refine w_nd (fun h5 => ?_) (fun h5 => ?_)
    · walk_at "r"
      rw [if_pos ⟨by rw [h4], h5⟩] at q
      exact q _ s12
    · walk_at "r"
      rw [if_neg (fun z => z.2 h5)] at q
      exact .inr (.inr ⟨_, _, rfl, SX.int_S hall (by rw [h5]; decide) (by omega), by rw [len_mkS]; omega, q _ s12⟩)
  · walk_at "r"
    rw [if_neg (fun z => h4 (Option.some.inj z.1))] at q
    exact .inr (.inr ⟨_, _, rfl, SX.int_S hall (fun z => by rw [z] at hn0; exact absurd hn0 (by decide)) (by omega), by rw [len_mkS]; omega, q _ s12⟩)

/-! ### a text cut into rows -/
theorem lineS : Str.ofString "\n" = mkS [10] := by decide +kernel
theorem r_m1 {σ : L2.St} {H : Hp} {Q : VK} {r : V → List V → Hp → VK → Prop} {to te : TE} (q : to σ H fun x H1 => (∃ a, x = .str a) ∧ te σ H1 fun y H2 => r x [y] H2 Q) : tM1 r to te σ H Q := q
theorem r_strP {z : Str} {P : Prop} (q : P) : (∃ a, V.str z = .str a) ∧ P := ⟨⟨_, rfl⟩, q⟩
theorem r_split {H : Hp} {Q : VK} {a b : Str} (h1 : (b.length == 0) = false) (h2 : a.length + 2 ≤ sizeLine) (q : NewL H ((Txt.split a b).map V.str) Q) :
    ∃ a' b', V.str a = .str a' ∧ [V.str b] = [.str b'] ∧ (b'.length == 0) = false ∧ a'.length + 2 ≤ sizeLine ∧ rNewStrs (Txt.split a' b') H Q := ⟨a, b, rfl, rfl, h1, h2, newL q⟩
def rows (x : List Nat) : List (List Nat) := TL.spl [10] 0 [] x
theorem rows_split (x : List Nat) : Txt.split (mkS x) (Str.ofString "\n") = (rows x).map mkS := by
  have h := TL.split_spl (mkS x) (mkS [10]) (by intro z; cases z) (TL.kind_ok (by decide +kernel))
  rw [lineS]
  have e : (Txt.split (mkS x) (mkS [10])).map TL.tl = rows x := h
  rw [← e, List.map_map]
  have : ((mkS ∘ TL.tl) : Str → Str) = id := by
    funext s
    exact TL.ext_tl rfl
  rw [this, List.map_id]
theorem rows_ne (x : List Nat) : rows x ≠ [] := by
  unfold rows
  have all : ∀ (k : Nat) (acc x : List Nat), TL.spl [10] k acc x ≠ [] := by
    intro k acc x
    induction x generalizing k acc with
    | nil => rw [TL.spl_nil]; intro z; cases z
    | cons c r ih =>
      cases k with
      | zero =>
        show (if TL.pre [10] (c :: r) = true then acc :: TL.spl [10] ([10].length - 1) [] r else TL.spl [10] 0 (acc ++ [c]) r) ≠ []
        split
        · intro z; cases z
        · exact ih 0 _
      | succ k => exact ih k acc
  exact all 0 [] x
theorem rows_mem (x : List Nat) : ∀ r ∈ rows x, ∀ c ∈ r, c ∈ x ∧ c ≠ 10 := by
  have all : ∀ (x acc : List Nat) (S : List Nat), (∀ c ∈ acc, c ∈ S ∧ c ≠ 10) → (∀ c ∈ x, c ∈ S) → ∀ r ∈ TL.spl [10] 0 acc x, ∀ c ∈ r, c ∈ S ∧ c ≠ 10 := by
    intro x
    induction x with
    | nil =>
      intro acc S ha _ r hr
      rw [TL.spl_nil] at hr
      rw [List.mem_singleton.mp hr]
      exact ha
    | cons d x ih =>
      intro acc S ha hx r hr
      have hx' : ∀ c ∈ x, c ∈ S := fun c hc => hx c (List.mem_cons_of_mem _ hc)
      by_cases e : d = 10
      · have hp : TL.pre [10] (d :: x) = true := by
          rw [e]
          exact TL.pre_self [10] x
        rw [TL.spl_hit hp] at hr
        rcases List.mem_cons.mp hr with z | z
        · rw [z]; exact ha
        · exact ih [] S (fun c hc => nomatch hc) hx' r z
      · rw [TL.spl_miss (TL.pre_of_head [] x e)] at hr
        refine ih (acc ++ [d]) S (fun c hc => ?_) hx' r hr
        rcases List.mem_append.mp hc with z | z
        · exact ha c z
        · rw [List.mem_singleton.mp z]
          exact ⟨hx d List.mem_cons_self, e⟩
  exact all x [] x (fun c hc => nomatch hc) fun c hc => hc
theorem rows_sum (x : List Nat) : ((rows x).map (·.length)).sum + (rows x).length ≤ x.length + 1 := by
  have h := split_weight (mkS x) (Str.ofString "\n") (by rw [lineS, len_mkS]; decide)
  rw [rows_split, List.map_map, List.length_map, len_mkS] at h
  have e : ((rows x).map ((fun s : Str => s.length) ∘ mkS)) = (rows x).map (·.length) := List.map_congr_left fun r _ => len_mkS r
  rw [e] at h
  exact h
theorem row_len {x r : List Nat} (h : r ∈ rows x) : r.length ≤ x.length := by
  have h1 := rows_sum x
  have h2 : r.length ≤ ((rows x).map (·.length)).sum := by
    have all : ∀ (l : List (List Nat)), r ∈ l → r.length ≤ (l.map (·.length)).sum := by
      intro l
      induction l with
      | nil => intro h; cases h
      | cons a l ih =>
        intro h
        rw [List.map_cons, List.sum_cons]
        rcases List.mem_cons.mp h with z | z
        · rw [z]; omega
        · have := ih z; omega
    exact all _ h
  have h3 : 1 ≤ (rows x).length := List.length_pos_iff.mpr (rows_ne x)
  omega
theorem rows_len (x : List Nat) : (rows x).length ≤ x.length + 1 := by
  have := rows_sum x
  omega
/-- texts put together again -/
def joinN (l : List (List Nat)) : List Nat := TL.joinL [10] l
theorem joinN_str (l : List (List Nat)) : Txt.join (Str.ofString "\n") (l.map mkS) = mkS (joinN l) := by
  rw [lineS]
  refine TL.ext_tl ?_
  rw [TL.join_eq, TL.tl_join, List.map_map]
  show TL.joinL [10] (l.map fun x => x) = TL.joinL [10] l
  rw [List.map_id']
theorem joinN_len : ∀ l : List (List Nat), (joinN l).length ≤ (l.map (·.length)).sum + l.length
  | [] => Nat.le_refl _
  | [a] => by show a.length ≤ (a.length + 0) + 1; omega
  | a :: b :: l => by
    have ih := joinN_len (b :: l)
    show (a ++ ([10] ++ joinN (b :: l))).length ≤ (a.length + ((b :: l).map (·.length)).sum) + ((b :: l).length + 1)
    rw [List.length_append, List.length_append]
    show a.length + (1 + _) ≤ _
    omega
theorem joinN_mem : ∀ (l : List (List Nat)) (c : Nat), c ∈ joinN l → c = 10 ∨ ∃ r ∈ l, c ∈ r
  | [], c, h => nomatch h
  | [a], c, h => .inr ⟨a, List.mem_cons_self, h⟩
  | a :: b :: l, c, h => by
    have h : c ∈ a ++ ([10] ++ joinN (b :: l)) := h
    rcases List.mem_append.mp h with z | z
    · exact .inr ⟨a, List.mem_cons_self, z⟩
    · rcases List.mem_append.mp z with z | z
      · exact .inl (List.mem_singleton.mp z)
      · rcases joinN_mem (b :: l) c z with z | ⟨r, hr, hc⟩
        · exact .inl z
        · exact .inr ⟨r, List.mem_cons_of_mem _ hr, hc⟩
theorem r_joinN {K : PySem.W.Frag} {H : Hp} {Q : VK} {p : Addr} {l : List (List Nat)} (h : H p = some (.lst (strsV l))) (hl : (l.map (·.length)).sum + l.length ≤ 100000) (q : Q (.str (mkS (joinN l))) H) : mJoin K (.str (Str.ofString "\n")) [.ref p] H Q := by
  rw [strsV_mk] at h
  refine r_join h ?_ ?_
  · rw [List.map_map, List.length_map, lineS, len_mkS]
    have e : (l.map ((fun s : Str => s.length) ∘ mkS)) = l.map (·.length) := List.map_congr_left fun r _ => len_mkS r
    have e2 : (l.map ((·.length) ∘ mkS)).sum = (l.map (·.length)).sum := congrArg List.sum e
    rw [e2]
    show _ + l.length * 1 ≤ _
    omega
  · rw [joinN_str]
    exact q
/-! ### sheets that may be none -/
structure Raw where
  zero : List Nat
  one : List Nat
  home : Option Int
def hVI : Option Int → V
  | none => .non
  | some h => .int h
def Raw.good (s : Raw) : Bool := goodSigns s.zero && goodSigns s.one && decide (s.zero.length = s.one.length) && (match s.home with | none => true | some h => decide (0 ≤ h ∧ h < s.zero.length))
def IsRaw (H : Hp) (v : V) (s : Raw) : Prop := ∃ a, v = .ref a ∧ H a = some (.tup [.str (mkS s.zero), .str (mkS s.one), hVI s.home])
theorem same_raw {H H' : Hp} {v : V} {s : Raw} (e : Same H H') (h : IsRaw H v s) : IsRaw H' v s := by
  obtain ⟨a, rfl, h⟩ := h
  exact ⟨a, rfl, e _ _ h⟩
def spNeedSheet (cl : Cl) : Sp := fun vs H Q E => ∃ (v : V) (s : Raw), vs = [v] ∧ (IsRaw H v s) ∧ (s.zero.length ≤ 3000 ∧ s.one.length ≤ 3000) ∧ ((s.good = true → ∀ H', Same H H' → Q .non H') ∧ (s.good = false → ∀ H', Same H H' → E (.ref cl.BadSheet) none H'))
theorem use_need_sheet {cl : Cl} {H : Hp} {Q : VK} {E : XK} {v : V} {s : Raw} (hv : IsRaw H v s) (hl : s.zero.length ≤ 3000 ∧ s.one.length ≤ 3000) (q : (s.good = true → ∀ H', Same H H' → Q .non H') ∧ (s.good = false → ∀ H', Same H H' → E (.ref cl.BadSheet) none H')) : spNeedSheet cl [v] H Q E := ⟨v, s, rfl, hv, hl, q⟩

theorem ok_need_sheet {k : Nat} (T : TX mg) (F : Df K mg "need_sheet" s_need_sheet ["sheet"]) (XT : EX K mg cl) (o_are_signs : OkAt P w K mg base "are_signs" k ["signs"] spAreSigns) : OkX P w K mg base "need_sheet" (k + 1) ["sheet"] (spNeedSheet cl) := by
  refine F.okX sc_need_sheet (fun vs H Q E h => ?_) (fun f cdv A outer s H vs Q E hr h => ?_)
  · obtain ⟨v, s, rfl, _⟩ := h
    rfl
  obtain ⟨v, s, rfl, hv, hl, q⟩ := h
  refine ⟨_, (pss_cons (ps_asg (pv 0) (pg_tupK K (n := 3) rfl (pgs_cons (pg_name (i := 1) sc_need_sheet.nd rfl (by first | exact Or.inl rfl | exact Or.inr rfl)) (pgs_cons (pg_name (i := 2) sc_need_sheet.nd rfl (by first | exact Or.inl rfl | exact Or.inr rfl)) (pgs_cons (pg_name (i := 3) sc_need_sheet.nd rfl (by first | exact Or.inl rfl | exact Or.inr rfl)) pgs_nil))))) (pss_cons (ps_if (PW.pt (pw_or (pt_not (pt_val (pe_cl o_are_signs hr (by rfl) (pa_cons (pv 1) pa_nil)))) (pw_or (pt_not (pt_val (pe_cl o_are_signs hr (by rfl) (pa_cons (pv 2) pa_nil)))) (pw_or1 (pt_cmpR (op_uNe K hr.units) (pe_callB (cr_len K) (by rfl) T.b_len (by decide +kernel) (pa_cons (pv 1) pa_nil)) (pe_callB (cr_len K) (by rfl) T.b_len (by decide +kernel) (pa_cons (pv 2) pa_nil)) (nomark _)))))) (pss_one (ps_raiseP rfl (takes_of rfl rfl rfl rfl) XT.x_BadSheet XT.g_BadSheet XT.k_BadSheet XT.ex_BadSheet XT.ty_BadSheet (by rfl))) pss_nil) (pss_one (ps_if (PW.pt (pw_and (pt_cmpR op_uNotN (pv 3) pe_non (nomark _)) (pw_and1 (pt_not (pt_chain op_uLe op_uLt pe_int (pv 3) (pe_callB (cr_len K) (by rfl) T.b_len (by decide +kernel) (pa_cons (pv 1) pa_nil))))))) (pss_one (ps_raiseP rfl (takes_of rfl rfl rfl rfl) XT.x_BadSheet XT.g_BadSheet XT.k_BadSheet XT.ex_BadSheet XT.ty_BadSheet (by rfl))) pss_nil)))), ?_⟩
  obtain ⟨a, rfl, ha⟩ := id hv
  have bad : ∀ H1, Same H H1 → s.good = false → E (.ref cl.BadSheet) none H1 := fun H1 s1 e => q.2 e H1 s1
  walk_at "r"
  refine use_are_signs hl.1 fun H1 s1 => ?_
  walk_at "r"
  have g0 : s.good = (goodSigns s.zero && goodSigns s.one && decide (s.zero.length = s.one.length) && (match s.home with | none => true | some h => decide (0 ≤ h ∧ h < s.zero.length))) := rfl
  refine w_b (fun h1 => ?_) (fun h1 => ?_)
  · walk_at "r"
    refine bad H1 s1 ?_
    rw [g0, show goodSigns s.zero = false by cases e : goodSigns s.zero <;> simp_all]
    rfl
  have h1 : goodSigns s.zero = true := by cases e : goodSigns s.zero <;> simp_all
  walk_at "r"
  refine use_are_signs hl.2 fun H2 s2 => ?_
  have s12 := s1.trans s2
  walk_at "r"
  refine w_b (fun h2 => ?_) (fun h2 => ?_)
  · walk_at "r"
    refine bad H2 s12 ?_
    rw [g0, show goodSigns s.one = false by cases e : goodSigns s.one <;> simp_all, Bool.and_false]
    rfl
  have h2 : goodSigns s.one = true := by cases e : goodSigns s.one <;> simp_all
  have l0 : s.zero.length ≤ 100000 := by have := hl.1; omega
  have l1 : s.one.length ≤ 100000 := by have := hl.2; omega
  walk_at "r"
  refine r_lenS (by rw [len_mkS]; exact le_size l0) ?_
  walk_at "r"
  refine r_lenS (by rw [len_mkS]; exact le_size l1) ?_
  walk_at "r"
  rw [len_mkS, len_mkS]
  refine w_nd (fun h3 => ?_) (fun h3 => ?_)
  · walk_at "r"
    refine bad H2 s12 ?_
    rw [g0, decide_eq_false (show ¬ s.zero.length = s.one.length by omega), Bool.and_false]
    rfl
  have h3 : s.zero.length = s.one.length := by omega
  rw [h1, h2, decide_eq_true h3] at g0
  walk_at "r"
  cases eh : s.home with
  | none =>
    rw [eh] at g0
    rw [decide_eq_true (show hVI none = V.non from rfl)]
    walk_at "r"
    exact q.1 g0 H2 s12
  | some h =>
    rw [eh] at g0
    rw [decide_eq_false (show ¬ hVI (some h) = V.non from (fun z => nomatch z))]
    show if (!false) = true then _ else _
    walk_at "r"
    refine r_leI ?_
    walk_at "r"
    refine w_dec (fun h4 => ?_) (fun h4 => ?_)
    · walk_at "r"
      refine r_lenS (by rw [len_mkS]; exact le_size l0) ?_
      rw [len_mkS]
      refine r_ltI ?_
      walk_at "r"
      refine w_nd (fun h5 => ?_) (fun h5 => ?_)
      · walk_at "r"
        refine bad H2 s12 ?_
        rw [g0]
        exact decide_eq_false fun z => h5 z.2
      · walk_at "r"
        refine q.1 ?_ H2 s12
        rw [g0]
        exact decide_eq_true ⟨h4, h5⟩
    · walk_at "r"
      refine bad H2 s12 ?_
      rw [g0]
      exact decide_eq_false fun z => h4 z.1

/-! ### what a text is read as -/
def okC (c : Nat) : Prop := c = 10 ∨ (32 ≤ c ∧ c ≤ 126)
def gr (i : Nat) (r : List Nat) : Bool := decide (i < 2) || (decide (i = 2) && (homeN r).isSome)
/-- the first bad row, from the i-th on -/
def fb : Nat → List (List Nat) → Option Nat
  | _, [] => none
  | i, r :: rs => if gr i r = true then fb (i + 1) rs else some i
inductive Due13 where
  | row (n : Nat)
  | sheet
  | told (s : Raw)
def rawOf (rs : List (List Nat)) : Raw := ⟨rs.getD 0 [], rs.getD 1 [], ((homeN (rs.getD 2 [])).getD none).map fun h => (h : Int)⟩
def due13 (rs : List (List Nat)) : Due13 := match fb 0 rs with
  | some n => .row n
  | none => if rs.length < 3 then .row rs.length else if (rawOf rs).good = true then .told (rawOf rs) else .sheet
theorem fb_none {rs : List (List Nat)} (h : fb 0 rs = none) : rs.length ≤ 3 ∧ ∀ r, rs[2]? = some r → (homeN r).isSome = true := by
  match rs, h with
  | [], _ => exact ⟨by decide, fun r h => nomatch h⟩
  | [a], _ => exact ⟨by show 1 ≤ 3; decide, fun r h => nomatch h⟩
  | [a, b], _ => exact ⟨by show 2 ≤ 3; decide, fun r h => nomatch h⟩
  | [a, b, c], h =>
    refine ⟨Nat.le_refl _, fun r hr => ?_⟩
    have e : c = r := Option.some.inj hr
    subst e
    have h : fb 2 [c] = none := h
    have h : (if gr 2 c = true then fb 3 [] else some 2) = none := h
    by_cases g : gr 2 c = true
    · exact g
    · rw [if_neg g] at h; cases h
  | a :: b :: c :: d :: rs, h =>
    have h : (if gr 2 c = true then fb 3 (d :: rs) else some 2) = none := h
    by_cases g : gr 2 c = true
    · rw [if_pos g] at h
      cases h
    · rw [if_neg g] at h; cases h
theorem drop_row {rs : List (List Nat)} {i : Nat} {r : List Nat} (h : rs[i]? = some r) : rs.drop i = r :: rs.drop (i + 1) := by
  obtain ⟨hi, e⟩ := List.getElem?_eq_some_iff.mp h
  rw [← e]
  exact List.drop_eq_getElem_cons hi
theorem homeV_isN (o : Option (Option Nat)) : decide (homeV o = V.int (-1)) = !o.isSome := by
  cases o with
  | none => exact decide_eq_true rfl
  | some o =>
    cases o with
    | none => exact decide_eq_false fun z => nomatch z
    | some h =>
      refine decide_eq_false fun z => ?_
      have : (h : Int) = -1 := V.int.inj z
      omega
theorem homeV_scal (o : Option (Option Nat)) : scal (homeV o) (.int (-1)) = true := by
  cases o with
  | none => rfl
  | some o => cases o <;> rfl
theorem row_ok {x : List Nat} (hx : ∀ c ∈ x, okC c) {r : List Nat} (hr : r ∈ rows x) : ∀ c ∈ r, 32 ≤ c ∧ c ≤ 126 := fun c hc => by
  obtain ⟨h1, h2⟩ := rows_mem x r hr c hc
  rcases hx c h1 with z | z
  · exact absurd z h2
  · exact z
theorem hVI_home {o : Option (Option Nat)} (h : o.isSome = true) : homeV o = hVI ((o.getD none).map fun h => (h : Int)) := by
  cases o with
  | none => cases h
  | some o => cases o <;> rfl
def spReadSheet (cl : Cl) : Sp := fun vs H Q E => ∃ (x : List Nat), vs = [.str (mkS x)] ∧ (∀ c ∈ x, okC c) ∧ (x.length ≤ 2000) ∧ ((∀ n, due13 (rows x) = .row n → ∀ d H', Same H H' → H' d = some (.xd [("row", .int (n : Nat))]) → E (.ref cl.BadText) (some d) H') ∧ (due13 (rows x) = .sheet → ∀ H', Same H H' → E (.ref cl.BadSheet) none H') ∧ (∀ s, due13 (rows x) = .told s → ∀ p H', Same H H' → H' p = some (.tup [.str (mkS s.zero), .str (mkS s.one), hVI s.home]) → Q (.ref p) H'))
theorem use_read_sheet {cl : Cl} {H : Hp} {Q : VK} {E : XK} {x : List Nat} (hx : ∀ c ∈ x, okC c) (hl : x.length ≤ 2000) (q : (∀ n, due13 (rows x) = .row n → ∀ d H', Same H H' → H' d = some (.xd [("row", .int (n : Nat))]) → E (.ref cl.BadText) (some d) H') ∧ (due13 (rows x) = .sheet → ∀ H', Same H H' → E (.ref cl.BadSheet) none H') ∧ (∀ s, due13 (rows x) = .told s → ∀ p H', Same H H' → H' p = some (.tup [.str (mkS s.zero), .str (mkS s.one), hVI s.home]) → Q (.ref p) H')) : spReadSheet cl [.str (mkS x)] H Q E := ⟨x, rfl, hx, hl, q⟩

theorem ok_read_sheet {k : Nat} (T : TX mg) (F : Df K mg "read_sheet" s_read_sheet ["text"]) (XT : EX K mg cl) (o_need_sheet : OkX P w K mg base "need_sheet" k ["sheet"] (spNeedSheet cl)) (o_home_of : OkAt P w K mg base "home_of" k ["word"] spHomeOf) (i_BadText : InitOk P w K mg base cl.BadText "row" k) : OkX P w K mg base "read_sheet" (k + 1) ["text"] (spReadSheet cl) := by
  refine F.okX sc_read_sheet (fun vs H Q E h => ?_) (fun f cdv A outer s H vs Q E hr h => ?_)
  · obtain ⟨x, rfl, _⟩ := h
    rfl
  obtain ⟨x, rfl, hx, hl, q⟩ := h
  refine ⟨_, (pss_cons (ps_set (i := 1) sc_read_sheet.nd rfl (by first | exact Or.inl rfl | exact Or.inr rfl) (pe_split (pv 0) pe_str)) (pss_cons (ps_for (passes_of rfl) rfl (pi_enumK K (by rfl) T.b_enumerate (pa_cons (pv 1) pa_nil)) (pg_tupK K (n := 2) rfl (pgs_cons (pg_name (i := 2) sc_read_sheet.nd rfl (by first | exact Or.inl rfl | exact Or.inr rfl)) (pgs_cons (pg_name (i := 3) sc_read_sheet.nd rfl (by first | exact Or.inl rfl | exact Or.inr rfl)) pgs_nil))) (pss_cons (ps_set (i := 4) sc_read_sheet.nd rfl (by first | exact Or.inl rfl | exact Or.inr rfl) (pe_and (pe_cmpR op_uLt (pv 2) pe_int (nomark _)) (pe_one (pe_cmpR (op_uEq K hr.units) (pe_lc (own := [("sign", 5)]) (g := gName 5) rfl sc_read_sheet.nd (pi_str (pv 3)) (blkOk_by (own := [("sign", 5)]) (N := ["text", "rows", "number", "row", "good", "sign", "sheet"]) (sc := defScope s_read_sheet) (by decide +kernel)) (fun _ _ _ _ _ => (pg_name (i := 5) sc_read_sheet.nd rfl (by first | exact Or.inl rfl | exact Or.inr rfl))) (fun _ _ _ _ _ => (pts_one (pt_not (pt_chain op_uLe op_uLe (pe_gStr (by rfl) T.c_FIRST) (pv 5) (pe_gStr (by rfl) T.c_LAST))))) (fun _ _ _ _ _ => (pv 5))) (pe_lstN pa_nil) (nomark _))))) (pss_one (ps_if (PW.pt (pw_and (pt_not (pt_val (pv 4))) (pw_and1 (pt_not (PW.pt (pw_and (pt_cmpR (op_uEq K hr.units) (pv 2) pe_int (nomark _)) (pw_and1 (pt_cmpR (op_uNe K hr.units) (pe_cl o_home_of hr (by rfl) (pa_cons (pv 3) pa_nil)) (pe_un un_neg pe_int) (nomark _))))))))) (pss_one (ps_raiseI K rfl (takes_of rfl rfl rfl rfl) XT.o_BadText i_BadText hr XT.g_BadText (by rfl) (pa_cons (pv 2) pa_nil))) pss_nil)))) (pss_cons (ps_if (pt_cmpR op_uLt (pe_callB (cr_len K) (by rfl) T.b_len (by decide +kernel) (pa_cons (pv 1) pa_nil)) (pe_gInt (by rfl) T.c_ROWS) (nomark _)) (pss_one (ps_raiseI K rfl (takes_of rfl rfl rfl rfl) XT.o_BadText i_BadText hr XT.g_BadText (by rfl) (pa_cons (pe_callB (cr_len K) (by rfl) T.b_len (by decide +kernel) (pa_cons (pv 1) pa_nil)) pa_nil))) pss_nil) (pss_cons (ps_set (i := 6) sc_read_sheet.nd rfl (by first | exact Or.inl rfl | exact Or.inr rfl) (pe_tupN (pa_cons (pe_ix (ix_u K) (pv 1) pe_int (fun _ _ => rfl)) (pa_cons (pe_ix (ix_u K) (pv 1) pe_int (fun _ _ => rfl)) (pa_cons (pe_cl o_home_of hr (by rfl) (pa_cons (pe_ix (ix_u K) (pv 1) pe_int (fun _ _ => rfl)) pa_nil)) pa_nil))))) (pss_cons (ps_expr (pe_clX o_need_sheet hr (takes_of rfl rfl rfl rfl) (by rfl) (pa_cons (pv 6) pa_nil))) (pss_one (ps_ret (pv 6)))))))), ?_⟩
  have hrl := rows_len x
  walk_at "r"
  refine r_m1 ?_
  walk_at "r"
  refine r_strP ?_
  walk_at "r"
  refine r_split (by decide +kernel) (by rw [len_mkS]; exact le_size (by omega)) fun p1 H1 n1 s1 e1 => ?_
  rw [rows_split, ← strsV_mk] at e1
  walk_at "r"
  refine f_enum e1 (fun i σ H' => ∃ (y2 y3 y4 : Option V), σ = [some (.str (mkS x)), some (.ref p1), y2, y3, y4, none, none] ∧ Same H1 H' ∧ fb 0 (rows x) = fb i ((rows x).drop i)) ⟨none, none, none, rfl, Same.refl _, rfl⟩ (fun i σ H' _ ⟨_, _, _, _, s, _⟩ => s _ _ e1) (fun i z σ H2 TT H3 hz => ?_) ?_
  · rintro ⟨y2, y3, y4, rfl, s2, hfb⟩ hT s3 e3
    have s23 := s2.trans s3
    obtain ⟨r, hr, rfl⟩ : ∃ r, (rows x)[i]? = some r ∧ z = .str (mkS r) := by
      unfold strsV at hz
      rw [List.getElem?_map] at hz
      cases e : (rows x)[i]? with
      | none => rw [e] at hz; cases hz
      | some r => rw [e] at hz; exact ⟨r, rfl, (Option.some.inj hz).symm⟩
    have hrm := List.mem_of_getElem? hr
    have hro := row_ok hx hrm
    have hrl2 := row_len hrm
    have hfb2 : fb 0 (rows x) = if gr i r = true then fb (i + 1) ((rows x).drop (i + 1)) else some i := by rw [hfb, drop_row hr]; rfl
    walk_at "r"
    refine w_dec (fun hi => ?_) (fun hi => ?_)
    · have hg : gr i r = true := by unfold gr; rw [decide_eq_true (show i < 2 by omega)]; rfl
      rw [if_pos hg] at hfb2
      walk_at "r"
      refine c_str (fun _ => []) (by rw [len_mkS]; omega) rfl (fun _ => Nat.zero_le _) (fun j c H' hc s Ky Kn hy hn => ?_) (fun p4 H4 n4 s4 e4 => ?_)
      · rw [tl_mkS] at hc
        have hc2 := hro c (List.mem_of_getElem? hc)
        have l1 : decide ((sing c).cps.toList < (Str.ofString " ").cps.toList) = decide (c < 32) := lt_sing c 32
        have l2 : decide ((Str.ofString "~").cps.toList < (sing c).cps.toList) = decide (126 < c) := lt_sing 126 c
        walk_at "r"
        refine ⟨rfl, ?_⟩
        walk_at "r"
        refine r_leS ?_
        walk_at "r"
        rw [l1]
        refine w_nyes (by omega) ?_
        walk_at "r"
        refine r_leS ?_
        walk_at "r"
        rw [l2, decide_eq_false (show ¬ 126 < c by omega)]
        exact hn _ (Same.refl _) rfl
      · walk_at "r"
        intro p5 H5 n5 s5 e5
        refine r_eqNilS (l := []) (s5 _ _ e4) (fun c hc => nomatch hc) e5 ?_
        walk_at "r"
        exact ⟨_, _, _, rfl, (s23.trans s4).trans s5, hfb2⟩
    · have out : ∀ H4, Same H3 H4 → gr i r = false → tRaiseO K cl.BadText "row" (fun cls d _ H => E cls d H) (tCons (tVar 2) tNil) ⟨fun σ H => False, fun v H => False, fun σ H => False, fun σ H => False⟩ [some (V.str (mkS x)), some (V.ref p1), some (V.int (i : Nat)), some (V.str (mkS r)), some (V.bl false), none, none] H4 := fun H4 s4 hg => by
        rw [hg, if_neg (by decide)] at hfb2
        refine r_raiseO1 (fun q1 q2 h ⟨v, e, z⟩ => ⟨v, e, h _ _ z⟩) ⟨_, rfl, fun d H5 nd s5 e5 => ?_⟩
        refine q.1 i ?_ d H5 (((s1.trans s23).trans s4).trans s5) e5
        unfold due13
        rw [hfb2]
      walk_at "r"
      refine w_dec (fun h2 => ?_) (fun h2 => ?_)
      · walk_at "r"
        refine use_home_of (by omega) (fun c hc => (hro c hc).2) fun H4 s4 => ?_
        walk_at "r"
        refine r_neV (homeV_scal _) ?_
        rw [homeV_isN, Bool.not_not]
        walk_at "r"
        cases eh : (homeN r).isSome with
        | true =>
          have hg : gr i r = true := by unfold gr; rw [decide_eq_false (show ¬ i < 2 by omega), decide_eq_true (show i = 2 by omega), eh]; rfl
          rw [if_pos hg] at hfb2
          walk_at "r"
          exact ⟨_, _, _, rfl, s23.trans s4, hfb2⟩
        | false =>
          have hg : gr i r = false := by unfold gr; rw [decide_eq_false (show ¬ i < 2 by omega), eh, Bool.and_false]; rfl
          walk_at "r"
          exact out H4 s4 hg
      · have hg : gr i r = false := by unfold gr; rw [decide_eq_false (show ¬ i < 2 by omega), decide_eq_false (show ¬ i = 2 by omega)]; rfl
        walk_at "r"
        exact out H3 (Same.refl _) hg
  · rintro σ H2 ⟨y2, y3, y4, rfl, s2, hfb⟩
    have sl : (strsV (rows x)).length = (rows x).length := strsV_len _
    rw [sl, List.drop_length] at hfb
    have hfb : fb 0 (rows x) = none := hfb
    have e2 := s2 _ _ e1
    have hd : due13 (rows x) = if (rows x).length < 3 then .row (rows x).length else if (rawOf (rows x)).good = true then .told (rawOf (rows x)) else .sheet := by
      unfold due13
      rw [hfb]
    walk_at "r"
    rw [sl]
    refine w_dec (fun h3 => ?_) (fun h3 => ?_)
    · walk_at "r"
      refine r_raiseO1 (fun q1 q2 h ⟨v, e, x, n, e2, l, z⟩ => ⟨v, e, x, n, e2, l, h _ _ z⟩) ?_
      walk_at "r"
      rw [sl]
      intro d H5 nd s5 e5
      refine q.1 _ ?_ d H5 ((s1.trans s2).trans s5) e5
      rw [hd, if_pos (by omega)]
    · obtain ⟨h4, h5⟩ := fb_none hfb
      have h6 : (rows x).length = 3 := by omega
      have at_ : ∀ i, i < 3 → (rows x)[i]? = some ((rows x).getD i []) := fun i hi => by rw [List.getD_eq_getElem?_getD, List.getElem?_eq_getElem (by omega)]; rfl
      have ixR : ∀ i : Nat, i < 3 → atI (strsV (rows x)) ((i : Nat) : Int) = some (.str (mkS ((rows x).getD i []))) := fun i hi => atI_nat (strsV_at (at_ i hi))
      rw [if_neg (by omega)] at hd
      walk_at "r"
      refine r_ixL e2 (n := 0) (ixR 0 (by decide)) ?_
      walk_at "r"
      refine r_ixL e2 (n := 1) (ixR 1 (by decide)) ?_
      walk_at "r"
      refine r_ixL e2 (n := 2) (ixR 2 (by decide)) ?_
      walk_at "r"
      have m2 := List.mem_of_getElem? (at_ 2 (by decide))
      have ro2 := row_ok hx m2
      have rl2 := row_len m2
      refine use_home_of (by omega) (fun c hc => (ro2 c hc).2) fun H3 s3 => ?_
      rw [hVI_home (h5 _ (at_ 2 (by decide)))]
      walk_at "r"
      intro p4 H4 n4 s4 e4
      walk_at "r"
      have rl0 := row_len (List.mem_of_getElem? (at_ 0 (by decide)))
      have rl1 := row_len (List.mem_of_getElem? (at_ 1 (by decide)))
      have s14 := ((s1.trans s2).trans s3).trans s4
      refine use_need_sheet (s := rawOf (rows x)) ⟨p4, rfl, e4⟩ ⟨by show ((rows x).getD 0 []).length ≤ 3000; omega, by show ((rows x).getD 1 []).length ≤ 3000; omega⟩ ⟨fun hg H5 s5 => ?_, fun hg H5 s5 => ?_⟩
      · rw [if_pos hg] at hd
        walk_at "r"
        exact q.2.2 _ hd p4 H5 (s14.trans s5) (s5 _ _ e4)
      · rw [hg, if_neg (by decide)] at hd
        exact q.2.1 hd H5 (s14.trans s5)

def spLawClass (K : PySem.W.Frag) (cl : Cl) : Addr → Value → Option Addr → Sp := fun a cls d vs H Q E => ∃ (D : Addr) (w : Str) (fs : List (Str × V)), vs = [.ref a] ∧ (cls = .ref D) ∧ (L2.ExcC K D) ∧ (∀ dd, d = some dd → H dd = some (.xd fs)) ∧ ((D = cl.BadSheet ∧ w = "BadSheet") ∨ (D = cl.BadText ∧ w = "BadText")) ∧ (∀ H', Same H H' → Q (.str w) H')
theorem use_law_class {K : PySem.W.Frag} {cl : Cl} {a : Addr} {cls : Value} {d : Option Addr} {H : Hp} {Q : VK} {E : XK} {D : Addr} {w : Str} {fs : List (Str × V)} (hcls : cls = .ref D) (hE : L2.ExcC K D) (hd : ∀ dd, d = some dd → H dd = some (.xd fs)) (hk : (D = cl.BadSheet ∧ w = "BadSheet") ∨ (D = cl.BadText ∧ w = "BadText")) (q : ∀ H', Same H H' → Q (.str w) H') : spLawClass K cl a cls d [.ref a] H Q E := ⟨D, w, fs, rfl, hcls, hE, hd, hk, q⟩

theorem ok__law_class {k : Nat} (T : TX mg) (F : Df K mg "_law_class" s__law_class ["_law_e"]) (XT : EX K mg cl) : OkP P w K mg base "_law_class" (k + 1) ["_law_e"] (spLawClass K cl) := by
  refine F.okP sc__law_class (fun a cls d vs H Q E h => ?_) (fun f cdv A outer s H vs Q E p cls d hz hf hr h => ?_)
  · obtain ⟨D, w, fs, rfl, _⟩ := h
    rfl
  obtain ⟨D, w, fs, rfl, hcls, hE, hd, hk, q⟩ := h
  subst hcls
  refine ⟨_, (pss_cons (ps_set (i := 1) sc__law_class.nd rfl (by first | exact Or.inl rfl | exact Or.inr rfl) (pe_lstN (pa_cons (pe_callB (cr_isP K hE List.mem_cons_self hz hf) (by rfl) T.b_isinstance (by decide +kernel) (pa_cons (pv 0) (pa_cons (pe_glob (v := .ref cl.BadSheet) (by rfl) XT.g_BadSheet rfl) pa_nil))) (pa_cons (pe_callB (cr_isP K hE List.mem_cons_self hz hf) (by rfl) T.b_isinstance (by decide +kernel) (pa_cons (pv 0) (pa_cons (pe_glob (v := .ref cl.BadSet) (by rfl) XT.g_BadSet rfl) pa_nil))) (pa_cons (pe_callB (cr_isP K hE List.mem_cons_self hz hf) (by rfl) T.b_isinstance (by decide +kernel) (pa_cons (pv 0) (pa_cons (pe_glob (v := .ref cl.BadTape) (by rfl) XT.g_BadTape rfl) pa_nil))) (pa_cons (pe_callB (cr_isP K hE List.mem_cons_self hz hf) (by rfl) T.b_isinstance (by decide +kernel) (pa_cons (pv 0) (pa_cons (pe_glob (v := .ref cl.NoSign) (by rfl) XT.g_NoSign rfl) pa_nil))) pa_nil)))))) (pss_cons (ps_set (i := 1) sc__law_class.nd rfl (by first | exact Or.inl rfl | exact Or.inr rfl) (pe_op (op_uAdd K) (pv 1) (pe_lstN (pa_cons (pe_callB (cr_isP K hE List.mem_cons_self hz hf) (by rfl) T.b_isinstance (by decide +kernel) (pa_cons (pv 0) (pa_cons (pe_glob (v := .ref cl.BadCount) (by rfl) XT.g_BadCount rfl) pa_nil))) (pa_cons (pe_callB (cr_isP K hE List.mem_cons_self hz hf) (by rfl) T.b_isinstance (by decide +kernel) (pa_cons (pv 0) (pa_cons (pe_glob (v := .ref cl.BadText) (by rfl) XT.g_BadText rfl) pa_nil))) pa_nil))))) (pss_cons (ps_set (i := 2) sc__law_class.nd rfl (by first | exact Or.inl rfl | exact Or.inr rfl) (pe_lstN (pa_cons pe_str (pa_cons pe_str (pa_cons pe_str (pa_cons pe_str (pa_cons pe_str (pa_cons pe_str pa_nil)))))))) (pss_one (ps_ret (pe_ifExp (PW.pt (pw_and (pt_cmpR (op_uEq K (units_of hr)) (pe_bmK K PySem.F.plainAttrs_list PySem.F.slot_list_count PySem.F.type_list_count (mt_countB K) (pv 1) (pa_cons pe_bl pa_nil)) pe_int (nomark _)) (pw_and1 (pt_val (pe_callB (cr_isP K hE List.mem_cons_self hz hf) (by rfl) T.b_isinstance (by decide +kernel) (pa_cons (pv 0) (pa_cons (pe_bltn (v := .ty "ValueError") (by rfl) T.b_ValueError (by decide +kernel) rfl) pa_nil))))))) (pe_ix (ix_u K) (pv 2) (pe_bmK K PySem.F.plainAttrs_list PySem.F.slot_list_index PySem.F.type_list_index (mt_indexB K) (pv 1) (pa_cons pe_bl pa_nil)) (fun _ _ => rfl)) pe_str)))))), ?_⟩
  have hdS : ∀ {G : Hp}, Same H G → ∀ dd, d = some dd → G dd = some (.xd fs) := fun s dd e => s _ _ (hd dd e)
  rcases hk with ⟨rfl, rfl⟩ | ⟨rfl, rfl⟩
  · walk_at "r"
    refine r_isPC XT.is_BadSheet_BadSheet hd ?_
    walk_at "r"
    refine r_isPC XT.is_BadSheet_BadSet hd ?_
    walk_at "r"
    refine r_isPC XT.is_BadSheet_BadTape hd ?_
    walk_at "r"
    refine r_isPC XT.is_BadSheet_NoSign hd ?_
    walk_at "r"
    intro p1 H1 n1 s1 e1
    walk_at "r"
    refine r_isPC XT.is_BadSheet_BadCount (hdS s1) ?_
    walk_at "r"
    refine r_isPC XT.is_BadSheet_BadText (hdS s1) ?_
    walk_at "r"
    intro p2 H2 n2 s2 e2
    walk_at "r"
    refine r_addL (s2 _ _ e1) e2 (le_size (by show 6 ≤ 100000; decide)) fun p3 H3 n3 s3 e3 => ?_
    have e3 : H3 p3 = some (.lst ([true, false, false, false, false, false].map V.bl)) := e3
    walk_at "r"
    intro p4 H4 n4 s4 e4
    have e34 := s4 _ _ e3
    have s14 := ((s1.trans s2).trans s3).trans s4
    walk_at "r"
    refine r_countB e34 ?_
    walk_at "r"
    refine w_yes (by decide) ?_
    walk_at "r"
    refine r_isPT XT.iv_BadSheet (hdS s14) ?_
    walk_at "r"
    refine r_indexB (j := 0) e34 rfl (fun m h => absurd h (Nat.not_lt_zero _)) ?_
    refine r_ixL e4 (atI_nat rfl) ?_
    exact q H4 s14
  · walk_at "r"
    refine r_isPC XT.is_BadText_BadSheet hd ?_
    walk_at "r"
    refine r_isPC XT.is_BadText_BadSet hd ?_
    walk_at "r"
    refine r_isPC XT.is_BadText_BadTape hd ?_
    walk_at "r"
    refine r_isPC XT.is_BadText_NoSign hd ?_
    walk_at "r"
    intro p1 H1 n1 s1 e1
    walk_at "r"
    refine r_isPC XT.is_BadText_BadCount (hdS s1) ?_
    walk_at "r"
    refine r_isPC XT.is_BadText_BadText (hdS s1) ?_
    walk_at "r"
    intro p2 H2 n2 s2 e2
    walk_at "r"
    refine r_addL (s2 _ _ e1) e2 (le_size (by show 6 ≤ 100000; decide)) fun p3 H3 n3 s3 e3 => ?_
    have e3 : H3 p3 = some (.lst ([false, false, false, false, false, true].map V.bl)) := e3
    walk_at "r"
    intro p4 H4 n4 s4 e4
    have e34 := s4 _ _ e3
    have s14 := ((s1.trans s2).trans s3).trans s4
    walk_at "r"
    refine r_countB e34 ?_
    walk_at "r"
    refine w_yes (by decide) ?_
    walk_at "r"
    refine r_isPT XT.iv_BadText (hdS s14) ?_
    walk_at "r"
    refine r_indexB (j := 5) e34 rfl (fun m h => by
      match m, h with
      | 0, _ => rfl
      | 1, _ => rfl
      | 2, _ => rfl
      | 3, _ => rfl
      | 4, _ => rfl) ?_
    refine r_ixL e4 (atI_nat rfl) ?_
    exact q H4 s14
def homeDI : Option Int → PyData
  | none => .none
  | some h => .int h
theorem da_homeI {H : Hp} (o : Option Int) : Da H (hVI o) (homeDI o) := by
  cases o with
  | none => exact .non
  | some h => exact .int h
def dueD : Due13 → PyData
  | .row n => .tuple [.str "BadText", .int (n : Nat)]
  | .sheet => .tuple [.str "BadSheet", .int 0]
  | .told s => .tuple [.str "told", .tuple [.str (mkS s.zero), .str (mkS s.one), homeDI s.home]]
def spLawTold : Sp := fun vs H Q E => ∃ (x : List Nat), vs = [.str (mkS x)] ∧ (∀ c ∈ x, okC c) ∧ (x.length ≤ 2000) ∧ (∀ p H', Same H H' → Da H' (.ref p) (dueD (due13 (rows x))) → Q (.ref p) H')
theorem use_law_told {H : Hp} {Q : VK} {E : XK} {x : List Nat} (hx : ∀ c ∈ x, okC c) (hl : x.length ≤ 2000) (q : ∀ p H', Same H H' → Da H' (.ref p) (dueD (due13 (rows x))) → Q (.ref p) H') : spLawTold [.str (mkS x)] H Q E := ⟨x, rfl, hx, hl, q⟩

theorem ok__law_told {k : Nat} (T : TX mg) (F : Df K mg "_law_told" s__law_told ["_law_text_here"]) (XT : EX K mg cl) (o_read_sheet : OkX P w K mg base "read_sheet" k ["text"] (spReadSheet cl)) (o__law_class : OkP P w K mg base "_law_class" k ["_law_e"] (spLawClass K cl)) : OkAt P w K mg base "_law_told" (k + 1) ["_law_text_here"] spLawTold := by
  refine F.ok sc__law_told (fun vs H Q E h => ?_) (fun f cdv A outer s H vs Q E hr h => ?_)
  · obtain ⟨x, rfl, _⟩ := h
    rfl
  obtain ⟨x, rfl, hx, hl, q⟩ := h
  refine ⟨_, (pss_one (ps_try_as (i := 1) (Wout := fun _ _ _ _ => False) rfl rfl sc__law_told.nd rfl rfl ⟨(by rfl), by decide, .inl XT.g_TapeError⟩ takes0 (fun W pn xe tk _ => (pss_one (ps_ret (pe_tupN (pa_cons pe_str (pa_cons (pe_clX o_read_sheet hr tk (by rfl) (pa_cons (pv 0) pa_nil)) pa_nil)))))) (fun a oe cls d pn hz hf => (pss_cons (ps_set (i := 2) sc__law_told.nd rfl (by first | exact Or.inl rfl | exact Or.inr rfl) (pe_clP o__law_class ⟨hr.dp, hr.un⟩ hz hf (by rfl) (pa_cons (pv 1) pa_nil))) (pss_one (ps_ret (pe_ifExp (pt_cmpR (op_uEq K hr.units) (pv 2) pe_str (nomark _)) (pe_tupN (pa_cons (pv 2) (pa_cons (pe_xfA K hz hf (pv 1)) pa_nil))) (pe_tupN (pa_cons (pv 2) (pa_cons pe_int pa_nil)))))))))), ?_⟩
  walk_at "r"
  refine use_read_sheet hx hl ⟨fun n hn d H1 s1 e1 => ⟨true, XT.h_BadText_TapeError, fun _ a na => ?_, fun z => nomatch z⟩, fun hn H1 s1 => ⟨true, XT.h_BadSheet_TapeError, fun _ a na => ?_, fun z => nomatch z⟩, fun s hn p H1 s1 e1 => ?_⟩
  · show tSeq _ _ _ _ _
    walk_at "r"
    refine use_law_class (fs := [("row", .int (n : Nat))]) rfl XT.e_BadText (fun dd e => by cases e; exact e1) (.inr ⟨rfl, rfl⟩) fun H2 s2 => ?_
    walk_at "r"
    refine w_yes rfl ?_
    walk_at "r"
    refine r_xfA ?_
    walk_at "r"
    refine ⟨rfl, cl.BadText, rfl, XT.xf_BadText, XT.n_BadText, d, [("row", .int (n : Nat))], .int (n : Nat), rfl, s2 _ _ e1, by simp [List.lookup], ?_⟩
    walk_at "r"
    intro p3 H3 n3 s3 e3
    refine q p3 H3 ((s1.trans s2).trans s3) ?_
    rw [hn]
    exact .tup e3 (.cons (.str _) (.cons (.int _) .nil))
  · show tSeq _ _ _ _ _
    walk_at "r"
    refine use_law_class (fs := []) rfl XT.e_BadSheet (fun dd e => nomatch e) (.inl ⟨rfl, rfl⟩) fun H2 s2 => ?_
    walk_at "r"
    refine w_no (by decide +kernel) ?_
    walk_at "r"
    intro p3 H3 n3 s3 e3
    refine q p3 H3 ((s1.trans s2).trans s3) ?_
    rw [hn]
    exact .tup e3 (.cons (.str _) (.cons (.int _) .nil))
  · walk_at "r"
    intro p3 H3 n3 s3 e3
    refine q p3 H3 (s1.trans s3) ?_
    rw [hn]
    exact .tup e3 (.cons (.str _) (.cons (.tup (s3 _ _ e1) (.cons (.str _) (.cons (.str _) (.cons (da_homeI _) .nil)))) .nil))
def spLawHome : Sp := fun vs H Q E => ∃ (w : List Nat), vs = [.str (mkS w)] ∧ (w.length ≤ 10000) ∧ (∀ c ∈ w, c ≤ 126) ∧ (∀ H', Same H H' → Q (homeV (homeN w)) H')
theorem use_law_home {H : Hp} {Q : VK} {E : XK} {w : List Nat} (hl : w.length ≤ 10000) (hw : ∀ c ∈ w, c ≤ 126) (q : ∀ H', Same H H' → Q (homeV (homeN w)) H') : spLawHome [.str (mkS w)] H Q E := ⟨w, rfl, hl, hw, q⟩

theorem ok__law_home {k : Nat} (T : TX mg) (F : Df K mg "_law_home" s__law_home ["_law_word"]) : OkAt P w K mg base "_law_home" (k + 1) ["_law_word"] spLawHome := by
  refine F.ok sc__law_home (fun vs H Q E h => ?_) (fun f cdv A outer s H vs Q E hr h => ?_)
  · obtain ⟨w, rfl, _⟩ := h
    rfl
  obtain ⟨w, rfl, hl, hw, q⟩ := h
  refine ⟨_, (pss_cons (ps_if (pt_cmpR (op_uEq K hr.units) (pv 0) pe_str (nomark _)) (pss_one (ps_ret pe_non)) pss_nil) (pss_cons (ps_if (PW.pt (pw_or (pt_cmpR (op_uEq K hr.units) (pv 0) pe_str (nomark _)) (pw_or (pt_cmpR op_uGt (pe_callB (cr_len K) (by rfl) T.b_len (by decide +kernel) (pa_cons (pv 0) pa_nil)) pe_int (nomark _)) (pw_or1 (pt_cmpR (op_uNe K hr.units) (pe_lc (own := [("_law_sign", 1)]) (g := gName 1) rfl sc__law_home.nd (pi_str (pv 0)) (blkOk_by (own := [("_law_sign", 1)]) (N := ["_law_word", "_law_sign"]) (sc := defScope s__law_home) (by decide +kernel)) (fun _ _ _ _ _ => (pg_name (i := 1) sc__law_home.nd rfl (by first | exact Or.inl rfl | exact Or.inr rfl))) (fun _ _ _ _ _ => (pts_one (pt_cmpR (op_uNi K) (pv 1) pe_str (by rfl)))) (fun _ _ _ _ _ => (pv 1))) (pe_lstN pa_nil) (nomark _)))))) (pss_one (ps_ret (pe_un un_neg pe_int))) pss_nil) (pss_one (ps_ret (pe_ifExp (PW.pt (pw_and (pt_cmpR (op_uEq K hr.units) (pe_ix (ix_u K) (pv 0) pe_int (fun _ _ => rfl)) pe_str (nomark _)) (pw_and1 (pt_cmpR (op_uNe K hr.units) (pv 0) pe_str (nomark _))))) (pe_un un_neg pe_int) (pe_callTy cr_int (by rfl) T.b_int (by decide +kernel) (pa_cons (pv 0) pa_nil))))))), ?_⟩
  have hlw : (mkS w).length ≤ sizeLine := by rw [len_mkS]; exact le_size (by omega)
  have emptyS : Str.ofString "" = mkS [] := by decide +kernel
  walk_at "r"
  rw [dash, mkS_eq]
  refine w_dec (fun h => ?_) (fun h => ?_)
  · walk_at "r"
    have e : homeN w = some none := if_pos h
    rw [e] at q
    exact q _ (Same.refl _)
  have e0 : homeN w = if (1 ≤ w.length ∧ w.length ≤ 2) ∧ w.all digitC = true then (if w.head? = some 48 ∧ w ≠ [48] then none else some (some (NumText.digitsVal w))) else none := if_neg h
  walk_at "r"
  rw [emptyS, mkS_eq]
  refine w_dec (fun h1 => ?_) (fun h1 => ?_)
  · walk_at "r"
    rw [e0, if_neg (fun z => by rw [h1] at z; exact absurd z.1.1 (by decide))] at q
    exact q _ (Same.refl _)
  have h1' : 1 ≤ w.length := List.length_pos_iff.mpr h1
  walk_at "r"
  refine r_lenS hlw ?_
  rw [len_mkS]
  walk_at "r"
  refine w_dec (fun h2 => ?_) (fun h2 => ?_)
  · walk_at "r"
    rw [e0, if_neg (fun z => by omega)] at q
    exact q _ (Same.refl _)
  walk_at "r"
  refine c_str (fun i => signsV ((w.take i).filter fun c => !digitC c)) (by rw [len_mkS]; omega) rfl (fun i => by rw [signsV_len]; exact Nat.le_trans (List.length_filter_le _ _) (by rw [List.length_take]; omega)) (fun i c H' hx s Ky Kn hy hn => ?_) (fun p H1 n1 s1 e1 => ?_)
  · rw [tl_mkS] at hx
    walk_at "r"
    refine ⟨rfl, ?_⟩
    walk_at "r"
    rw [figs]
    refine r_niC ?_
    rw [figs_mem]
    walk_at "r"
    refine w_b (fun hd => ?_) (fun hd => ?_)
    · walk_at "r"
      exact hy _ _ (Same.refl _) (by dsimp only; rw [filter_take_snoc hx, if_pos hd])
    · exact hn _ (Same.refl _) (by dsimp only; rw [filter_take_snoc hx, if_neg (by rw [hd]; decide), List.append_nil])
  rw [len_mkS, List.take_length] at e1
  walk_at "r"
  intro p2 H2 n2 s2 e2
  have e1' := s2 _ _ e1
  have s12 := s1.trans s2
  refine r_neNilS e1' (fun c hc => hw c (List.mem_filter.mp hc).1) e2 ?_
  have hfd : (w.filter fun c => !digitC c) = [] ↔ w.all digitC = true := by
    rw [List.filter_eq_nil_iff, List.all_eq_true]
    constructor
    · intro z c hc
      have := z c hc
      cases e : digitC c
      · rw [e] at this
        exact absurd rfl this
      · rfl
    · intro z c hc
      rw [z c hc]
      decide
  walk_at "r"
  refine w_nd (fun h3 => ?_) (fun h3 => ?_)
  · walk_at "r"
    rw [e0, if_neg (fun z => h3 (hfd.mpr z.2))] at q
    exact q _ s12
  have hall := hfd.mp h3
  have hn0 : 0 < w.length := by omega
  have hx := getD_at hn0
  have hh : w.head? = some (w.getD 0 0) := by rw [List.head?_eq_getElem?, hx]
  rw [e0, if_pos ⟨by omega, hall⟩, hh] at q
  walk_at "r"
  refine r_ixC hx (by omega) ?_
  walk_at "r"
  rw [zeroS, mkS_one]
  refine w_dec (fun h4 => ?_) (fun h4 => ?_)
  · walk_at "r"
    rw [mkS_eq]
    refine w_nd (fun h5 => ?_) (fun h5 => ?_)
    · walk_at "r"
      rw [if_pos ⟨by rw [h4], h5⟩] at q
      exact q _ s12
    · walk_at "r"
      rw [if_neg (fun z => z.2 h5)] at q
      exact .inr (.inr ⟨_, _, rfl, SX.int_S hall (by rw [h5]; decide) (by omega), by rw [len_mkS]; omega, q _ s12⟩)
  · walk_at "r"
    rw [if_neg (fun z => h4 (Option.some.inj z.1))] at q
    exact .inr (.inr ⟨_, _, rfl, SX.int_S hall (fun z => by rw [z] at hn0; exact absurd hn0 (by decide)) (by omega), by rw [len_mkS]; omega, q _ s12⟩)
def spLawDue : Sp := fun vs H Q E => ∃ (x : List Nat), vs = [.str (mkS x)] ∧ (∀ c ∈ x, okC c) ∧ (x.length ≤ 2000) ∧ (∀ p H', Same H H' → Da H' (.ref p) (dueD (due13 (rows x))) → Q (.ref p) H')
theorem use_law_due {H : Hp} {Q : VK} {E : XK} {x : List Nat} (hx : ∀ c ∈ x, okC c) (hl : x.length ≤ 2000) (q : ∀ p H', Same H H' → Da H' (.ref p) (dueD (due13 (rows x))) → Q (.ref p) H') : spLawDue [.str (mkS x)] H Q E := ⟨x, rfl, hx, hl, q⟩

theorem ok__law_due {k : Nat} (T : TX mg) (F : Df K mg "_law_due" s__law_due ["_law_text_here"]) (o__law_home : OkAt P w K mg base "_law_home" k ["_law_word"] spLawHome) : OkAt P w K mg base "_law_due" (k + 1) ["_law_text_here"] spLawDue := by
  refine F.ok sc__law_due (fun vs H Q E h => ?_) (fun f cdv A outer s H vs Q E hr h => ?_)
  · obtain ⟨x, rfl, _⟩ := h
    rfl
  obtain ⟨x, rfl, hx, hl, q⟩ := h
  refine ⟨_, (pss_cons (ps_set (i := 1) sc__law_due.nd rfl (by first | exact Or.inl rfl | exact Or.inr rfl) (pe_split (pv 0) pe_str)) (pss_cons (ps_for PassesOwn.never rfl (pi_range1 (by rfl) T.b_range (pa_cons (pe_callB (cr_len K) (by rfl) T.b_len (by decide +kernel) (pa_cons (pv 1) pa_nil)) pa_nil)) (pg_name (i := 2) sc__law_due.nd rfl (by first | exact Or.inl rfl | exact Or.inr rfl)) (pss_one (ps_if (PW.pt (pw_or (pt_cmpR op_uGt (pv 2) pe_int (nomark _)) (pw_or1 (PW.pt (pw_and (pt_cmpR (op_uEq K hr.units) (pv 2) pe_int (nomark _)) (pw_and1 (pt_cmpR (op_uEq K hr.units) (pe_cl o__law_home hr (by rfl) (pa_cons (pe_ix (ix_u K) (pv 1) pe_int (fun _ _ => rfl)) pa_nil)) (pe_un un_neg pe_int) (nomark _)))))))) (pss_one (ps_ret (pe_tupN (pa_cons pe_str (pa_cons (pv 2) pa_nil))))) pss_nil))) (pss_cons (ps_if (pt_cmpR op_uLt (pe_callB (cr_len K) (by rfl) T.b_len (by decide +kernel) (pa_cons (pv 1) pa_nil)) pe_int (nomark _)) (pss_one (ps_ret (pe_tupN (pa_cons pe_str (pa_cons (pe_callB (cr_len K) (by rfl) T.b_len (by decide +kernel) (pa_cons (pv 1) pa_nil)) pa_nil))))) pss_nil) (pss_cons (ps_par3 (i := 3) (j := 4) (l := 5) rfl sc__law_due.nd rfl rfl rfl (by decide) (by decide) (by decide) rfl rfl rfl (pa_cons (pe_ix (ix_u K) (pv 1) pe_int (fun _ _ => rfl)) (pa_cons (pe_ix (ix_u K) (pv 1) pe_int (fun _ _ => rfl)) (pa_cons (pe_cl o__law_home hr (by rfl) (pa_cons (pe_ix (ix_u K) (pv 1) pe_int (fun _ _ => rfl)) pa_nil)) pa_nil))) (by rfl)) (pss_cons (ps_if (PW.pt (pw_or (pt_not (pt_chain op_uLe op_uLe pe_int (pe_callB (cr_len K) (by rfl) T.b_len (by decide +kernel) (pa_cons (pv 3) pa_nil)) pe_int)) (pw_or (pt_cmpR (op_uNe K hr.units) (pe_callB (cr_len K) (by rfl) T.b_len (by decide +kernel) (pa_cons (pv 3) pa_nil)) (pe_callB (cr_len K) (by rfl) T.b_len (by decide +kernel) (pa_cons (pv 4) pa_nil)) (nomark _)) (pw_or1 (pt_cmpR (op_uNe K hr.units) (pe_lenSetS (by rfl) T.b_len (by rfl) T.b_set (pv 3)) (pe_callB (cr_len K) (by rfl) T.b_len (by decide +kernel) (pa_cons (pv 3) pa_nil)) (nomark _)))))) (pss_one (ps_ret (pe_tupN (pa_cons pe_str (pa_cons pe_int pa_nil))))) pss_nil) (pss_cons (ps_if (PW.pt (pw_or (pt_cmpR (op_uNe K hr.units) (pe_lenSetS (by rfl) T.b_len (by rfl) T.b_set (pv 4)) (pe_callB (cr_len K) (by rfl) T.b_len (by decide +kernel) (pa_cons (pv 4) pa_nil)) (nomark _)) (pw_or1 (PW.pt (pw_and (pt_cmpR op_uNotN (pv 5) pe_non (nomark _)) (pw_and1 (pt_cmpR op_uGe (pv 5) (pe_callB (cr_len K) (by rfl) T.b_len (by decide +kernel) (pa_cons (pv 3) pa_nil)) (nomark _)))))))) (pss_one (ps_ret (pe_tupN (pa_cons pe_str (pa_cons pe_int pa_nil))))) pss_nil) (pss_one (ps_ret (pe_tupN (pa_cons pe_str (pa_cons (pe_tupN (pa_cons (pv 3) (pa_cons (pv 4) (pa_cons (pv 5) pa_nil)))) pa_nil))))))))))), ?_⟩
  have hrl := rows_len x
  walk_at "r"
  refine r_m1 ?_
  walk_at "r"
  refine r_strP ?_
  walk_at "r"
  refine r_split (by decide +kernel) (by rw [len_mkS]; exact le_size (by omega)) fun p1 H1 n1 s1 e1 => ?_
  rw [rows_split, ← strsV_mk] at e1
  have sl : (strsV (rows x)).length = (rows x).length := strsV_len _
  have at_ : ∀ i, i < (rows x).length → (rows x)[i]? = some ((rows x).getD i []) := fun i hi => by rw [List.getD_eq_getElem?_getD, List.getElem?_eq_getElem (by omega)]; rfl
  have ixR : ∀ i : Nat, i < (rows x).length → atI (strsV (rows x)) ((i : Nat) : Int) = some (.str (mkS ((rows x).getD i []))) := fun i hi => atI_nat (strsV_at (at_ i hi))
  have rok := fun i hi => row_ok hx (List.mem_of_getElem? (at_ i hi))
  have rln := fun i hi => row_len (List.mem_of_getElem? (at_ i hi))
  walk_at "r"
  rw [sl]
  refine f_range1 (by omega) (by omega) (fun i σ H' => ∃ (y2 : Option V), σ = [some (.str (mkS x)), some (.ref p1), y2, none, none, none] ∧ Same H1 H' ∧ fb 0 (rows x) = fb i ((rows x).drop i)) ⟨none, rfl, Same.refl _, rfl⟩ ?_ ?_
  · rintro i σ H2 hi ⟨y2, rfl, s2, hfb⟩
    have hi : i < (rows x).length := by omega
    have e2 := s2 _ _ e1
    have hfb2 : fb 0 (rows x) = if gr i ((rows x).getD i []) = true then fb (i + 1) ((rows x).drop (i + 1)) else some i := by rw [hfb, drop_row (at_ i hi)]; rfl
    have out : ∀ H3, Same H2 H3 → gr i ((rows x).getD i []) = false → NewT H3 [.str (Str.ofString "BadText"), .int (i : Nat)] Q := fun H3 s3 hg p4 H4 n4 s4 e4 => by
      rw [hg, if_neg (by decide)] at hfb2
      refine q p4 H4 (((s1.trans s2).trans s3).trans s4) ?_
      rw [show due13 (rows x) = .row i by unfold due13; rw [hfb2]]
      exact .tup e4 (.cons (.str _) (.cons (.int _) .nil))
    walk_at "r"
    refine w_dec (fun h2 => ?_) (fun h2 => ?_)
    · walk_at "r"
      exact out H2 (Same.refl _) (by unfold gr; rw [decide_eq_false (show ¬ i < 2 by omega), decide_eq_false (show ¬ i = 2 by omega)]; rfl)
    · walk_at "r"
      refine w_dec (fun h3 => ?_) (fun h3 => ?_)
      · have h3 : i = 2 := by omega
        subst h3
        walk_at "r"
        refine r_ixL e2 (n := 2) (ixR 2 hi) ?_
        walk_at "r"
        refine use_law_home (by have := rln 2 hi; omega) (fun c hc => (rok 2 hi c hc).2) fun H3 s3 => ?_
        walk_at "r"
        refine r_eqV (homeV_scal _) ?_
        rw [homeV_isN]
        walk_at "r"
        cases eh : (homeN ((rows x).getD 2 [])).isSome with
        | true =>
          have hg : gr 2 ((rows x).getD 2 []) = true := by unfold gr; rw [eh]; rfl
          rw [if_pos hg] at hfb2
          walk_at "r"
          exact ⟨_, rfl, s2.trans s3, hfb2⟩
        | false =>
          have hg : gr 2 ((rows x).getD 2 []) = false := by unfold gr; rw [eh]; rfl
          walk_at "r"
          exact out H3 s3 hg
      · have hg : gr i ((rows x).getD i []) = true := by unfold gr; rw [decide_eq_true (show i < 2 by omega)]; rfl
        rw [if_pos hg] at hfb2
        walk_at "r"
        exact ⟨_, rfl, s2, hfb2⟩
  · rintro σ H2 ⟨y2, rfl, s2, hfb⟩
    have hfb : fb 0 (rows x) = none := by
      rw [hfb, show ((((rows x).length : Nat) : Int).toNat) = (rows x).length by omega, List.drop_length]
      rfl
    have e2 := s2 _ _ e1
    have hd : due13 (rows x) = if (rows x).length < 3 then .row (rows x).length else if (rawOf (rows x)).good = true then .told (rawOf (rows x)) else .sheet := by
      unfold due13
      rw [hfb]
    walk_at "r"
    rw [sl]
    refine w_dec (fun h3 => ?_) (fun h3 => ?_)
    · walk_at "r"
      rw [sl]
      intro p3 H3 n3 s3 e3
      refine q p3 H3 ((s1.trans s2).trans s3) ?_
      rw [hd, if_pos (by omega)]
      exact .tup e3 (.cons (.str _) (.cons (.int _) .nil))
    · obtain ⟨h4, h5⟩ := fb_none hfb
      have h6 : (rows x).length = 3 := by omega
      rw [if_neg (by omega)] at hd
      have hh := h5 _ (at_ 2 (by omega))
      have z0 : (rawOf (rows x)).zero = (rows x).getD 0 [] := rfl
      have z1 : (rawOf (rows x)).one = (rows x).getD 1 [] := rfl
      have zh : (rawOf (rows x)).home = ((homeN ((rows x).getD 2 [])).getD none).map fun h => (h : Int) := rfl
      generalize rawOf (rows x) = s at hd z0 z1 zh
      have ok0 : ∀ c ∈ s.zero, 32 ≤ c ∧ c ≤ 126 := by rw [z0]; exact rok 0 (by omega)
      have ok1 : ∀ c ∈ s.one, 32 ≤ c ∧ c ≤ 126 := by rw [z1]; exact rok 1 (by omega)
      have ln0 : s.zero.length ≤ 2000 := by rw [z0]; have := rln 0 (by omega); omega
      have ln1 : s.one.length ≤ 2000 := by rw [z1]; have := rln 1 (by omega); omega
      have all_ : ∀ l : List Nat, (∀ c ∈ l, 32 ≤ c ∧ c ≤ 126) → goodSigns l = (decide (1 ≤ l.length) && decide (l.length ≤ 26) && decide l.Nodup) := fun l hl => by
        unfold goodSigns
        have : l.all (fun c => decide (32 ≤ c) && decide (c ≤ 126)) = true := by
          rw [List.all_eq_true]
          intro c hc
          obtain ⟨a, b⟩ := hl c hc
          rw [decide_eq_true a, decide_eq_true b]
          rfl
        rw [this, Bool.and_true]
      have g0 : s.good = (goodSigns s.zero && goodSigns s.one && decide (s.zero.length = s.one.length) && (match s.home with | none => true | some h => decide (0 ≤ h ∧ h < s.zero.length))) := rfl
      rw [all_ _ ok0, all_ _ ok1] at g0
      walk_at "r"
      refine r_ixL e2 (n := 0) (ixR 0 (by omega)) ?_
      walk_at "r"
      refine r_ixL e2 (n := 1) (ixR 1 (by omega)) ?_
      walk_at "r"
      refine r_ixL e2 (n := 2) (ixR 2 (by omega)) ?_
      walk_at "r"
      refine use_law_home (by have := rln 2 (by omega); omega) (fun c hc => (rok 2 (by omega) c hc).2) fun H3 s3 => ?_
      rw [hVI_home hh, ← z0, ← z1, ← zh]
      walk_at "r"
      have s13 := (s1.trans s2).trans s3
      have bad : s.good = false → NewT H3 [.str (Str.ofString "BadSheet"), .int 0] Q := fun hg p4 H4 n4 s4 e4 => by
        rw [hg, if_neg (by decide)] at hd
        refine q p4 H4 (s13.trans s4) ?_
        rw [hd]
        exact .tup e4 (.cons (.str _) (.cons (.int _) .nil))
      have lz : ∀ {l : List Nat}, l.length ≤ 2000 → (mkS l).length ≤ sizeLine := fun h => by rw [len_mkS]; exact le_size (by omega)
      refine r_lenS (lz ln0) ?_
      rw [len_mkS]
      walk_at "r"
      refine w_dec (fun k1 => ?_) (fun k1 => ?_)
      rotate_left
      · walk_at "r"
        refine bad ?_
        rw [g0, decide_eq_false (show ¬ 1 ≤ s.zero.length by omega)]
        rfl
      walk_at "r"
      refine w_nd (fun k2 => ?_) (fun k2 => ?_)
      · walk_at "r"
        refine bad ?_
        rw [g0, decide_eq_false (show ¬ s.zero.length ≤ 26 by omega), Bool.and_false]
        rfl
      walk_at "r"
      refine r_lenS (lz ln0) ?_
      walk_at "r"
      refine r_lenS (lz ln1) ?_
      rw [len_mkS, len_mkS]
      walk_at "r"
      refine w_nd (fun k3 => ?_) (fun k3 => ?_)
      · walk_at "r"
        refine bad ?_
        rw [g0, decide_eq_false (show ¬ s.zero.length = s.one.length by omega), Bool.and_false]
        rfl
      have k3 : s.zero.length = s.one.length := by omega
      rw [decide_eq_true (show 1 ≤ s.zero.length by omega), decide_eq_true (show s.zero.length ≤ 26 by omega), decide_eq_true (show 1 ≤ s.one.length by omega), decide_eq_true (show s.one.length ≤ 26 by omega), decide_eq_true k3] at g0
      have dls : ∀ l : List Nat, decide (((dl l).length : Int) = (l.length : Int)) = decide l.Nodup := fun l => by
        have d := (dl_le l).2.2
        by_cases h : l.Nodup
        · rw [decide_eq_true h, decide_eq_true (by have := d.mpr h; omega)]
        · rw [decide_eq_false h, decide_eq_false fun z => h (d.mp (by omega))]
      walk_at "r"
      refine ⟨_, rfl, by rw [len_mkS]; omega, ?_⟩
      walk_at "r"
      refine r_lenS (lz ln0) ?_
      walk_at "r"
      rw [tl_mkS, len_mkS, dls]
      refine w_nd (fun k4 => ?_) (fun k4 => ?_)
      · walk_at "r"
        refine bad ?_
        rw [g0, decide_eq_false k4]
        rfl
      rw [decide_eq_true k4] at g0
      walk_at "r"
      refine ⟨_, rfl, by rw [len_mkS]; omega, ?_⟩
      walk_at "r"
      refine r_lenS (lz ln1) ?_
      walk_at "r"
      rw [tl_mkS, len_mkS, dls]
      refine w_nd (fun k5 => ?_) (fun k5 => ?_)
      · walk_at "r"
        refine bad ?_
        rw [g0, decide_eq_false k5]
        rfl
      rw [decide_eq_true k5] at g0
      have fine : s.good = true → NewT H3 [.str (mkS s.zero), .str (mkS s.one), hVI s.home] fun x H5 => NewT H5 [.str (Str.ofString "told"), x] Q := fun hg p4 H4 n4 s4 e4 p5 H5 n5 s5 e5 => by
        rw [if_pos hg] at hd
        refine q p5 H5 ((s13.trans s4).trans s5) ?_
        rw [hd]
        exact .tup e5 (.cons (.str _) (.cons (.tup (s5 _ _ e4) (.cons (.str _) (.cons (.str _) (.cons (da_homeI _) .nil)))) .nil))
      walk_at "r"
      have hpos : ∀ h, s.home = some h → 0 ≤ h := fun h e => by
        rw [zh] at e
        cases eo : (homeN ((rows x).getD 2 [])).getD none with
        | none => rw [eo] at e; cases e
        | some n =>
          rw [eo] at e
          have e : ((n : Nat) : Int) = h := Option.some.inj e
          omega
      clear zh z0 z1
      cases eh : s.home with
      | none =>
        rw [eh] at g0 fine
        rw [decide_eq_true (show hVI none = V.non from rfl)]
        walk_at "r"
        intro p4 H4 n4 s4 e4
        walk_at "r"
        exact fine g0 p4 H4 n4 s4 e4
      | some h =>
        have h0 := hpos h eh
        rw [eh] at g0 fine
        rw [decide_eq_false (show ¬ hVI (some h) = V.non from (fun z => nomatch z))]
        show if (!false) = true then _ else _
        walk_at "r"
        refine r_lenS (lz ln0) ?_
        rw [len_mkS]
        refine r_geI ?_
        walk_at "r"
        refine w_dec (fun k6 => ?_) (fun k6 => ?_)
        · walk_at "r"
          refine bad ?_
          rw [g0]
          exact decide_eq_false fun z => by omega
        · walk_at "r"
          intro p4 H4 n4 s4 e4
          walk_at "r"
          refine fine ?_ p4 H4 n4 s4 e4
          rw [g0]
          exact decide_eq_true ⟨h0, by omega⟩
instance : DecidablePred okC := fun c => inferInstanceAs (Decidable (c = 10 ∨ (32 ≤ c ∧ c ≤ 126)))
theorem mkS_tl (s : Str) : mkS s.cps.toList = s := TL.ext_tl rfl
def Odd (v : V) : Prop := ∃ w : List Nat, v = .str (mkS w) ∧ w.length ≤ 3 ∧ ∀ c ∈ w, okC c
theorem odd_of {s : Str} (h : (decide (s.cps.toList.length ≤ 3) && s.cps.toList.all fun c => decide (okC c)) = true) : Odd (.str s) := by
  obtain ⟨h1, h2⟩ := Bool.and_eq_true_iff.mp h
  exact ⟨s.cps.toList, by rw [mkS_tl], of_decide_eq_true h1, fun c hc => of_decide_eq_true (List.all_eq_true.mp h2 c hc)⟩
theorem sum_app (a b : List (List Nat)) : ((a ++ b).map (·.length)).sum = (a.map (·.length)).sum + (b.map (·.length)).sum := by rw [List.map_append, List.sum_append]
theorem sum_split (l : List (List Nat)) (i : Nat) : ((l.take i).map (·.length)).sum + ((l.drop i).map (·.length)).sum = (l.map (·.length)).sum := by
  rw [← sum_app, List.take_append_drop]
def chk (S : Str) : Bool := decide (8 ≤ S.length) && (decide (S.length ≤ 1000) && S.cps.toList.all fun c => decide (okC c))
theorem chk_of {S : Str} (h : chk S = true) : 8 ≤ S.length ∧ S.length ≤ 1000 ∧ ∀ c ∈ S.cps.toList, okC c := by
  obtain ⟨h1, h⟩ := Bool.and_eq_true_iff.mp h
  obtain ⟨h2, h3⟩ := Bool.and_eq_true_iff.mp h
  exact ⟨of_decide_eq_true h1, of_decide_eq_true h2, fun c hc => of_decide_eq_true (List.all_eq_true.mp h3 c hc)⟩
theorem len_tlS (S : Str) : S.length = S.cps.toList.length := by
  show S.cps.size = _
  simp
/-- a written text, of which only a check is kept -/
theorem r_sasgStr {S : Str} {i : Nat} {s2 : TS} {nx bk ct : L2.St → Hp → Prop} {rt : VK} {σ : L2.St} {H : Hp} (h : chk S = true) (q : ∀ S, chk S = true → s2 ⟨nx, rt, bk, ct⟩ (σ.set i (some (.str S))) H) : tSeq (tAsg (tC (.str S)) (gName i)) s2 ⟨nx, rt, bk, ct⟩ σ H := q S h
theorem at_row (l : List (List Nat)) (i : Nat) (h : i < l.length) : l[i]? = some (l.getD i []) := by
  rw [List.getD_eq_getElem?_getD, List.getElem?_eq_getElem h]
  rfl
theorem len_split (l : List (List Nat)) (i : Nat) : (l.take i).length + (l.drop i).length = l.length := by
  rw [← List.length_append, List.take_append_drop]
def spLawSpoilt : Sp := fun vs H Q E => ∃ (v : V) (x : List Nat), vs = [v, .str (mkS x)] ∧ (Box H v) ∧ (∀ c ∈ x, okC c) ∧ (x.length ≤ 500) ∧ (∀ y H', Same H H' → (∀ c ∈ y, okC c) → y.length ≤ 2 * x.length + 10 → Q (.str (mkS y)) H')
theorem use_law_spoilt {H : Hp} {Q : VK} {E : XK} {v : V} {x : List Nat} (hb : Box H v) (hx : ∀ c ∈ x, okC c) (hl : x.length ≤ 500) (q : ∀ y H', Same H H' → (∀ c ∈ y, okC c) → y.length ≤ 2 * x.length + 10 → Q (.str (mkS y)) H') : spLawSpoilt [v, .str (mkS x)] H Q E := ⟨v, x, rfl, hb, hx, hl, q⟩

theorem ok__law_spoilt {k : Nat} (T : TX mg) (F : Df K mg "_law_spoilt" s__law_spoilt ["_law_box", "_law_text_here"]) (o__law_take : OkAt P w K mg base "_law_take" k ["_law_box", "_law_many"] spTake) : OkAt P w K mg base "_law_spoilt" (k + 1) ["_law_box", "_law_text_here"] spLawSpoilt := by
  refine F.ok sc__law_spoilt (fun vs H Q E h => ?_) (fun f cdv A outer s H vs Q E hr h => ?_)
  · obtain ⟨v, x, rfl, _⟩ := h
    rfl
  obtain ⟨v, x, rfl, hb, hx, hl, q⟩ := h
  refine ⟨_, (pss_cons (ps_set (i := 2) sc__law_spoilt.nd rfl (by first | exact Or.inl rfl | exact Or.inr rfl) (pe_cl o__law_take hr (by rfl) (pa_cons (pv 0) (pa_cons pe_int pa_nil)))) (pss_cons (ps_set (i := 3) sc__law_spoilt.nd rfl (by first | exact Or.inl rfl | exact Or.inr rfl) (pe_split (pv 1) pe_str)) (pss_cons (ps_set (i := 4) sc__law_spoilt.nd rfl (by first | exact Or.inl rfl | exact Or.inr rfl) (pe_cl o__law_take hr (by rfl) (pa_cons (pv 0) (pa_cons (pe_callB (cr_len K) (by rfl) T.b_len (by decide +kernel) (pa_cons (pv 3) pa_nil)) pa_nil)))) (pss_cons (ps_set (i := 5) sc__law_spoilt.nd rfl (by first | exact Or.inl rfl | exact Or.inr rfl) (pe_lstN (pa_cons pe_str (pa_cons pe_str (pa_cons pe_str (pa_cons pe_str (pa_cons pe_str (pa_cons pe_str (pa_cons pe_str (pa_cons pe_str (pa_cons pe_str (pa_cons pe_str (pa_cons pe_str (pa_cons pe_str (pa_cons pe_str (pa_cons pe_str (pa_cons pe_str (pa_cons pe_str pa_nil)))))))))))))))))) (pss_cons (ps_if (pt_cmpR (op_uEq K hr.units) (pv 2) pe_int (nomark _)) (pss_one (ps_ret (pe_bmK K PySem.F.plainAttrs_str PySem.F.slot_str_join PySem.F.type_str_join (mt_joinN K) pe_str (pa_cons (pe_op (op_uAdd K) (pe_op (op_uAdd K) (pe_slice (sl_u K) (pv 3) po_none (po_some (pv 4))) (pe_lstN (pa_cons (pe_ix (ix_u K) (pv 5) (pe_cl o__law_take hr (by rfl) (pa_cons (pv 0) (pa_cons pe_int pa_nil))) (fun _ _ => rfl)) pa_nil))) (pe_slice (sl_u K) (pv 3) (po_some (pv 4)) po_none)) pa_nil)))) pss_nil) (pss_cons (ps_if (pt_cmpR (op_uEq K hr.units) (pv 2) pe_int (nomark _)) (pss_one (ps_ret (pe_bmK K PySem.F.plainAttrs_str PySem.F.slot_str_join PySem.F.type_str_join (mt_joinN K) pe_str (pa_cons (pe_op (op_uAdd K) (pe_slice (sl_u K) (pv 3) po_none (po_some (pv 4))) (pe_slice (sl_u K) (pv 3) (po_some (pe_op (op_uAdd K) (pv 4) pe_int)) po_none)) pa_nil)))) pss_nil) (pss_cons (ps_if (pt_cmpR (op_uEq K hr.units) (pv 2) pe_int (nomark _)) (pss_one (ps_ret (pe_bmK K PySem.F.plainAttrs_str PySem.F.slot_str_join PySem.F.type_str_join (mt_joinN K) pe_str (pa_cons (pe_op (op_uAdd K) (pe_op (op_uAdd K) (pe_slice (sl_u K) (pv 3) po_none (po_some (pv 4))) (pe_lstN (pa_cons (pe_ix (ix_u K) (pv 3) (pv 4) (fun _ _ => rfl)) pa_nil))) (pe_slice (sl_u K) (pv 3) (po_some (pv 4)) po_none)) pa_nil)))) pss_nil) (pss_cons (ps_if (pt_cmpR (op_uEq K hr.units) (pv 2) pe_int (nomark _)) (pss_one (ps_ret (pe_bmK K PySem.F.plainAttrs_str PySem.F.slot_str_join PySem.F.type_str_join (mt_joinN K) pe_str (pa_cons (pe_op (op_uAdd K) (pe_slice (sl_u K) (pv 3) (po_some (pv 4)) po_none) (pe_slice (sl_u K) (pv 3) po_none (po_some (pv 4)))) pa_nil)))) pss_nil) (pss_cons (ps_set (i := 6) sc__law_spoilt.nd rfl (by first | exact Or.inl rfl | exact Or.inr rfl) (pe_cl o__law_take hr (by rfl) (pa_cons (pv 0) (pa_cons (pe_op (op_uAdd K) (pe_callB (cr_len K) (by rfl) T.b_len (by decide +kernel) (pa_cons (pv 1) pa_nil)) pe_int) pa_nil)))) (pss_cons (ps_set (i := 7) sc__law_spoilt.nd rfl (by first | exact Or.inl rfl | exact Or.inr rfl) pe_str) (pss_cons (ps_set (i := 8) sc__law_spoilt.nd rfl (by first | exact Or.inl rfl | exact Or.inr rfl) (pe_ix (ix_u K) (pv 7) (pe_cl o__law_take hr (by rfl) (pa_cons (pv 0) (pa_cons (pe_ix (ix_u K) (pe_lstN (pa_cons pe_int (pa_cons (pe_callB (cr_len K) (by rfl) T.b_len (by decide +kernel) (pa_cons (pv 7) pa_nil)) pa_nil))) (pe_cl o__law_take hr (by rfl) (pa_cons (pv 0) (pa_cons pe_int pa_nil))) (fun _ _ => rfl)) pa_nil))) (fun _ _ => rfl))) (pss_one (ps_ret (pe_op (op_uAdd K) (pe_op (op_uAdd K) (pe_slice (sl_u K) (pv 1) po_none (po_some (pv 6))) (pe_ix (ix_u K) (pe_lstN (pa_cons (pv 8) (pa_cons (pv 8) (pa_cons pe_str pa_nil)))) (pe_op op_uSub (pv 2) pe_int) (fun _ _ => rfl))) (pe_slice (sl_u K) (pv 1) (po_some (pe_op (op_uAdd K) (pv 6) (pe_callTy cr_int (by rfl) T.b_int (by decide +kernel) (pa_cons (pe_cmpR op_uGt (pv 2) pe_int (nomark _)) pa_nil)))) po_none))))))))))))))), ?_⟩
  have hrl := rows_len x
  have hrs := rows_sum x
  have hrp : 1 ≤ (rows x).length := List.length_pos_iff.mpr (rows_ne x)
  have rmem : ∀ r ∈ rows x, ∀ c ∈ r, okC c := fun r hr c hc => hx c (rows_mem x r hr c hc).1
  walk_at "r"
  refine use_take hb (by decide) (by decide) fun deed H1 hdeed s1 => ?_
  walk_at "r"
  refine r_m1 ?_
  walk_at "r"
  refine r_strP ?_
  walk_at "r"
  refine r_split (by decide +kernel) (by rw [len_mkS]; exact le_size (by omega)) fun p2 H2 n2 s2 e2 => ?_
  rw [rows_split, ← strsV_mk] at e2
  walk_at "r"
  rw [strsV_len]
  have s12 := s1.trans s2
  refine use_take (same_box s12 hb) (by omega) (by omega) fun at0 H3 hat s3 => ?_
  have hat : at0 < (rows x).length := by omega
  have e3 := s3 _ _ e2
  walk_at "r"
  intro p4 H4 n4 s4 e4
  have e34 := s4 _ _ e3
  have s14 := (s12.trans s3).trans s4
  have tk : ∀ (G : Hp), Same H4 G → ∀ (Q' : VK), (∀ p G', G p = none → Same G G' → G' p = some (.lst (strsV ((rows x).take at0))) → Q' (.ref p) G') → uSl K (.ref p2) none (some (at0 : Int)) G Q' := fun G g Q' k => r_slL (g _ _ e34) fun p G' n s e => k p G' n s (by rw [e, cut_to]; unfold strsV; rw [List.map_take])
  have dr : ∀ (G : Hp), Same H4 G → ∀ (j : Nat) (Q' : VK), (∀ p G', G p = none → Same G G' → G' p = some (.lst (strsV ((rows x).drop j))) → Q' (.ref p) G') → uSl K (.ref p2) (some (j : Int)) none G Q' := fun G g j Q' k => r_slL (g _ _ e34) fun p G' n s e => k p G' n s (by rw [e, cut_from]; unfold strsV; rw [List.map_drop])
  have fin : ∀ (l : List (List Nat)) (G : Hp), Same H G → (∀ r ∈ l, ∀ c ∈ r, okC c) → (l.map (·.length)).sum + l.length ≤ 2 * x.length + 10 → ∀ p, G p = some (.lst (strsV l)) → mJoin K (.str (Str.ofString "\n")) [.ref p] G Q := fun l G g hm hn p e => by
    refine r_joinN e (by omega) (q _ G g (fun c hc => ?_) (Nat.le_trans (joinN_len l) hn))
    rcases joinN_mem l c hc with z | ⟨r, hr, hc⟩
    · exact .inl z
    · exact hm r hr c hc
  have ss := sum_split (rows x) at0
  have sln := len_split (rows x) at0
  obtain ⟨od, hod, lod, aod⟩ : ∃ xs, H4 p4 = some (.lst xs) ∧ xs.length = 16 ∧ ∀ x ∈ xs, Odd x := ⟨_, e4, rfl, fun x hx => by
    simp only [List.mem_cons, List.not_mem_nil, or_false] at hx
    rcases hx with z | z | z | z | z | z | z | z | z | z | z | z | z | z | z | z <;> rw [z] <;> exact odd_of (by decide +kernel)⟩
  have hrow := at_row (rows x) at0 hat
  have hdr := drop_row hrow
  have hrm := List.mem_of_getElem? hrow
  have sdr : ((rows x).drop at0).map (·.length) = ((rows x).getD at0 []).length :: ((rows x).drop (at0 + 1)).map (·.length) := by rw [hdr]; rfl
  have sdr2 : (((rows x).drop at0).map (·.length)).sum = ((rows x).getD at0 []).length + (((rows x).drop (at0 + 1)).map (·.length)).sum := by rw [sdr, List.sum_cons]
  have ldr : ((rows x).drop at0).length = ((rows x).drop (at0 + 1)).length + 1 := by rw [hdr]; rfl
  have mt : ∀ r ∈ (rows x).take at0, ∀ c ∈ r, okC c := fun r hr => rmem r (List.mem_of_mem_take hr)
  have md : ∀ (j : Nat), ∀ r ∈ (rows x).drop j, ∀ c ∈ r, okC c := fun j r hr => rmem r (List.mem_of_mem_drop hr)
  have m2 : ∀ {a b : List (List Nat)}, (∀ r ∈ a, ∀ c ∈ r, okC c) → (∀ r ∈ b, ∀ c ∈ r, okC c) → ∀ r ∈ a ++ b, ∀ c ∈ r, okC c := fun h1 h2 r hr => (List.mem_append.mp hr).elim (h1 r) (h2 r)
  have m1 : ∀ {w : List Nat}, (∀ c ∈ w, okC c) → ∀ r ∈ [w], ∀ c ∈ r, okC c := fun h r hr => by rw [List.mem_singleton.mp hr]; exact h
  have sz : ∀ (l : List (List Nat)), l.length ≤ 10000 → (strsV l).length ≤ 10000 := fun l h => by rw [strsV_len]; exact h
  walk_at "r"
  refine w_dec (fun _ => ?_) (fun _ => ?_)
  · walk_at "r"
    refine tk H4 (Same.refl _) _ fun p5 H5 n5 s5 e5 => ?_
    walk_at "r"
    refine use_take (same_box (s14.trans s5) hb) (by decide) (by decide) fun r6 H6 hr6 s6 => ?_
    obtain ⟨z, hz, w, rfl, wl, wok⟩ := pickN (xs := od) (j := r6) (by omega) aod
    refine r_ixL ((s5.trans s6) _ _ hod) hz ?_
    walk_at "r"
    intro p7 H7 n7 s7 e7
    have e7 : H7 p7 = some (.lst (strsV [w])) := e7
    walk_at "r"
    refine r_addL ((s6.trans s7) _ _ e5) e7 (by rw [strsV_len, strsV_len]; exact le_size (by show _ + 1 ≤ _; omega)) fun p8 H8 n8 s8 e8 => ?_
    rw [strsV_app] at e8
    have s48 := ((s5.trans s6).trans s7).trans s8
    walk_at "r"
    refine dr H8 s48 at0 _ fun p9 H9 n9 s9 e9 => ?_
    walk_at "r"
    refine r_addL (s9 _ _ e8) e9 (by rw [strsV_len, strsV_len, List.length_append]; exact le_size (by show _ + 1 + _ ≤ _; omega)) fun p10 H10 n10 s10 e10 => ?_
    rw [strsV_app] at e10
    walk_at "r"
    refine fin _ H10 (s14.trans ((s48.trans s9).trans s10)) (m2 (m2 mt (m1 wok)) (md at0)) ?_ p10 e10
    rw [sum_app, sum_app, List.length_append, List.length_append]
    show (_ + (w.length + 0)) + _ + ((_ + 1) + _) ≤ _
    omega
  walk_at "r"
  refine w_dec (fun _ => ?_) (fun _ => ?_)
  · walk_at "r"
    refine tk H4 (Same.refl _) _ fun p5 H5 n5 s5 e5 => ?_
    walk_at "r"
    rw [show ((at0 : Nat) : Int) + 1 = ((at0 + 1 : Nat) : Int) by omega]
    refine dr H5 s5 (at0 + 1) _ fun p6 H6 n6 s6 e6 => ?_
    walk_at "r"
    refine r_addL (s6 _ _ e5) e6 (by rw [strsV_len, strsV_len]; exact le_size (by omega)) fun p7 H7 n7 s7 e7 => ?_
    rw [strsV_app] at e7
    walk_at "r"
    refine fin _ H7 (s14.trans ((s5.trans s6).trans s7)) (m2 mt (md (at0 + 1))) ?_ p7 e7
    rw [sum_app, List.length_append]
    omega
  walk_at "r"
  refine w_dec (fun _ => ?_) (fun _ => ?_)
  · walk_at "r"
    refine tk H4 (Same.refl _) _ fun p5 H5 n5 s5 e5 => ?_
    walk_at "r"
    refine r_ixL (s5 _ _ e34) (atI_nat (strsV_at hrow)) ?_
    walk_at "r"
    intro p7 H7 n7 s7 e7
    have e7 : H7 p7 = some (.lst (strsV [(rows x).getD at0 []])) := e7
    walk_at "r"
    refine r_addL (s7 _ _ e5) e7 (by rw [strsV_len, strsV_len]; exact le_size (by show _ + 1 ≤ _; omega)) fun p8 H8 n8 s8 e8 => ?_
    rw [strsV_app] at e8
    have s48 := (s5.trans s7).trans s8
    walk_at "r"
    refine dr H8 s48 at0 _ fun p9 H9 n9 s9 e9 => ?_
    walk_at "r"
    refine r_addL (s9 _ _ e8) e9 (by rw [strsV_len, strsV_len, List.length_append]; exact le_size (by show _ + 1 + _ ≤ _; omega)) fun p10 H10 n10 s10 e10 => ?_
    rw [strsV_app] at e10
    walk_at "r"
    refine fin _ H10 (s14.trans ((s48.trans s9).trans s10)) (m2 (m2 mt (m1 (rmem _ hrm))) (md at0)) ?_ p10 e10
    rw [sum_app, sum_app, List.length_append, List.length_append]
    have := row_len hrm
    show (_ + (((rows x).getD at0 []).length + 0)) + _ + ((_ + 1) + _) ≤ _
    omega
  walk_at "r"
  refine w_dec (fun _ => ?_) (fun _ => ?_)
  · walk_at "r"
    refine dr H4 (Same.refl _) at0 _ fun p5 H5 n5 s5 e5 => ?_
    walk_at "r"
    refine tk H5 s5 _ fun p6 H6 n6 s6 e6 => ?_
    walk_at "r"
    refine r_addL (s6 _ _ e5) e6 (by rw [strsV_len, strsV_len]; exact le_size (by omega)) fun p7 H7 n7 s7 e7 => ?_
    rw [strsV_app] at e7
    walk_at "r"
    refine fin _ H7 (s14.trans ((s5.trans s6).trans s7)) (m2 (md at0) mt) ?_ p7 e7
    rw [sum_app, List.length_append]
    omega
  walk_at "r"
  refine r_lenS (by rw [len_mkS]; exact le_size (by omega)) ?_
  rw [len_mkS]
  walk_at "r"
  refine use_take (same_box s14 hb) (by omega) (by omega) fun pl H5 hpl s5 => ?_
  show tSeq _ _ _ _ _
  refine r_sasgStr (by decide +kernel) fun S hS => ?_
  obtain ⟨hS8, hSl, hSok⟩ := chk_of hS
  have s15 := s14.trans s5
  walk_at "r"
  refine r_lenS (le_size (by omega)) ?_
  walk_at "r"
  intro p6 H6 n6 s6 e6
  walk_at "r"
  have s16 := s15.trans s6
  refine use_take (same_box s16 hb) (by decide) (by decide) fun r7 H7 hr7 s7 => ?_
  obtain ⟨z, hz, m, rfl, m1', m2'⟩ := pick2 (Pd := fun v => ∃ m : Nat, v = .int m ∧ 1 ≤ m ∧ m ≤ S.length) (x := .int 8) (y := .int (S.length : Nat)) (j := r7) (by omega) ⟨8, rfl, by decide, hS8⟩ ⟨S.length, rfl, by omega, Nat.le_refl _⟩
  refine r_ixL (s7 _ _ e6) hz ?_
  walk_at "r"
  have s17 := s16.trans s7
  refine use_take (same_box s17 hb) (by omega) (by omega) fun r8 H8 hr8 s8 => ?_
  have hr8S : r8 < S.cps.toList.length := by rw [← len_tlS]; omega
  have hc := getD_at hr8S
  have hcok := hSok _ (List.mem_of_getElem? hc)
  generalize S.cps.toList.getD r8 0 = c at hc hcok
  refine r_ixS (le_size (by omega)) (atI_nat hc) ?_
  have hsing : (⟨#[c]⟩ : Str) = mkS [c] := rfl
  rw [hsing]
  have s18 := s17.trans s8
  have emptyS : Str.ofString "" = mkS [] := by decide +kernel
  walk_at "r"
  refine r_slS (by rw [len_mkS]; exact le_size (by omega)) ?_
  rw [cutS_to]
  walk_at "r"
  intro p9 H9 n9 s9 e9
  walk_at "r"
  have s19 := s18.trans s9
  rw [emptyS] at e9
  have hd7 : deed < 7 := by omega
  have hd4 : 4 ≤ deed := by omega
  obtain ⟨w, hw, wl, wok⟩ : ∃ w : List Nat, atI [V.str (mkS [c]), V.str (mkS [c]), V.str (mkS [])] ((deed : Int) - 4) = some (.str (mkS w)) ∧ w.length ≤ 1 ∧ ∀ d ∈ w, okC d := by
    have c1 : ∀ d ∈ [c], okC d := fun d hd => by rw [List.mem_singleton.mp hd]; exact hcok
    match deed, hd4, hd7 with
    | 4, _, _ => exact ⟨[c], rfl, Nat.le_refl _, c1⟩
    | 5, _, _ => exact ⟨[c], rfl, Nat.le_refl _, c1⟩
    | 6, _, _ => exact ⟨[], rfl, Nat.zero_le _, fun d hd => nomatch hd⟩
  refine r_ixL e9 hw ?_
  have lt : (x.take pl).length ≤ x.length := by rw [List.length_take]; exact Nat.min_le_right _ _
  walk_at "r"
  refine r_addS (by rw [len_mkS, len_mkS]; exact le_size (by omega)) ?_
  rw [mkS_app]
  walk_at "r"
  obtain ⟨j, hj⟩ : ∃ j : Nat, (pl : Int) + (if decide (4 < (deed : Int)) = true then 1 else 0) = (j : Int) := by
    split
    · exact ⟨pl + 1, by omega⟩
    · exact ⟨pl, by omega⟩
  rw [hj]
  have ld : (x.drop j).length ≤ x.length := by rw [List.length_drop]; omega
  refine r_slS (by rw [len_mkS]; exact le_size (by omega)) ?_
  rw [cutS_from]
  walk_at "r"
  refine r_addS (by rw [len_mkS, len_mkS, List.length_append]; exact le_size (by omega)) ?_
  rw [mkS_app]
  refine q _ H9 s19 (fun d hd => ?_) (by rw [List.length_append, List.length_append]; omega)
  rcases List.mem_append.mp hd with z | z
  · rcases List.mem_append.mp z with z | z
    · exact hx d (List.mem_of_mem_take z)
    · exact wok d z
  · exact hx d (List.mem_of_mem_drop z)
def homeW : Option Nat → List Nat
  | none => [45]
  | some h => if h < 10 then [48 + h] else [48 + h / 10, 48 + h % 10]
theorem homeW_str {h : Nat} (hh : h < 26) : (toString (h : Int) : Str) = mkS (homeW (some h)) := by
  have all : ∀ h, h < 26 → (toString ((h : Nat) : Int) : Str) = mkS (homeW (some h)) := by decide +kernel
  exact all h hh
theorem homeW_ok {o : Option Nat} (ho : ∀ h, o = some h → h < 26) : (∀ c ∈ homeW o, okC c) ∧ (homeW o).length ≤ 2 := by
  have all : ∀ h, h < 26 → (∀ c ∈ homeW (some h), okC c) ∧ (homeW (some h)).length ≤ 2 := by decide +kernel
  cases o with
  | none => decide +kernel
  | some h => exact all h (ho h rfl)
theorem less_due (x : List Nat) (h : x.length ≤ 2000) : dLess 5 (dueD (due13 (rows x))) := by
  have two : ∀ (n : Nat) (a b : PyData), dLess n a → dLess n b → dLess (n + 1) (.tuple [a, b]) := fun n a b h1 h2 => ⟨by show 2 ≤ 100000; decide, fun d hd => by
    rcases List.mem_cons.mp hd with z | z
    · rw [z]; exact h1
    · rw [List.mem_singleton.mp z]; exact h2⟩
  cases due13 (rows x) with
  | row n => exact two 4 _ _ True.intro True.intro
  | sheet => exact two 4 _ _ True.intro True.intro
  | told s =>
    refine two 4 _ _ True.intro ⟨by show 3 ≤ 100000; decide, fun d hd => ?_⟩
    simp only [List.mem_cons, List.not_mem_nil, or_false] at hd
    rcases hd with z | z | z <;> rw [z]
    · exact True.intro
    · exact True.intro
    · cases s.home with
      | none => exact True.intro
      | some h => exact True.intro
def spLaw (K : PySem.W.Frag) : Sp := fun vs H Q E => ∃ (a : Addr) (ns : List Int), vs = [.ref a] ∧ (SqL K H a (ns.map V.int)) ∧ (ns.length ≤ 63) ∧ (∀ H', Q (.bl true) H')
theorem use_law {K : PySem.W.Frag} {H : Hp} {Q : VK} {E : XK} {a : Addr} {ns : List Int} (ha : SqL K H a (ns.map V.int)) (hl : ns.length ≤ 63) (q : ∀ H', Q (.bl true) H') : spLaw K [.ref a] H Q E := ⟨a, ns, rfl, ha, hl, q⟩

theorem ok_law {k : Nat} {fl : Addr} {fd : FuncData} (T : TX mg) (F : Fun K "law" "law" s_law fl fd) (o__law_begun : OkAt P w K mg base "_law_begun" k ["_law_script"] (spBegun K)) (o__law_sheet : OkAt P w K mg base "_law_sheet" k ["_law_box", "_law_most"] spSheet) (o__law_due : OkAt P w K mg base "_law_due" k ["_law_text_here"] spLawDue) (o__law_spoilt : OkAt P w K mg base "_law_spoilt" k ["_law_box", "_law_text_here"] spLawSpoilt) (o__law_alike : OkAt P w K mg base "_law_alike" k ["_law_found", "_law_due_here"] (spAlike 5)) (o__law_take : OkAt P w K mg base "_law_take" k ["_law_box", "_law_many"] spTake) (o__law_told : OkAt P w K mg base "_law_told" k ["_law_text_here"] spLawTold) : FnOk P w K mg base CX0 (k + 1) fl fd ["_law_script"] (spLaw K) := by
  refine F.ok sc_law (fun vs H Q E h => ?_) (fun cdv A outer s H vs Q E hr h => ?_)
  · obtain ⟨a, ns, rfl, _⟩ := h
    rfl
  obtain ⟨a, ns, rfl, ha, hl, q⟩ := h
  refine ⟨_, (pss_cons (ps_set (i := 1) sc_law.nd rfl (by first | exact Or.inl rfl | exact Or.inr rfl) (pe_cl o__law_begun hr (by rfl) (pa_cons (pv 0) pa_nil))) (pss_cons (ps_asg (pe_cl o__law_sheet hr (by rfl) (pa_cons (pv 1) (pa_cons pe_int pa_nil))) (pg_tupK K (n := 3) rfl (pgs_cons (pg_name (i := 2) sc_law.nd rfl (by first | exact Or.inl rfl | exact Or.inr rfl)) (pgs_cons (pg_name (i := 3) sc_law.nd rfl (by first | exact Or.inl rfl | exact Or.inr rfl)) (pgs_cons (pg_name (i := 4) sc_law.nd rfl (by first | exact Or.inl rfl | exact Or.inr rfl)) pgs_nil))))) (pss_cons (ps_set (i := 5) sc_law.nd rfl (by first | exact Or.inl rfl | exact Or.inr rfl) (pe_op (op_uAdd K) (pe_op (op_uAdd K) (pe_op (op_uAdd K) (pe_op (op_uAdd K) (pv 2) pe_str) (pv 3)) pe_str) (pe_ifExp (pt_cmpR op_uIsN (pv 4) pe_non (nomark _)) pe_str (pe_callTy cr_str (by rfl) T.b_str (by decide +kernel) (pa_cons (pv 4) pa_nil))))) (pss_cons (ps_for PassesOwn.never rfl (pi_range1 (by rfl) T.b_range (pa_cons (pe_op (op_uAdd K) pe_int (pe_cl o__law_take hr (by rfl) (pa_cons (pv 1) (pa_cons pe_int pa_nil)))) pa_nil)) (pg_name (i := 6) sc_law.nd rfl (by first | exact Or.inl rfl | exact Or.inr rfl)) (pss_one (ps_set (i := 5) sc_law.nd rfl (by first | exact Or.inl rfl | exact Or.inr rfl) (pe_cl o__law_spoilt hr (by rfl) (pa_cons (pv 1) (pa_cons (pv 5) pa_nil)))))) (pss_cons (ps_set (i := 7) sc_law.nd rfl (by first | exact Or.inl rfl | exact Or.inr rfl) (pe_cl o__law_due hr (by rfl) (pa_cons (pv 5) pa_nil))) (pss_one (ps_ret (pe_and (pe_cl o__law_alike hr (by rfl) (pa_cons (pe_cl o__law_told hr (by rfl) (pa_cons (pv 5) pa_nil)) (pa_cons (pv 7) pa_nil))) (pe_one (pe_cl o__law_alike hr (by rfl) (pa_cons (pe_cl o__law_told hr (by rfl) (pa_cons (pv 5) pa_nil)) (pa_cons (pv 7) pa_nil)))))))))))), ?_⟩
  walk_at "r"
  refine use_begun ha hl fun bx H1 s1 hb => ?_
  walk_at "r"
  refine use_sheet hb (by decide) (by decide) fun v sh H2 s2 hv ok hn => ?_
  obtain ⟨av, rfl, hav⟩ := id hv
  have hb2 := same_box s2 hb
  have h12 : sh.zero.length ≤ 12 := by unfold Sh.n at hn; omega
  have h1l := ok.len
  walk_at "r"
  rw [lineS]
  refine r_addS (by rw [len_mkS, len_mkS]; exact le_size (by show _ + 1 ≤ _; omega)) ?_
  rw [mkS_app]
  walk_at "r"
  refine r_addS (by rw [len_mkS, len_mkS, List.length_append]; exact le_size (by show _ + 1 + _ ≤ _; omega)) ?_
  rw [mkS_app]
  walk_at "r"
  refine r_addS (by rw [len_mkS, len_mkS, List.length_append, List.length_append]; exact le_size (by show _ + 1 + _ + 1 ≤ _; omega)) ?_
  rw [mkS_app]
  have h26 : ∀ h, sh.home = some h → h < 26 := fun h e => Nat.lt_of_lt_of_le (ok.home h e) ok.most
  have hw := homeW_ok h26
  have okL : ∀ c ∈ sh.zero ++ [10] ++ sh.one ++ [10] ++ homeW sh.home, okC c := fun c hc => by
    rcases List.mem_append.mp hc with z | z
    · rcases List.mem_append.mp z with z | z
      · rcases List.mem_append.mp z with z | z
        · rcases List.mem_append.mp z with z | z
          · exact .inr (ok.ok0 c z)
          · exact .inl (List.mem_singleton.mp z)
        · exact .inr (ok.ok1 c z)
      · exact .inl (List.mem_singleton.mp z)
    · exact hw.1 c z
  have lenL : (sh.zero ++ [10] ++ sh.one ++ [10] ++ homeW sh.home).length ≤ 28 := by
    rw [List.length_append, List.length_append, List.length_append, List.length_append]
    have := hw.2
    show _ + 1 + _ + 1 + _ ≤ _
    omega
  have lenL2 : (sh.zero ++ [10] ++ sh.one ++ [10]).length + 2 ≤ 28 := by
    rw [List.length_append, List.length_append, List.length_append]
    show _ + 1 + _ + 1 + 2 ≤ _
    omega
  generalize hA : sh.zero ++ [10] ++ sh.one ++ [10] = A at okL lenL lenL2
  have fin : ∀ w, w = homeW sh.home → ∀ (Q' : VK), Q' (.str (mkS (A ++ homeW sh.home))) H2 → uAdd K (.str (mkS A)) (.str (mkS w)) H2 Q' := fun w e Q' k => by
    subst e
    refine r_addS (by rw [len_mkS, len_mkS]; exact le_size (by have := hw.2; omega)) ?_
    rw [mkS_app]
    exact k
  walk_at "r"
  generalize hV4 : hV sh.home = v4
  have v4N : (sh.home = none ∧ decide (v4 = V.non) = true) ∨ (∃ h, sh.home = some h ∧ v4 = .int (h : Nat) ∧ decide (v4 = V.non) = false) := by
    cases eh : sh.home with
    | none =>
      rw [eh] at hV4
      exact .inl ⟨rfl, by rw [← hV4]; exact decide_eq_true rfl⟩
    | some h =>
      rw [eh] at hV4
      exact .inr ⟨h, rfl, hV4.symm, by rw [← hV4]; exact decide_eq_false fun z => nomatch z⟩
  rcases v4N with ⟨eh, ev⟩ | ⟨h, eh, e4, ev⟩
  rw [ev]
  walk_at "r"
  rw [dash]
  refine fin [45] (by rw [eh]; rfl) _ ?_
  rotate_left
  rw [ev]
  walk_at "r"
  refine ⟨(h : Int), by rw [e4], ?_, ?_⟩
  · have hh := h26 h eh
    have : Int.natAbs (h : Int) < 2 ^ 5 := by omega
    exact Nat.lt_of_le_of_lt (Nat.log2_le_self _) (by omega)
  rw [homeW_str (h26 h eh)]
  refine fin _ (by rw [eh]) _ ?_
  all_goals
    show tSeq _ _ _ _ _
    walk_at "r"
    refine use_take hb2 (by decide) (by decide) fun rd H3 hrd s3 => ?_
    walk_at "r"
    have s23 := s3
    refine f_range1 (by omega) (by omega) (fun i σ H' => ∃ (x : List Nat) (y2 y3 y4 y6 y7 : Option V), σ = [some (.ref a), some bx, y2, y3, y4, some (.str (mkS x)), y6, y7] ∧ Same H3 H' ∧ (∀ c ∈ x, okC c) ∧ x.length ≤ 28 + i * 200 ∧ (i = 0 → x.length ≤ 28) ∧ (i = 1 → x.length ≤ 66)) ⟨A ++ homeW sh.home, _, _, _, _, _, rfl, Same.refl _, okL, by omega, fun _ => lenL, fun z => absurd z (by decide)⟩ ?_ ?_
    · rintro i σ G hi ⟨x, y2, y3, y4, y6, y7, rfl, g, okx, lx, l0, l1⟩
      have hi2 : i < 2 := by omega
      have lx2 : x.length ≤ 66 := by
        match i, hi2 with
        | 0, _ => have := l0 rfl; omega
        | 1, _ => exact l1 rfl
      walk_at "r"
      refine use_law_spoilt (same_box (s3.trans g) hb2) okx (by omega) fun y G1 g1 oky ly => ?_
      walk_at "r"
      refine ⟨y, _, _, _, _, _, rfl, g.trans g1, oky, ?_, fun z => absurd z (by omega), fun z => ?_⟩
      · omega
      · have := l0 (by omega)
        omega
    · rintro σ G ⟨x, y2, y3, y4, y6, y7, rfl, g, okx, lx, l0, l1⟩
      have lx : x.length ≤ 2000 := by
        have : ((1 : Int) + (rd : Int)).toNat ≤ 2 := by omega
        have := Nat.mul_le_mul_right 200 this
        omega
      walk_at "r"
      refine use_law_due okx lx fun p4 G4 g4 d4 => ?_
      walk_at "r"
      refine use_law_told okx lx fun p5 G5 g5 d5 => ?_
      walk_at "r"
      refine use_alike d5 (same_da g5 _ _ d4) (less_due x lx) ?_
      walk_at "r"
      refine use_law_told okx lx fun p6 G6 g6 d6 => ?_
      walk_at "r"
      refine use_alike d6 (same_da (g5.trans g6) _ _ d4) (less_due x lx) ?_
      exact q G6

end
/-! ### what the top has written; the law's own head -/
set_option maxHeartbeats 16000000 in
theorem all_mk {l : PySem.W.OpenLaw} {w : World} {K : PySem.W.Frag} {h : Heap} {mg : Str → Option Value} {fa f0 f1 f2 f3 f4 f5 f6 f7 f8 f9 f10 f11 f12 f13 f14 cl_TapeError cl_BadSheet cl_BadSet cl_BadTape cl_NoSign cl_BadCount cl_BadText fi_BadText : Addr} (X : K.In h) (G : h.Ns mainGlobals mg) (hfa : mg "law" = some (.ref fa))
    {od0 an0 od1 an1 od2 an2 od3 an3 od4 an4 od5 an5 od6 an6 od7 an7 od8 an8 od9 an9 od10 an10 od11 an11 od12 an12 od13 an13 od14 an14 nd_BadText on_BadText an_BadText : Option Addr} {sl0 sl1 sl2 sl3 sl4 sl5 sl6 sl7 sl8 sl9 sl10 sl11 sl12 sl13 sl14 sl_BadText : Array (Option Value)} {oc0 kV0 dc0 pm0 ct0 oc1 kV1 dc1 pm1 ct1 oc2 kV2 dc2 pm2 ct2 oc3 kV3 dc3 pm3 ct3 oc4 kV4 dc4 pm4 ct4 oc5 kV5 dc5 pm5 ct5 oc6 kV6 dc6 pm6 ct6 oc7 kV7 dc7 pm7 ct7 oc8 kV8 dc8 pm8 ct8 oc9 kV9 dc9 pm9 ct9 oc10 kV10 dc10 pm10 ct10 oc11 kV11 dc11 pm11 ct11 oc12 kV12 dc12 pm12 ct12 oc13 kV13 dc13 pm13 ct13 oc14 kV14 dc14 pm14 ct14 cd0 cd1 cd2 cd3 cd4 cd5 cd6 cd7 cd8 cd9 cd10 cd11 cd12 cd13 cd14 oc_BadText kV_BadText dc_BadText pm_BadText ct_BadText cd_BadText : Value} {tk_MOST_SIGNS tk_FIRST tk_LAST tk_FIGURES tk_NOTHING tk_ROWS : Tok}
    (a0 : PySem.W.nsIn K mainGlobals "_law_take" = some (some (.ref f0))) (l0 : K.lookup f0 = some ⟨oc0, od0, .func (PySem.W.fnOf "_law_take" "_law_take" (defArgs s__law_take) (defBody s__law_take) (defScope s__law_take) .none kV0 dc0 pm0 an0 cd0 ct0), sl0⟩) (c0 : PySem.W.codeIn K cd0 "_law_take" = true) (k0 : PySem.W.keepIn K (.ref f0) = true)
    (a1 : PySem.W.nsIn K mainGlobals "are_signs" = some (some (.ref f1))) (l1 : K.lookup f1 = some ⟨oc1, od1, .func (PySem.W.fnOf "are_signs" "are_signs" (defArgs s_are_signs) (defBody s_are_signs) (defScope s_are_signs) .none kV1 dc1 pm1 an1 cd1 ct1), sl1⟩) (c1 : PySem.W.codeIn K cd1 "are_signs" = true) (k1 : PySem.W.keepIn K (.ref f1) = true)
    (a2 : PySem.W.nsIn K mainGlobals "_law_begun" = some (some (.ref f2))) (l2 : K.lookup f2 = some ⟨oc2, od2, .func (PySem.W.fnOf "_law_begun" "_law_begun" (defArgs s__law_begun) (defBody s__law_begun) (defScope s__law_begun) .none kV2 dc2 pm2 an2 cd2 ct2), sl2⟩) (c2 : PySem.W.codeIn K cd2 "_law_begun" = true) (k2 : PySem.W.keepIn K (.ref f2) = true)
    (a3 : PySem.W.nsIn K mainGlobals "_law_picked" = some (some (.ref f3))) (l3 : K.lookup f3 = some ⟨oc3, od3, .func (PySem.W.fnOf "_law_picked" "_law_picked" (defArgs s__law_picked) (defBody s__law_picked) (defScope s__law_picked) .none kV3 dc3 pm3 an3 cd3 ct3), sl3⟩) (c3 : PySem.W.codeIn K cd3 "_law_picked" = true) (k3 : PySem.W.keepIn K (.ref f3) = true)
    (a4 : PySem.W.nsIn K mainGlobals "_law_sheet" = some (some (.ref f4))) (l4 : K.lookup f4 = some ⟨oc4, od4, .func (PySem.W.fnOf "_law_sheet" "_law_sheet" (defArgs s__law_sheet) (defBody s__law_sheet) (defScope s__law_sheet) .none kV4 dc4 pm4 an4 cd4 ct4), sl4⟩) (c4 : PySem.W.codeIn K cd4 "_law_sheet" = true) (k4 : PySem.W.keepIn K (.ref f4) = true)
    (a5 : PySem.W.nsIn K mainGlobals "_law_alike" = some (some (.ref f5))) (l5 : K.lookup f5 = some ⟨oc5, od5, .func (PySem.W.fnOf "_law_alike" "_law_alike" (defArgs s__law_alike) (defBody s__law_alike) (defScope s__law_alike) .none kV5 dc5 pm5 an5 cd5 ct5), sl5⟩) (c5 : PySem.W.codeIn K cd5 "_law_alike" = true) (k5 : PySem.W.keepIn K (.ref f5) = true)
    (a6 : PySem.W.nsIn K mainGlobals "home_of" = some (some (.ref f6))) (l6 : K.lookup f6 = some ⟨oc6, od6, .func (PySem.W.fnOf "home_of" "home_of" (defArgs s_home_of) (defBody s_home_of) (defScope s_home_of) .none kV6 dc6 pm6 an6 cd6 ct6), sl6⟩) (c6 : PySem.W.codeIn K cd6 "home_of" = true) (k6 : PySem.W.keepIn K (.ref f6) = true)
    (a7 : PySem.W.nsIn K mainGlobals "need_sheet" = some (some (.ref f7))) (l7 : K.lookup f7 = some ⟨oc7, od7, .func (PySem.W.fnOf "need_sheet" "need_sheet" (defArgs s_need_sheet) (defBody s_need_sheet) (defScope s_need_sheet) .none kV7 dc7 pm7 an7 cd7 ct7), sl7⟩) (c7 : PySem.W.codeIn K cd7 "need_sheet" = true) (k7 : PySem.W.keepIn K (.ref f7) = true)
    (a8 : PySem.W.nsIn K mainGlobals "read_sheet" = some (some (.ref f8))) (l8 : K.lookup f8 = some ⟨oc8, od8, .func (PySem.W.fnOf "read_sheet" "read_sheet" (defArgs s_read_sheet) (defBody s_read_sheet) (defScope s_read_sheet) .none kV8 dc8 pm8 an8 cd8 ct8), sl8⟩) (c8 : PySem.W.codeIn K cd8 "read_sheet" = true) (k8 : PySem.W.keepIn K (.ref f8) = true)
    (a9 : PySem.W.nsIn K mainGlobals "_law_class" = some (some (.ref f9))) (l9 : K.lookup f9 = some ⟨oc9, od9, .func (PySem.W.fnOf "_law_class" "_law_class" (defArgs s__law_class) (defBody s__law_class) (defScope s__law_class) .none kV9 dc9 pm9 an9 cd9 ct9), sl9⟩) (c9 : PySem.W.codeIn K cd9 "_law_class" = true) (k9 : PySem.W.keepIn K (.ref f9) = true)
    (a10 : PySem.W.nsIn K mainGlobals "_law_told" = some (some (.ref f10))) (l10 : K.lookup f10 = some ⟨oc10, od10, .func (PySem.W.fnOf "_law_told" "_law_told" (defArgs s__law_told) (defBody s__law_told) (defScope s__law_told) .none kV10 dc10 pm10 an10 cd10 ct10), sl10⟩) (c10 : PySem.W.codeIn K cd10 "_law_told" = true) (k10 : PySem.W.keepIn K (.ref f10) = true)
    (a11 : PySem.W.nsIn K mainGlobals "_law_home" = some (some (.ref f11))) (l11 : K.lookup f11 = some ⟨oc11, od11, .func (PySem.W.fnOf "_law_home" "_law_home" (defArgs s__law_home) (defBody s__law_home) (defScope s__law_home) .none kV11 dc11 pm11 an11 cd11 ct11), sl11⟩) (c11 : PySem.W.codeIn K cd11 "_law_home" = true) (k11 : PySem.W.keepIn K (.ref f11) = true)
    (a12 : PySem.W.nsIn K mainGlobals "_law_due" = some (some (.ref f12))) (l12 : K.lookup f12 = some ⟨oc12, od12, .func (PySem.W.fnOf "_law_due" "_law_due" (defArgs s__law_due) (defBody s__law_due) (defScope s__law_due) .none kV12 dc12 pm12 an12 cd12 ct12), sl12⟩) (c12 : PySem.W.codeIn K cd12 "_law_due" = true) (k12 : PySem.W.keepIn K (.ref f12) = true)
    (a13 : PySem.W.nsIn K mainGlobals "_law_spoilt" = some (some (.ref f13))) (l13 : K.lookup f13 = some ⟨oc13, od13, .func (PySem.W.fnOf "_law_spoilt" "_law_spoilt" (defArgs s__law_spoilt) (defBody s__law_spoilt) (defScope s__law_spoilt) .none kV13 dc13 pm13 an13 cd13 ct13), sl13⟩) (c13 : PySem.W.codeIn K cd13 "_law_spoilt" = true) (k13 : PySem.W.keepIn K (.ref f13) = true)
    (a14 : PySem.W.nsIn K mainGlobals "law" = some (some (.ref f14))) (l14 : K.lookup f14 = some ⟨oc14, od14, .func (PySem.W.fnOf "law" "law" (defArgs s_law) (defBody s_law) (defScope s_law) .none kV14 dc14 pm14 an14 cd14 ct14), sl14⟩) (c14 : PySem.W.codeIn K cd14 "law" = true) (k14 : PySem.W.keepIn K (.ref f14) = true)
    (z_len : PySem.W.nsIn K mainGlobals "len" = some none)
    (z_range : PySem.W.nsIn K mainGlobals "range" = some none)
    (z_list : PySem.W.nsIn K mainGlobals "list" = some none)
    (z_int : PySem.W.nsIn K mainGlobals "int" = some none)
    (z_str : PySem.W.nsIn K mainGlobals "str" = some none)
    (z_all : PySem.W.nsIn K mainGlobals "all" = some none)
    (z_isinstance : PySem.W.nsIn K mainGlobals "isinstance" = some none)
    (z_enumerate : PySem.W.nsIn K mainGlobals "enumerate" = some none)
    (z_set : PySem.W.nsIn K mainGlobals "set" = some none)
    (z_tuple : PySem.W.nsIn K mainGlobals "tuple" = some none)
    (z_bool : PySem.W.nsIn K mainGlobals "bool" = some none)
    (z_ValueError : PySem.W.nsIn K mainGlobals "ValueError" = some none)
    (y_MOST_SIGNS : PySem.W.nsIn K mainGlobals "MOST_SIGNS" = some (some (.int 26 tk_MOST_SIGNS)))
    (y_FIRST : PySem.W.nsIn K mainGlobals "FIRST" = some (some (.str " " tk_FIRST)))
    (y_LAST : PySem.W.nsIn K mainGlobals "LAST" = some (some (.str "~" tk_LAST)))
    (y_FIGURES : PySem.W.nsIn K mainGlobals "FIGURES" = some (some (.str "0123456789" tk_FIGURES)))
    (y_NOTHING : PySem.W.nsIn K mainGlobals "NOTHING" = some (some (.str "-" tk_NOTHING)))
    (y_ROWS : PySem.W.nsIn K mainGlobals "ROWS" = some (some (.int 3 tk_ROWS)))
    (gx_TapeError : PySem.W.nsIn K mainGlobals "TapeError" = some (some (.ref cl_TapeError)))
    (gx_BadSheet : PySem.W.nsIn K mainGlobals "BadSheet" = some (some (.ref cl_BadSheet)))
    (gx_BadSet : PySem.W.nsIn K mainGlobals "BadSet" = some (some (.ref cl_BadSet)))
    (gx_BadTape : PySem.W.nsIn K mainGlobals "BadTape" = some (some (.ref cl_BadTape)))
    (gx_NoSign : PySem.W.nsIn K mainGlobals "NoSign" = some (some (.ref cl_NoSign)))
    (gx_BadCount : PySem.W.nsIn K mainGlobals "BadCount" = some (some (.ref cl_BadCount)))
    (gx_BadText : PySem.W.nsIn K mainGlobals "BadText" = some (some (.ref cl_BadText)))
    (x_k_BadSheet : PySem.W.keepIn K (.ref cl_BadSheet) = true)
    (x_ex_BadSheet : PySem.W.subIn K (.ref cl_BadSheet) (.type "BaseException") = some true)
    (x_ty_BadSheet : PySem.W.typeIn K (.ref cl_BadSheet) = some (.type "type"))
    (x_x_BadSheet : PySem.W.excIn K cl_BadSheet [.type "ValueError", .type "Exception", .type "BaseException", .type "object"] "ValueError.__new__" = true)
    (x_h_BadSheet_TapeError : PySem.W.exmOne K (.ref cl_BadSheet) (.ref cl_TapeError) = some true)
    (x_is_BadSheet_BadSheet : PySem.W.kitOne K (.ref cl_BadSheet) (.ref cl_BadSheet) = some true)
    (x_is_BadSheet_BadSet : PySem.W.kitOne K (.ref cl_BadSheet) (.ref cl_BadSet) = some false)
    (x_is_BadSheet_BadTape : PySem.W.kitOne K (.ref cl_BadSheet) (.ref cl_BadTape) = some false)
    (x_is_BadSheet_NoSign : PySem.W.kitOne K (.ref cl_BadSheet) (.ref cl_NoSign) = some false)
    (x_is_BadSheet_BadCount : PySem.W.kitOne K (.ref cl_BadSheet) (.ref cl_BadCount) = some false)
    (x_is_BadSheet_BadText : PySem.W.kitOne K (.ref cl_BadSheet) (.ref cl_BadText) = some false)
    (x_iv_BadSheet : PySem.W.kitOne K (.ref cl_BadSheet) (.type "ValueError") = some true)
    (x_k_BadText : PySem.W.keepIn K (.ref cl_BadText) = true)
    (x_ex_BadText : PySem.W.subIn K (.ref cl_BadText) (.type "BaseException") = some true)
    (x_ty_BadText : PySem.W.typeIn K (.ref cl_BadText) = some (.type "type"))
    (x_n_BadText : PySem.W.findIn K (.ref cl_BadText) "row" = some none)
    (x_h_BadText_TapeError : PySem.W.exmOne K (.ref cl_BadText) (.ref cl_TapeError) = some true)
    (x_is_BadText_BadSheet : PySem.W.kitOne K (.ref cl_BadText) (.ref cl_BadSheet) = some false)
    (x_is_BadText_BadSet : PySem.W.kitOne K (.ref cl_BadText) (.ref cl_BadSet) = some false)
    (x_is_BadText_BadTape : PySem.W.kitOne K (.ref cl_BadText) (.ref cl_BadTape) = some false)
    (x_is_BadText_NoSign : PySem.W.kitOne K (.ref cl_BadText) (.ref cl_NoSign) = some false)
    (x_is_BadText_BadCount : PySem.W.kitOne K (.ref cl_BadText) (.ref cl_BadCount) = some false)
    (x_is_BadText_BadText : PySem.W.kitOne K (.ref cl_BadText) (.ref cl_BadText) = some true)
    (x_iv_BadText : PySem.W.kitOne K (.ref cl_BadText) (.type "ValueError") = some true)
    (gx_hn : PySem.W.specialIn K (.builtin "object.__class__") "__get__" = some (some (.builtin "getset_descriptor.__get__")))
    (gx_ht : PySem.W.takesIn K (.builtin "object.__class__") = some true)
    (ga_BadSheet : PySem.W.findIn K (.ref cl_BadSheet) "__getattribute__" = some (some (.builtin "BaseException.__getattribute__")))
    (gg_BadSheet : PySem.W.findIn K (.ref cl_BadSheet) "__getattr__" = some none)
    (hd_BadSheet : PySem.W.hasDictIn K cl_BadSheet = true)
    (ca_BadSheet : PySem.W.findIn K (.ref cl_BadSheet) "__class__" = some (some (.builtin "object.__class__")))
    (mo_BadSheet : PySem.W.mroIn K cl_BadSheet (.type "object") = some true)
    (ga_BadText : PySem.W.findIn K (.ref cl_BadText) "__getattribute__" = some (some (.builtin "BaseException.__getattribute__")))
    (gg_BadText : PySem.W.findIn K (.ref cl_BadText) "__getattr__" = some none)
    (hd_BadText : PySem.W.hasDictIn K cl_BadText = true)
    (ca_BadText : PySem.W.findIn K (.ref cl_BadText) "__class__" = some (some (.builtin "object.__class__")))
    (mo_BadText : PySem.W.mroIn K cl_BadText (.type "object") = some true)
    (sa_BadText : PySem.W.findIn K (.ref cl_BadText) "__setattr__" = some (some (.builtin "object.__setattr__")))
    {nm_BadText q_BadText : Str} {N_BadText : Addr} {bs_BadText sub_BadText : List Value} {sn_BadText : List Str} {ab_BadText : Bool} {col_BadText : Option Bool} {m0_BadText m1_BadText m2_BadText m3_BadText m5_BadText : Option Value}
    (xl_BadText : K.lookup cl_BadText = some (excClassObj nm_BadText q_BadText cl_BadText N_BadText bs_BadText [.ref cl_TapeError, .type "ValueError", .type "Exception", .type "BaseException", .type "object"] true sn_BadText sub_BadText ab_BadText col_BadText nd_BadText m0_BadText m1_BadText m2_BadText m3_BadText m5_BadText "ValueError.__new__"))
    (in_BadText : PySem.W.findIn K (.ref cl_BadText) "__init__" = some (some (.ref fi_BadText)))
    (ti_BadText : PySem.W.typeIn K (.ref fi_BadText) = some (.type "function"))
    (li_BadText : K.lookup fi_BadText = some ⟨oc_BadText, on_BadText, .func (PySem.W.fnOf "__init__" "BadText.__init__" (defArgs s_BadText_init) (defBody s_BadText_init) (defScope s_BadText_init) .none kV_BadText dc_BadText pm_BadText an_BadText cd_BadText ct_BadText), sl_BadText⟩)
    (ci_BadText : PySem.W.codeIn K cd_BadText "BadText.__init__" = true)
    (ki_BadText : PySem.W.keepIn K (.ref fi_BadText) = true)
    (br_TapeError : PySem.W.readsIn K cl_TapeError (.type "type") = true)
    (bg_TapeError : PySem.W.specialIn K (.ref cl_TapeError) "__getattribute__" = some (some (.builtin "type.__getattribute__")))
    (bi_TapeError : PySem.W.findCls K (.ref cl_TapeError) (.type "type") "__init__" = some (.val (.builtin "ValueError.__init__")))
    : ∃ fd : FuncData, (∀ (s : Shared) (v : Value), BindsTo s fd ⟨[v], []⟩ [("_law_script", v)]) ∧ ∀ base : Heap, K.In base → base.Ns mainGlobals mg → FnOk l.prog w K mg base CX0 6 fa fd ["_law_script"] (spLaw K) := by
  have e := hfa.symm.trans (PySem.W.mg_of X G a14)
  cases e
  have T : TX mg := ⟨PySem.W.mg_none_of X G z_len, PySem.W.mg_none_of X G z_range, PySem.W.mg_none_of X G z_list, PySem.W.mg_none_of X G z_int, PySem.W.mg_none_of X G z_str, PySem.W.mg_none_of X G z_all, PySem.W.mg_none_of X G z_isinstance, PySem.W.mg_none_of X G z_enumerate, PySem.W.mg_none_of X G z_set, PySem.W.mg_none_of X G z_tuple, PySem.W.mg_none_of X G z_bool, PySem.W.mg_none_of X G z_ValueError, ⟨_, PySem.W.mg_of X G y_MOST_SIGNS⟩, ⟨_, PySem.W.mg_of X G y_FIRST⟩, ⟨_, PySem.W.mg_of X G y_LAST⟩, ⟨_, PySem.W.mg_of X G y_FIGURES⟩, ⟨_, PySem.W.mg_of X G y_NOTHING⟩, ⟨_, PySem.W.mg_of X G y_ROWS⟩⟩
  have XT : EX K mg ⟨cl_TapeError, cl_BadSheet, cl_BadSet, cl_BadTape, cl_NoSign, cl_BadCount, cl_BadText⟩ := ⟨PySem.W.mg_of X G gx_TapeError, PySem.W.mg_of X G gx_BadSheet, PySem.W.mg_of X G gx_BadSet, PySem.W.mg_of X G gx_BadTape, PySem.W.mg_of X G gx_NoSign, PySem.W.mg_of X G gx_BadCount, PySem.W.mg_of X G gx_BadText, x_k_BadSheet, x_ex_BadSheet, x_ty_BadSheet, x_x_BadSheet, ⟨ga_BadSheet, gg_BadSheet, x_ex_BadSheet, hd_BadSheet, ca_BadSheet, gx_hn, gx_ht, mo_BadSheet⟩, x_h_BadSheet_TapeError, x_is_BadSheet_BadSheet, x_is_BadSheet_BadSet, x_is_BadSheet_BadTape, x_is_BadSheet_NoSign, x_is_BadSheet_BadCount, x_is_BadSheet_BadText, x_iv_BadSheet, x_k_BadText, x_ex_BadText, x_ty_BadText, ⟨⟨_, _, _, _, _, _, _, _, _, _, _, _, _, _, _, xl_BadText, rfl⟩, sa_BadText, x_ex_BadText, x_ty_BadText, x_k_BadText⟩, x_n_BadText, ⟨ga_BadText, gg_BadText, x_ex_BadText, hd_BadText⟩, ⟨ga_BadText, gg_BadText, x_ex_BadText, hd_BadText, ca_BadText, gx_hn, gx_ht, mo_BadText⟩, x_h_BadText_TapeError, x_is_BadText_BadSheet, x_is_BadText_BadSet, x_is_BadText_BadTape, x_is_BadText_NoSign, x_is_BadText_BadCount, x_is_BadText_BadText, x_iv_BadText, ⟨br_TapeError, bg_TapeError, bi_TapeError⟩⟩
  have FI_BadText := fun_mk (x := "__init__") (qual := "BadText.__init__") (st := s_BadText_init) li_BadText ci_BadText ki_BadText
  have F__law_take := fun_mk (st := s__law_take) l0 c0 k0
  have D__law_take : Df K mg "_law_take" s__law_take ["_law_box", "_law_many"] := ⟨_, _, F__law_take, F__law_take.binds (ps := ["_law_box", "_law_many"]) (fun _ _ _ _ _ _ us hl => match us, hl with | [_, _], _ => rfl), PySem.W.mg_of X G a0⟩
  have F_are_signs := fun_mk (st := s_are_signs) l1 c1 k1
  have D_are_signs : Df K mg "are_signs" s_are_signs ["signs"] := ⟨_, _, F_are_signs, F_are_signs.binds (ps := ["signs"]) (fun _ _ _ _ _ _ us hl => match us, hl with | [_], _ => rfl), PySem.W.mg_of X G a1⟩
  have F__law_begun := fun_mk (st := s__law_begun) l2 c2 k2
  have D__law_begun : Df K mg "_law_begun" s__law_begun ["_law_script"] := ⟨_, _, F__law_begun, F__law_begun.binds (ps := ["_law_script"]) (fun _ _ _ _ _ _ us hl => match us, hl with | [_], _ => rfl), PySem.W.mg_of X G a2⟩
  have F__law_picked := fun_mk (st := s__law_picked) l3 c3 k3
  have D__law_picked : Df K mg "_law_picked" s__law_picked ["_law_box", "_law_signs", "_law_many"] := ⟨_, _, F__law_picked, F__law_picked.binds (ps := ["_law_box", "_law_signs", "_law_many"]) (fun _ _ _ _ _ _ us hl => match us, hl with | [_, _, _], _ => rfl), PySem.W.mg_of X G a3⟩
  have F__law_sheet := fun_mk (st := s__law_sheet) l4 c4 k4
  have D__law_sheet : Df K mg "_law_sheet" s__law_sheet ["_law_box", "_law_most"] := ⟨_, _, F__law_sheet, F__law_sheet.binds (ps := ["_law_box", "_law_most"]) (fun _ _ _ _ _ _ us hl => match us, hl with | [_, _], _ => rfl), PySem.W.mg_of X G a4⟩
  have F__law_alike := fun_mk (st := s__law_alike) l5 c5 k5
  have D__law_alike : Df K mg "_law_alike" s__law_alike ["_law_found", "_law_due_here"] := ⟨_, _, F__law_alike, F__law_alike.binds (ps := ["_law_found", "_law_due_here"]) (fun _ _ _ _ _ _ us hl => match us, hl with | [_, _], _ => rfl), PySem.W.mg_of X G a5⟩
  have F_home_of := fun_mk (st := s_home_of) l6 c6 k6
  have D_home_of : Df K mg "home_of" s_home_of ["word"] := ⟨_, _, F_home_of, F_home_of.binds (ps := ["word"]) (fun _ _ _ _ _ _ us hl => match us, hl with | [_], _ => rfl), PySem.W.mg_of X G a6⟩
  have F_need_sheet := fun_mk (st := s_need_sheet) l7 c7 k7
  have D_need_sheet : Df K mg "need_sheet" s_need_sheet ["sheet"] := ⟨_, _, F_need_sheet, F_need_sheet.binds (ps := ["sheet"]) (fun _ _ _ _ _ _ us hl => match us, hl with | [_], _ => rfl), PySem.W.mg_of X G a7⟩
  have F_read_sheet := fun_mk (st := s_read_sheet) l8 c8 k8
  have D_read_sheet : Df K mg "read_sheet" s_read_sheet ["text"] := ⟨_, _, F_read_sheet, F_read_sheet.binds (ps := ["text"]) (fun _ _ _ _ _ _ us hl => match us, hl with | [_], _ => rfl), PySem.W.mg_of X G a8⟩
  have F__law_class := fun_mk (st := s__law_class) l9 c9 k9
  have D__law_class : Df K mg "_law_class" s__law_class ["_law_e"] := ⟨_, _, F__law_class, F__law_class.binds (ps := ["_law_e"]) (fun _ _ _ _ _ _ us hl => match us, hl with | [_], _ => rfl), PySem.W.mg_of X G a9⟩
  have F__law_told := fun_mk (st := s__law_told) l10 c10 k10
  have D__law_told : Df K mg "_law_told" s__law_told ["_law_text_here"] := ⟨_, _, F__law_told, F__law_told.binds (ps := ["_law_text_here"]) (fun _ _ _ _ _ _ us hl => match us, hl with | [_], _ => rfl), PySem.W.mg_of X G a10⟩
  have F__law_home := fun_mk (st := s__law_home) l11 c11 k11
  have D__law_home : Df K mg "_law_home" s__law_home ["_law_word"] := ⟨_, _, F__law_home, F__law_home.binds (ps := ["_law_word"]) (fun _ _ _ _ _ _ us hl => match us, hl with | [_], _ => rfl), PySem.W.mg_of X G a11⟩
  have F__law_due := fun_mk (st := s__law_due) l12 c12 k12
  have D__law_due : Df K mg "_law_due" s__law_due ["_law_text_here"] := ⟨_, _, F__law_due, F__law_due.binds (ps := ["_law_text_here"]) (fun _ _ _ _ _ _ us hl => match us, hl with | [_], _ => rfl), PySem.W.mg_of X G a12⟩
  have F__law_spoilt := fun_mk (st := s__law_spoilt) l13 c13 k13
  have D__law_spoilt : Df K mg "_law_spoilt" s__law_spoilt ["_law_box", "_law_text_here"] := ⟨_, _, F__law_spoilt, F__law_spoilt.binds (ps := ["_law_box", "_law_text_here"]) (fun _ _ _ _ _ _ us hl => match us, hl with | [_, _], _ => rfl), PySem.W.mg_of X G a13⟩
  have F_law := fun_mk (st := s_law) l14 c14 k14
  exact ⟨PySem.W.fnOf "law" "law" (defArgs s_law) (defBody s_law) (defScope s_law) .none kV14 dc14 pm14 an14 cd14 ct14, fun s v => .of_eq rfl, fun base _ _ => by
    have i_BadText := iok_BadText (P := l.prog) (w := w) (base := base) XT.b_TapeError XT.g_TapeError XT.o_BadText XT.n_BadText FI_BadText in_BadText ti_BadText
    have o__law_take := ok__law_take (P := l.prog) (w := w) (K := K) (mg := mg) (base := base) (k := 0) (F := D__law_take)
    have o_are_signs := ok_are_signs (P := l.prog) (w := w) (K := K) (mg := mg) (base := base) (k := 0) (T := T) (F := D_are_signs)
    have o__law_begun := ok__law_begun (P := l.prog) (w := w) (K := K) (mg := mg) (base := base) (k := 0) (T := T) (F := D__law_begun)
    have o__law_picked := ok__law_picked (P := l.prog) (w := w) (K := K) (mg := mg) (base := base) (k := 1) (T := T) (F := D__law_picked) (o__law_take := o__law_take.mono (by decide))
    have o__law_sheet := ok__law_sheet (P := l.prog) (w := w) (K := K) (mg := mg) (base := base) (k := 2) (T := T) (F := D__law_sheet) (o__law_take := o__law_take.mono (by decide)) (o__law_picked := o__law_picked.mono (by decide))
    have o__law_alike := ok__law_alike (P := l.prog) (w := w) (K := K) (mg := mg) (base := base) T D__law_alike 5
    have o_home_of := ok_home_of (P := l.prog) (w := w) (K := K) (mg := mg) (base := base) (k := 0) (T := T) (F := D_home_of)
    have o_need_sheet := ok_need_sheet (P := l.prog) (w := w) (K := K) (mg := mg) (base := base) (k := 1) (T := T) (F := D_need_sheet) (XT := XT) (o_are_signs := o_are_signs.mono (by decide))
    have o_read_sheet := ok_read_sheet (P := l.prog) (w := w) (K := K) (mg := mg) (base := base) (k := 2) (T := T) (F := D_read_sheet) (XT := XT) (i_BadText := i_BadText.mono (by decide)) (o_need_sheet := o_need_sheet.mono (by decide)) (o_home_of := o_home_of.mono (by decide))
    have o__law_class := ok__law_class (P := l.prog) (w := w) (K := K) (mg := mg) (base := base) (k := 0) (T := T) (F := D__law_class) (XT := XT)
    have o__law_told := ok__law_told (P := l.prog) (w := w) (K := K) (mg := mg) (base := base) (k := 3) (T := T) (F := D__law_told) (XT := XT) (o_read_sheet := o_read_sheet.mono (by decide)) (o__law_class := o__law_class.mono (by decide))
    have o__law_home := ok__law_home (P := l.prog) (w := w) (K := K) (mg := mg) (base := base) (k := 0) (T := T) (F := D__law_home)
    have o__law_due := ok__law_due (P := l.prog) (w := w) (K := K) (mg := mg) (base := base) (k := 1) (T := T) (F := D__law_due) (o__law_home := o__law_home.mono (by decide))
    have o__law_spoilt := ok__law_spoilt (P := l.prog) (w := w) (K := K) (mg := mg) (base := base) (k := 1) (T := T) (F := D__law_spoilt) (o__law_take := o__law_take.mono (by decide))
    exact ok_law (k := 5) (T := T) (F := F_law) (o__law_begun := o__law_begun.mono (by decide)) (o__law_sheet := o__law_sheet.mono (by decide)) (o__law_due := o__law_due.mono (by decide)) (o__law_spoilt := o__law_spoilt.mono (by decide)) (o__law_alike := o__law_alike.mono (by decide)) (o__law_take := o__law_take.mono (by decide)) (o__law_told := o__law_told.mono (by decide))
  ⟩
end Z
open PySem PySem.W PyProof.Rows
set_option maxRecDepth 100000 in
set_option maxHeartbeats 0 in
theorem PySem.Challenge.cw_shifttape_k13_texts_refused_holds : PySem.Challenge.rw_shifttape_k13_texts_refused.Holds := by
  w_on; o_law; k_head; (case hw => w_witness2)
  k_fill
  refine L2.walk_of (l := PySem.Challenge.rw_shifttape_k13_texts_refused) (n := 63) (k := 6) (x := "_law_script") (CX := fun _ => L2.CX0) (sp := fun w => Z.spLaw _) rfl (by decide) rfl ⟨rfl, by decide, by decide⟩ (fun w h Y => PySem.W.kIn_of Y) ?F (fun _ _ a ns hl _ hS => ⟨a, ns, rfl, hS, hl, fun _ => rfl⟩) (fun _ _ _ _ _ h => h)
  case F =>
    intro w mg fa h KX G hmg
    refine' Z.all_mk KX G hmg ?a0 ?l0 ?c0 ?k0 ?a1 ?l1 ?c1 ?k1 ?a2 ?l2 ?c2 ?k2 ?a3 ?l3 ?c3 ?k3 ?a4 ?l4 ?c4 ?k4 ?a5 ?l5 ?c5 ?k5 ?a6 ?l6 ?c6 ?k6 ?a7 ?l7 ?c7 ?k7 ?a8 ?l8 ?c8 ?k8 ?a9 ?l9 ?c9 ?k9 ?a10 ?l10 ?c10 ?k10 ?a11 ?l11 ?c11 ?k11 ?a12 ?l12 ?c12 ?k12 ?a13 ?l13 ?c13 ?k13 ?a14 ?l14 ?c14 ?k14 ?z_len ?z_range ?z_list ?z_int ?z_str ?z_all ?z_isinstance ?z_enumerate ?z_set ?z_tuple ?z_bool ?z_ValueError ?y_MOST_SIGNS ?y_FIRST ?y_LAST ?y_FIGURES ?y_NOTHING ?y_ROWS ?gx_TapeError ?gx_BadSheet ?gx_BadSet ?gx_BadTape ?gx_NoSign ?gx_BadCount ?gx_BadText ?x_k_BadSheet ?x_ex_BadSheet ?x_ty_BadSheet ?x_x_BadSheet ?x_h_BadSheet_TapeError ?x_is_BadSheet_BadSheet ?x_is_BadSheet_BadSet ?x_is_BadSheet_BadTape ?x_is_BadSheet_NoSign ?x_is_BadSheet_BadCount ?x_is_BadSheet_BadText ?x_iv_BadSheet ?x_k_BadText ?x_ex_BadText ?x_ty_BadText ?x_n_BadText ?x_h_BadText_TapeError ?x_is_BadText_BadSheet ?x_is_BadText_BadSet ?x_is_BadText_BadTape ?x_is_BadText_NoSign ?x_is_BadText_BadCount ?x_is_BadText_BadText ?x_iv_BadText ?gx_hn ?gx_ht ?ga_BadSheet ?gg_BadSheet ?hd_BadSheet ?ca_BadSheet ?mo_BadSheet ?ga_BadText ?gg_BadText ?hd_BadText ?ca_BadText ?mo_BadText ?sa_BadText ?xl_BadText ?in_BadText ?ti_BadText ?li_BadText ?ci_BadText ?ki_BadText ?br_TapeError ?bg_TapeError ?bi_TapeError
    (case a0 => k_is); (case l0 => k_is); (case c0 => k_is); (case k0 => k_is); (case a1 => k_is); (case l1 => k_is); (case c1 => k_is); (case k1 => k_is)
    (case a2 => k_is); (case l2 => k_is); (case c2 => k_is); (case k2 => k_is); (case a3 => k_is); (case l3 => k_is); (case c3 => k_is); (case k3 => k_is)
    (case a4 => k_is); (case l4 => k_is); (case c4 => k_is); (case k4 => k_is); (case a5 => k_is); (case l5 => k_is); (case c5 => k_is); (case k5 => k_is)
    (case a6 => k_is); (case l6 => k_is); (case c6 => k_is); (case k6 => k_is); (case a7 => k_is); (case l7 => k_is); (case c7 => k_is); (case k7 => k_is)
    (case a8 => k_is); (case l8 => k_is); (case c8 => k_is); (case k8 => k_is); (case a9 => k_is); (case l9 => k_is); (case c9 => k_is); (case k9 => k_is)
    (case a10 => k_is); (case l10 => k_is); (case c10 => k_is); (case k10 => k_is); (case a11 => k_is); (case l11 => k_is); (case c11 => k_is); (case k11 => k_is)
    (case a12 => k_is); (case l12 => k_is); (case c12 => k_is); (case k12 => k_is); (case a13 => k_is); (case l13 => k_is); (case c13 => k_is); (case k13 => k_is)
    (case a14 => k_is); (case l14 => k_is); (case c14 => k_is); (case k14 => k_is); (case z_len => k_is); (case z_range => k_is); (case z_list => k_is); (case z_int => k_is)
    (case z_str => k_is); (case z_all => k_is); (case z_isinstance => k_is); (case z_enumerate => k_is); (case z_set => k_is); (case z_tuple => k_is); (case z_bool => k_is); (case z_ValueError => k_is)
    (case y_MOST_SIGNS => k_is); (case y_FIRST => k_is); (case y_LAST => k_is); (case y_FIGURES => k_is); (case y_NOTHING => k_is); (case y_ROWS => k_is); (case gx_TapeError => k_is); (case gx_BadSheet => k_is)
    (case gx_BadSet => k_is); (case gx_BadTape => k_is); (case gx_NoSign => k_is); (case gx_BadCount => k_is); (case gx_BadText => k_is); (case x_k_BadSheet => k_is); (case x_ex_BadSheet => k_is); (case x_ty_BadSheet => k_is)
    (case x_x_BadSheet => first | k_exc | kernel_rfl); (case x_h_BadSheet_TapeError => kernel_rfl); (case x_is_BadSheet_BadSheet => kernel_rfl); (case x_is_BadSheet_BadSet => kernel_rfl); (case x_is_BadSheet_BadTape => kernel_rfl); (case x_is_BadSheet_NoSign => kernel_rfl); (case x_is_BadSheet_BadCount => kernel_rfl); (case x_is_BadSheet_BadText => kernel_rfl)
    (case x_iv_BadSheet => kernel_rfl); (case x_k_BadText => k_is); (case x_ex_BadText => k_is); (case x_ty_BadText => k_is); (case x_n_BadText => k_is); (case x_h_BadText_TapeError => kernel_rfl); (case x_is_BadText_BadSheet => kernel_rfl); (case x_is_BadText_BadSet => kernel_rfl)
    (case x_is_BadText_BadTape => kernel_rfl); (case x_is_BadText_NoSign => kernel_rfl); (case x_is_BadText_BadCount => kernel_rfl); (case x_is_BadText_BadText => kernel_rfl); (case x_iv_BadText => kernel_rfl); (case gx_hn => k_is); (case gx_ht => k_is); (case ga_BadSheet => k_is)
    (case gg_BadSheet => k_is); (case hd_BadSheet => k_is); (case ca_BadSheet => k_is); (case mo_BadSheet => k_is); (case ga_BadText => k_is); (case gg_BadText => k_is); (case hd_BadText => k_is); (case ca_BadText => k_is)
    (case mo_BadText => k_is); (case sa_BadText => k_is); (case xl_BadText => k_is); (case in_BadText => k_is); (case ti_BadText => k_is); (case li_BadText => k_is); (case ci_BadText => k_is); (case ki_BadText => k_is)
    (case br_TapeError => k_is); (case bg_TapeError => k_is); (case bi_TapeError => k_is)
