import PyProof.Rows.All
import Wide.All
import OpenK.AllK
import Wide.FinOn
import PySem.Challenge.RW_shifttape_k01_refused
import HandS.ForMost
import HandS.IsInst
import HandS.Wide
import HandS.StrMore
import HandS.RevRange
import HandS.Rev
import HandS.Strs
import HandS.Replace
import HandS.Codes
import HandS.More
import PyProof.Rows.StrLawsPart
import KE.KDictDisplayH
import HandS.Style
import HandS.Conv
import HandS.Flt
import HandS.Lambda
import KE.LtSeq
import KE.KMinKey
import PyProof.P3Eq
import HandS.EndTab
import HandS.Exc
import HandS.ExcOwn
import HandS.ExcInit
import HandS.ExcField
import HandS.HotCalls
import HandS.ExcIs
import HandS.WordsExc
import KE.KExcIs
import KE.KIsAll
import KE.KDflt
import HandS.Nested
import PyProof.StrBlock2
set_option Elab.async false
set_option linter.all false
set_option maxRecDepth 100000
set_option maxHeartbeats 4000000
/-! the layer: rules by syntax alone, heaps as letters -/
namespace Z
open PySem PySem.Spec PyProof.Rows L2

/-! ### heaps -/
theorem same_new {H : Hp} {p : Addr} {o : HO} (h : H p = none) : Same H (upd H p o) := fun b x e => by
  rw [upd_ne (ne_of_none e h)]
  exact e
theorem same_at {H H' : Hp} {p : Addr} {o : HO} (e : Same H H') (h : H p = some o) : H' p = some o := e _ _ h
theorem same_tup {K : PySem.W.Frag} {H H' : Hp} {a : Addr} {xs : List V} (e : Same H H') (h : SqT K H a xs) : SqT K H' a xs := by
  rcases h with (h | ⟨o, h⟩) | h
  · exact .inl (.inl (e _ _ h))
  · exact .inl (.inr ⟨o, e _ _ h⟩)
  · exact .inr h
/-- all but l stays -/
def But (l : Addr) (H H' : Hp) : Prop := ∀ b o, b ≠ l → H b = some o → H' b = some o
theorem but_upd {l : Addr} {H : Hp} {o : HO} : But l H (upd H l o) := fun b x hb e => by
  rw [upd_ne hb]
  exact e
theorem But.same {l : Addr} {H0 H H' : Hp} (b : But l H H') (e : Same H0 H) (h : H0 l = none) : Same H0 H' := fun c o q => b c o (ne_of_none q h) (e c o q)
theorem But.at {l p : Addr} {H H' : Hp} {o : HO} (b : But l H H') (e : H p = some o) (h : p ≠ l) : H' p = some o := b p o h e
theorem same_ne {H H' : Hp} {p q : Addr} {o : HO} (e : Same H H') (h : H p = some o) (n : H' q = none) : p ≠ q := ne_of_none (e _ _ h) n

/-! ### deep data under growth -/
mutual
theorem same_dp {K : PySem.W.Frag} {H H' : Hp} (e : Same H H') : ∀ (d : PyData) (v : V), Dp K H v d → Dp K H' v d
  | .none, _, h => by cases h; exact .non
  | .bool b, _, h => by cases h; exact .bl b
  | .int i, _, h => by cases h; exact .int i
  | .str s, _, h => by cases h; exact .str s
  | .list ds, _, h => by
    cases h with
    | lst hl ha => exact .lst (Same.seq e hl) (same_dpAll e ds _ ha)
  | .tuple ds, _, h => by
    cases h with
    | tup hl ha => exact .tup (same_tup e hl) (same_dpAll e ds _ ha)
  | .dict _, _, h => by cases h
theorem same_dpAll {K : PySem.W.Frag} {H H' : Hp} (e : Same H H') : ∀ (ds : List PyData) (vs : List V), DpAll K H vs ds → DpAll K H' vs ds
  | [], _, h => by cases h; exact .nil
  | d :: ds, _, h => by
    cases h with
    | cons h1 h2 => exact .cons (same_dp e d _ h1) (same_dpAll e ds _ h2)
end

/-! ### a list of which only a part is told -/
def lstAt (h : Heap) (a : Addr) (xs : List V) : Prop := xs.length ≤ sizeLine ∧ ∃ (its : List Value) (n : Nat), Vals xs its ∧ h.get? a = some { cls := .type "list", data := .seq its.toArray n }
def hidL (Pd : List V → Prop) (a : Addr) : HO := .ext fun h => ∃ xs, Pd xs ∧ lstAt h a xs
section
variable {X : Cx} {pins : List (Addr × Obj)} {σ : L2.St} {H : Hp} {s : Shared} {a : Addr} {xs : List V} {Pd : List V → Prop}
theorem inv_hide (I : Inv X pins σ H s) (h : H a = some (.lst xs)) (p : Pd xs) : Inv X pins σ (upd H a (hidL Pd a)) s := by
  have x : ObjOk X.prog X.w H s.heap a (.lst xs) := I.hok a _ h
  obtain ⟨z, its, n, r, e⟩ := x
  exact I.write (x := a) (e := a) (t' := s.toks) (h' := s.heap) (by rw [h]; exact True.intro) (.inl rfl) (fun b v _ q => q) ⟨_, e⟩
    ⟨⟨xs, p, z, its, n, r, e⟩, ⟨_, e⟩, fun h1 h2 ⟨ys, q, z, its, n, r, e⟩ k => ⟨ys, q, z, its, n, r, k _ e⟩⟩
theorem inv_show (I : Inv X pins σ H s) (h : H a = some (hidL Pd a)) : ∃ xs, Pd xs ∧ Inv X pins σ (upd H a (.lst xs)) s := by
  obtain ⟨⟨xs, p, z, its, n, r, e⟩, _, _⟩ := (show ObjOk X.prog X.w H s.heap a (hidL Pd a) from I.hok a _ h)
  exact ⟨xs, p, I.write (x := a) (e := a) (t' := s.toks) (h' := s.heap) (by rw [h]; exact True.intro) (.inl rfl) (fun b v _ q => q) ⟨_, e⟩ ⟨z, its, n, r, e⟩⟩
end
def tShow (t : TS) : TS := fun D σ H => ∃ a Pd, H a = some (hidL Pd a) ∧ ∀ xs H', Pd xs → But a H H' → H' a = some (.lst xs) → (∀ b, H' b = none ↔ H b = none) → t D σ H'
theorem none_iff {H : Hp} {a : Addr} {o u : HO} (h : H a = some o) (b : Addr) : upd H a u b = none ↔ H b = none := by
  by_cases e : b = a
  · rw [e, upd_same, h]
    exact ⟨(fun z => nomatch z), (fun z => nomatch z)⟩
  · rw [upd_ne e]
theorem pss_show {X : Cx} {sts : List Stmt} {t : TS} (h : PSs X sts t) : PSs X sts (tShow t) := ⟨fun pins s σ H D I ⟨a, Pd, e, q⟩ => by
  obtain ⟨xs, p, I'⟩ := inv_show I e
  exact h.run pins s σ _ D I' (q xs _ p but_upd upd_same (none_iff e))⟩
def tHide (t : TE) : TE := fun σ H Q => t σ H fun v H1 => ∃ a xs Pd, H1 a = some (.lst xs) ∧ Pd xs ∧ ∀ H', But a H1 H' → H' a = some (hidL Pd a) → Q v H'
theorem pe_hide {X : Cx} {e : Expr} {t : TE} (h : PE X e t) : PE X e (tHide t) := ⟨fun pins s σ H Q I q =>
  thn (h.run pins s σ H _ I q) fun u s1 ⟨v, H1, I1, r, a, xs, Pd, e, p, q⟩ => ⟨v, _, inv_hide I1 e p, r, q _ but_upd upd_same⟩⟩

/-! ### new objects -/
abbrev NewL (H : Hp) (xs : List V) (Q : VK) : Prop := ∀ p H', H p = none → Same H H' → H' p = some (.lst xs) → Q (.ref p) H'
abbrev NewT (H : Hp) (xs : List V) (Q : VK) : Prop := ∀ p H', H p = none → Same H H' → H' p = some (.tup xs) → Q (.ref p) H'
theorem newL {H : Hp} {xs : List V} {Q : VK} (q : NewL H xs Q) : ∀ p, H p = none → Q (.ref p) (upd H p (.lst xs)) := fun p n => q p _ n (same_new n) upd_same
theorem newT {H : Hp} {xs : List V} {Q : VK} (q : NewT H xs Q) : ∀ p, H p = none → Q (.ref p) (upd H p (.tup xs)) := fun p n => q p _ n (same_new n) upd_same

/-! ### weaker readings -/
theorem opr_imp {X : Cx} {f : Value → Value → Sem Value} {r r' : R2} (h : OpR X f r) (k : ∀ x y H Q, r' x y H Q → r x y H Q) : OpR X f r' :=
  fun pins s σ H x y v u Q I rx ry q => h pins s σ H x y v u Q I rx ry (k x y H Q q)
theorem callr_imp {X : Cx} {f : Value} {r r' : List V → Hp → VK → Prop} (h : CallR X f r) (k : ∀ xs H Q, r' xs H Q → r xs H Q) : CallR X f r' :=
  fun pins s σ H xs us Q I rx q => h pins s σ H xs us Q I rx (k xs H Q q)
theorem mtr_imp {X : Cx} {id : String} {r r' : V → List V → Hp → VK → Prop} (h : MtR X id r) (k : ∀ x xs H Q, r' x xs H Q → r x xs H Q) : MtR X id r' :=
  fun pins s σ H x xs v us Q I rx rs q => h pins s σ H x xs v us Q I rx rs (k x xs H Q q)
theorem slr_imp {X : Cx} {r r' : V → Option Int → Option Int → Hp → VK → Prop} (h : SlR X r) (k : ∀ x l u H Q, r' x l u H Q → r x l u H Q) : SlR X r' :=
  fun pins s σ H x v vl vu lo hi sl Q I rx a b c q => h pins s σ H x v vl vu lo hi sl Q I rx a b c (k x lo hi H Q q)
theorem pe_imp {X : Cx} {e : Expr} {t t' : TE} (h : PE X e t) (k : ∀ σ H Q, t' σ H Q → t σ H Q) : PE X e t' := ⟨fun pins s σ H Q I q => h.run pins s σ H Q I (k σ H Q q)⟩

/-! ### operators by values -/
def rAddStr : R2 := fun x y H Q => ∃ i j, x = .str i ∧ y = .str j ∧ i.length + j.length ≤ sizeLine ∧ Q (.str (i ++ j)) H
def rCatL : R2 := fun x y H Q => ∃ l b xs zs, x = .ref l ∧ y = .ref b ∧ H l = some (.lst xs) ∧ H b = some (.lst zs) ∧ xs.length + zs.length ≤ sizeLine ∧ NewL H (xs ++ zs) Q
def rCatU (K : PySem.W.Frag) : R2 := fun x y H Q => ∃ a b xs ys, x = .ref a ∧ y = .ref b ∧ SqT K H a xs ∧ SqT K H b ys ∧ xs ≠ [] ∧ ys ≠ [] ∧ xs.length + ys.length ≤ sizeLine ∧ NewT H (xs ++ ys) Q
def uAdd (K : PySem.W.Frag) : R2 := fun x y H Q => rI0 (fun i j => .int (i + j)) x y H Q ∨ rAddStr x y H Q ∨ rCatL x y H Q ∨ rCatU K x y H Q
def uSub : R2 := rI0 fun i j => .int (i - j)
def uMul : R2 := rI CMul fun i j => .int (i * j)
def uFdiv : R2 := rI CDivW fun i j => .int (i / j)
def uMod : R2 := rI (fun _ j => 0 < j) fun i j => .int (i % j)
def uEq (K : PySem.W.Frag) : R2 := fun x y H Q => rEq x y H Q ∨ rEqD K x y H Q
def uNe (K : PySem.W.Frag) : R2 := fun x y H Q => rNe x y H Q ∨ rNeD K x y H Q
def rLeS : R2 := fun x y H Q => ∃ i j, x = .str i ∧ y = .str j ∧ Q (.bl (!decide (j.cps.toList < i.cps.toList))) H
def uLe : R2 := fun x y H Q => rI0 (fun i j => .bl (decide (i ≤ j))) x y H Q ∨ rLeS x y H Q
def uLt : R2 := rI0 fun i j => .bl (decide (i < j))
def uGt : R2 := rI0 fun i j => .bl (decide (j < i))
def uGe : R2 := rI0 fun i j => .bl (decide (j ≤ i))
def rInSign : R2 := fun x y H Q => ∃ (c : Nat) (z : Str), x = .str ⟨#[c]⟩ ∧ y = .str z ∧ Q (.bl (decide (c ∈ z.cps.toList))) H
def rNiSign : R2 := fun x y H Q => ∃ (c : Nat) (z : Str), x = .str ⟨#[c]⟩ ∧ y = .str z ∧ Q (.bl (!decide (c ∈ z.cps.toList))) H
def uIn (K : PySem.W.Frag) : R2 := fun x y H Q => rInSign x y H Q ∨ rIn K false x y H Q
def uNi (K : PySem.W.Frag) : R2 := fun x y H Q => rNiSign x y H Q ∨ rIn K true x y H Q
def uIsN : R2 := fun x y H Q => y = .non ∧ Q (.bl (decide (x = .non))) H
def uNotN : R2 := fun x y H Q => y = .non ∧ Q (.bl (!decide (x = .non))) H
section
variable {X : Cx}
theorem op_uAdd (K : PySem.W.Frag) (hk : X.K = K := by rfl) : OpR X (binaryOp .Add) (uAdd K) := by
  subst hk
  exact
  op_add.or (op_add_str.or ((opr_imp op_cat fun x y H Q ⟨l, b, xs, zs, h1, h2, h3, h4, h5, q⟩ => ⟨l, b, xs, zs, h1, h2, h3, h4, h5, newL q⟩).or
    (opr_imp op_catT fun x y H Q ⟨a, b, xs, ys, h1, h2, h3, h4, h5, h6, h7, q⟩ => ⟨a, b, xs, ys, h1, h2, h3, h4, h5, h7, fun z => absurd z h6, fun _ => newT q⟩)))
theorem op_uSub : OpR X (binaryOp .Sub) uSub := op_sub
theorem op_uMul : OpR X (binaryOp .Mult) uMul := op_mul
theorem op_uFdiv : OpR X (binaryOp .FloorDiv) uFdiv := op_fdivW
theorem op_uMod : OpR X (binaryOp .Mod) uMod := op_mod
theorem op_uEq (K : PySem.W.Frag) (hu : X.A.units + 64 < cLine) (hk : X.K = K := by rfl) : OpR X (compareOp .Eq) (uEq K) := by
  subst hk
  exact op_eq.or (op_eqD hu)
theorem op_uNe (K : PySem.W.Frag) (hu : X.A.units + 64 < cLine) (hk : X.K = K := by rfl) : OpR X (compareOp .NotEq) (uNe K) := by
  subst hk
  exact op_ne.or (op_neD hu)
theorem op_uLe : OpR X (compareOp .LtE) uLe := op_le.or op_le_str
theorem op_uLt : OpR X (compareOp .Lt) uLt := op_lt
theorem op_uGt : OpR X (compareOp .Gt) uGt := op_gt
theorem op_uGe : OpR X (compareOp .GtE) uGe := op_ge
theorem op_uIn (K : PySem.W.Frag) (hk : X.K = K := by rfl) : OpR X (compareOp .In) (uIn K) := by
  subst hk
  exact op_in_sign.or op_in_seq
theorem op_uNi (K : PySem.W.Frag) (hk : X.K = K := by rfl) : OpR X (compareOp .NotIn) (uNi K) := by
  subst hk
  exact op_notIn_sign.or op_notIn_seq
theorem op_uIsN : OpR X (compareOp .Is) uIsN := op_isN
theorem op_uNotN : OpR X (compareOp .IsNot) uNotN := op_notN
end
/-! ### subscripts, slices -/
def uIx (K : PySem.W.Frag) : R2 := rIx K
theorem ix_u {X : Cx} (K : PySem.W.Frag) (hk : X.K = K := by rfl) : IxR X (uIx K) := by
  subst hk
  exact ix_seq
def rSlLn (K : PySem.W.Frag) : V → Option Int → Option Int → Hp → VK → Prop := fun x lo hi H Q => ∃ a xs, x = .ref a ∧ SqL K H a xs ∧ NewL H (cutV xs lo hi) Q
def uSl (K : PySem.W.Frag) : V → Option Int → Option Int → Hp → VK → Prop := fun x lo hi H Q => rSlS x lo hi H Q ∨ rSlLn K x lo hi H Q
theorem sl_u {X : Cx} (K : PySem.W.Frag) (hk : X.K = K := by rfl) : SlR X (uSl K) := by
  subst hk
  exact sl_str.or (slr_imp sl_list fun x lo hi H Q ⟨a, xs, h1, h2, q⟩ => ⟨a, xs, h1, h2, newL q⟩)

/-! ### displays -/
def tLstN (t : TA) : TE := fun σ H Q => t σ H fun xs H1 => xs.length ≤ sizeLine ∧ NewL H1 xs Q
def tTupN (t : TA) : TE := fun σ H Q => t σ H fun xs H1 => xs.length ≤ sizeLine ∧ NewT H1 xs Q
section
variable {X : Cx} {es : List Expr} {t : TA} {pos : Pos}
theorem pe_lstN (h : PA X es t) : PE X (.List es pos) (tLstN t) := by
  refine ⟨fun pins s σ H Q I hq => ?_⟩
  refine wpAny_List_spliced (thn (h.run pos pins s σ H _ I hq) fun us s1 ⟨xs, H1, I1, r, z, q⟩ => ⟨by rw [← r.length]; exact z, ?_⟩)
  have hf : H1 s1.heap.objs.size = none := I1.hok.fresh (Nat.le_refl _)
  refine ⟨.ref s1.heap.objs.size, upd H1 s1.heap.objs.size (.lst xs), I1.laid (t' := s1.toks) (fun b u e => Heap.get?_push_of_some _ e) (Nat.le_refl _) ?_, rfl, q _ _ hf (same_new hf) upd_same⟩
  exact ⟨z, us, 0, r, Heap.get?_push_size _ rfl⟩
theorem pe_tupN {x1} (h : PA X es t) : PE X (.Tuple es x1 pos) (tTupN t) := by
  refine ⟨fun pins s σ H Q I hq => ?_⟩
  refine wpAny_Tuple_spliced (thn (h.run pos pins s σ H _ I hq) fun us s1 ⟨xs, H1, I1, r, z, q⟩ => ⟨by rw [← r.length]; exact z, ?_⟩)
  have hf : H1 s1.heap.objs.size = none := I1.hok.fresh (Nat.le_refl _)
  refine ⟨.ref s1.heap.objs.size, upd H1 s1.heap.objs.size (.tup xs), I1.laid (t' := s1.toks) (fun b u e => Heap.get?_push_of_some _ e) (Nat.le_refl _) ?_, rfl, q _ _ hf (same_new hf) upd_same⟩
  exact ⟨z, us, r, ⟨_, Heap.get?_push_size _ rfl, rfl, _, rfl⟩⟩
end

/-! ### defs -/
/-- the def x of the module, as it stands -/
structure Df (K : PySem.W.Frag) (mg : Str → Option Value) (x : Str) (st : Stmt) (ps : List Str) : Prop where
  ex : ∃ (f : Addr) (fd : FuncData), Fun K x x st f fd ∧ Binds K fd ps [] ∧ mg x = some (.ref f)
structure OkAt (P : Program) (w : World) (K : PySem.W.Frag) (mg : Str → Option Value) (base : Heap) (x : Str) (k : Nat) (ps : List Str) (sp : Sp) : Prop where
  ex : ∃ (f : Addr) (fd : FuncData), FnOk P w K mg base CX0 k f fd ps sp ∧ Binds K fd ps [] ∧ mg x = some (.ref f) ∧ PySem.W.keepIn K (.ref f) = true
section
variable {P : Program} {w : World} {K : PySem.W.Frag} {mg : Str → Option Value} {base : Heap}
/-- THE RULE for a def -/
theorem Df.ok {x : Str} {st : Stmt} {N ps : List Str} {k : Nat} {sp : Sp} (F : Df K mg x st ps) (S : FnScope N ps (defScope st)) (len : ∀ vs H Q E, sp vs H Q E → vs.length = ps.length)
    (hbody : ∀ (f : Addr) (cdv : Value) (A : Around) (outer : List Env) (s : Shared) (H : Hp) (vs : List V) (Q : VK) (E : XK), Room k (A.deeper (envOfC x (defScope st) s.heap.objs.size f cdv)) → sp vs H Q E →
      ∃ t, PSs (cxOf CX0 P w K mg base N x (defScope st) f cdv A outer s H E).nox (defBody st) t ∧ t { nx := fun _ H' => Q .non H', rt := Q } (start N vs) H) : OkAt P w K mg base x (k + 1) ps sp := by
  obtain ⟨f, fd, F, b, m⟩ := F.ex
  exact ⟨f, fd, F.ok S len fun cdv A outer s H vs Q E hr h => hbody f cdv A outer s H vs Q E hr h, b, m, F.kp⟩
theorem OkAt.mono {x : Str} {ps : List Str} {j k : Nat} {sp : Sp} (o : OkAt P w K mg base x j ps sp) (h : j ≤ k) : OkAt P w K mg base x k ps sp := by
  obtain ⟨f, fd, F, b, m, kp⟩ := o.ex
  exact ⟨f, fd, F.mono h, b, m, kp⟩
theorem OkAt.imp {x : Str} {ps : List Str} {k : Nat} {sp sp' : Sp} (o : OkAt P w K mg base x k ps sp) (h : ∀ vs H Q E, sp' vs H Q E → sp vs H Q E) : OkAt P w K mg base x k ps sp' := by
  obtain ⟨f, fd, F, b, m, kp⟩ := o.ex
  exact ⟨f, fd, F.imp h, b, m, kp⟩
end
def tCl (sp : Sp) (t : TA) : TE := fun σ H Q => t σ H fun vs H1 => sp vs H1 Q E0
theorem pe_cl {X : Cx} {x : Str} {ps : List Str} {k : Nat} {sp : Sp} {e : Expr} {es : List Expr} {t : TA} {p pos : Pos} (o : OkAt X.prog X.w X.K X.mg X.base x k ps sp) (hr : Room k X.A) (hg : Gl X x) (ha : PA X (e :: es) t)
    (hdb : (x == ("__debug__" : Str)) = false := by decide) (he : starEach (e :: es) X.env = (false, eval e X.env) :: starEach es X.env := by rfl) (hpl : (backTo pos (starEach es X.env)).any (·.1) = false := by rfl) :
    PE X (.Call (.Name x p) (e :: es) [] pos) (tCl sp t) := by
  obtain ⟨f, fd, F, b, m, kp⟩ := o.ex
  refine pe_imp (pe_call F hr hg m kp b .nil pass0 ha hdb he hpl) fun σ H Q h => ?_
  show t σ H fun vs H1 => sp (vs ++ []) H1 Q E0
  have e1 : (fun vs H1 => sp (vs ++ []) H1 Q E0) = fun vs H1 => sp vs H1 Q E0 := by
    funext vs H1
    rw [List.append_nil]
  rw [e1]
  exact h

/-! ### built-ins -/
def bLen (K : PySem.W.Frag) : List V → Hp → VK → Prop := fun xs H Q => ∃ x n, xs = [x] ∧ LenV K x H n ∧ Q (.int n) H
theorem cr_len {X : Cx} (K : PySem.W.Frag) (hk : X.K = K := by rfl) : CallR X (.builtin "len") (bLen K) := by
  subst hk
  exact call_len
def bMin : List V → Hp → VK → Prop := fun xs H Q => ∃ i j, xs = [.int i, .int j] ∧ Q (.int (if j < i then j else i)) H
theorem cr_minI {X : Cx} (hc : X.calm = true := by rfl) : CallR X (.builtin "min") bMin := call_min2 hc
def bInt : List V → Hp → VK → Prop := fun xs H Q => (∃ i, xs = [.int i] ∧ Q (.int i) H) ∨ (∃ k, xs = [.bl k] ∧ Q (.int (if k then 1 else 0)) H) ∨ ∃ (x : Str) (n : Int), xs = [.str x] ∧ PySem.intText? x = some n ∧ x.length ≤ 640 ∧ Q (.int n) H
theorem cr_int {X : Cx} : CallR X (.type "int") bInt := fun pins s σ H xs us Q I r h => by
  rcases h with h | h | ⟨x, n, h1, h2, h3, q⟩
  · exact call_int1 pins s σ H xs us Q I r (.inl h)
  · exact call_int1 pins s σ H xs us Q I r (.inr h)
  · exact call_int_str pins s σ H xs us Q I r ⟨x, n, h1, h2, h3, q⟩
def bStr : List V → Hp → VK → Prop := fun xs H Q => ∃ i, xs = [.int i] ∧ i.natAbs.log2 < 1920 ∧ Q (.str (toString i)) H
theorem cr_str {X : Cx} : CallR X (.type "str") bStr := call_str_int
def bListN (K : PySem.W.Frag) : List V → Hp → VK → Prop := fun xs H Q => ∃ p ys, xs = [.ref p] ∧ (SqL K H p ys ∨ SqT K H p ys) ∧ NewL H ys Q
theorem cr_listN {X : Cx} (K : PySem.W.Frag) (hk : X.K = K := by rfl) : CallR X (.type "list") (bListN K) := by
  subst hk
  exact callr_imp call_list_of fun xs H Q ⟨p, ys, h1, h2, q⟩ => ⟨p, ys, h1, h2, newL q⟩
def bAll (K : PySem.W.Frag) : List V → Hp → VK → Prop := rAll K
theorem cr_allB {X : Cx} (K : PySem.W.Frag) (hc : X.calm = true := by rfl) (hk : X.K = K := by rfl) : CallR X (.builtin "all") (bAll K) := by
  subst hk
  exact cr_all hc
def bSorted (K : PySem.W.Frag) : List V → Hp → VK → Prop := fun vs H Q => ∃ (a : Addr) (ns : List Int), vs = [V.ref a] ∧ SqL K H a (ns.map V.int) ∧ ns.length < 64 ∧ ∀ ns' : List Int, ns'.Perm ns → ns'.Pairwise (· ≤ ·) → NewL H (ns'.map V.int) Q
theorem cr_sortedN {X : Cx} (K : PySem.W.Frag) (hk : X.K = K := by rfl) : CallR X (.builtin "sorted") (bSorted K) := by
  subst hk
  exact callr_imp cr_sorted fun vs H Q ⟨a, ns, h1, h2, h3, q⟩ => ⟨a, ns, h1, h2, h3, fun ns' p hp hs n => newL (q ns' hp hs) p n⟩
def bIsi (K : PySem.W.Frag) : List V → Hp → VK → Prop := rIsi K
theorem cr_isi {X : Cx} (K : PySem.W.Frag) (hk : X.K = K := by rfl) : CallR X (.builtin "isinstance") (bIsi K) := by
  subst hk
  exact call_isi

/-! ### methods -/
def mAppend : V → List V → Hp → VK → Prop := fun x vs H Q => ∃ l xs y, x = .ref l ∧ vs = [y] ∧ H l = some (.lst xs) ∧ xs.length < sizeLine ∧ ∀ H', But l H H' → H' l = some (.lst (xs ++ [y])) → Q .non H'
theorem mt_appendN {X : Cx} : MtR X "list.append" mAppend := mtr_imp mt_append fun x vs H Q ⟨l, xs, y, h1, h2, h3, h4, q⟩ => ⟨l, xs, y, h1, h2, h3, h4, q _ but_upd upd_same⟩
def mPopAt : V → List V → Hp → VK → Prop := fun x vs H Q => ∃ l xs i k y, x = .ref l ∧ vs = [.int i] ∧ H l = some (.lst xs) ∧ -(2 ^ 63) ≤ i ∧ i < 2 ^ 63 ∧ seqIndex? i xs.length = some k ∧ xs[k]? = some y ∧ ∀ H', But l H H' → H' l = some (.lst (xs.eraseIdx k)) → Q y H'
theorem mt_popAtN {X : Cx} : MtR X "list.pop" mPopAt := mtr_imp mt_popAt fun x vs H Q ⟨l, xs, i, k, y, h1, h2, h3, h4, h5, h6, h7, q⟩ => ⟨l, xs, i, k, y, h1, h2, h3, h4, h5, h6, h7, q _ but_upd upd_same⟩
def mJoin (K : PySem.W.Frag) : V → List V → Hp → VK → Prop := fun x xs H Q => ∃ a p, ∃ ys : List Str, x = .str a ∧ xs = [.ref p] ∧ (SqL K H p (ys.map V.str) ∨ SqT K H p (ys.map V.str)) ∧
    (ys.map (·.length)).sum + ys.length * a.length ≤ 16777216 ∧ Q (.str (Txt.join a ys)) H
theorem mt_joinN {X : Cx} (K : PySem.W.Frag) (hk : X.K = K := by rfl) : MtR X "str.join" (mJoin K) := by
  subst hk
  exact mt_join
/-- xs[i] = v -/
def uSetL : V → V → V → Hp → (Hp → Prop) → Prop := fun o i v H Q => ∃ p xs k j, o = .ref p ∧ i = .int k ∧ H p = some (.lst xs) ∧ ixN xs.length k = some j ∧ ∀ H', But p H H' → H' p = some (.lst (xs.set j v)) → Q H'
theorem set_u {X : Cx} : PSet X uSetL := fun pins s σ H o i v ov iv u Q I r1 r2 r3 ⟨p, xs, k, j, h1, h2, h3, h4, q⟩ => set_list pins s σ H o i v ov iv u Q I r1 r2 r3 ⟨p, xs, k, j, h1, h2, h3, h4, q _ but_upd upd_same⟩
/-! ### the same with K told -/
section
variable {X : Cx} {o e tg l : Expr} {es ets : List Expr} {to te tl : TE} {t : TA} {name : Str} {apos cpos p pos tpos : Pos} {T id : String} {r : V → List V → Hp → VK → Prop} {kk n : Nat} {u : TGs}
theorem pe_bmK (K : PySem.W.Frag) (pa : PlainAttrs T) (slot : Slot T name id) (hty : typeOf (.builtin id) = pure (.type "method_descriptor")) (hm : MtR X id r) (ho : PE X o to) (ha : PA X (e :: es) t) (hk : X.K = K := by rfl)
    (hbase : attributeBase o name X.env (eval o X.env) = eval o X.env := by rfl)
    (hfew : ((backTo cpos (starEach (e :: es) X.env)).all (fun x => !x.1) && (backToKw cpos (keywordEach [] X.env)).all (fun x => x.1.isSome)
      && decide ((e :: es).length + ([] : List Keyword).length + (if ([] : List Keyword).isEmpty then 0 else 1) < 30)) = true := by rfl)
    (hline : (apos.endLine == cpos.line) = true := by rfl) (hs : starEach (e :: es) X.env = (false, eval e X.env) :: starEach es X.env := by rfl) (hplain : (backTo cpos (starEach es X.env)).any (·.1) = false := by rfl) :
    PE X (.Call (.Attribute o name apos) (e :: es) [] cpos) (tBM K T r to t) := by
  subst hk
  exact pe_bm pa slot hty hm ho ha hbase hfew hline hs hplain
theorem pi_listK (K : PySem.W.Frag) (hl : PE X l tl) (hk : X.K = K := by rfl) : PI X tg l (iList K tl) := by
  subst hk
  exact pi_list hl
theorem pi_tupK (K : PySem.W.Frag) (hl : PE X l tl) (hk : X.K = K := by rfl) : PI X tg l (iTup K tl) := by
  subst hk
  exact pi_tup hl
theorem pi_enumK (K : PySem.W.Frag) (hg : Gl X "enumerate") (hm : X.mg "enumerate" = none) (ha : PA X [e] t) (hk : X.K = K := by rfl) (hs : starEach [e] X.env = [(false, eval e X.env)] := by rfl) :
    PI X (.Tuple ets kk tpos) (.Call (.Name "enumerate" p) [e] [] pos) (iEnum K t) := by
  subst hk
  exact pi_enum hg hm ha hs
theorem pi_revK (K : PySem.W.Frag) (hg : Gl X "reversed") (hm : X.mg "reversed" = none) (ha : PA X [e] t) (hk : X.K = K := by rfl) (hs : starEach [e] X.env = [(false, eval e X.env)] := by rfl) :
    PI X tg (.Call (.Name "reversed" p) [e] [] pos) (iRev K t) := by
  subst hk
  exact pi_reversed hg hm ha hs
theorem pg_tupK (K : PySem.W.Frag) (hc : X.calm = true) (h : PGs X es u) (hk : X.K = K := by rfl) (hn : (assignEach es X.env).length = n := by rfl) (hst : (assignEach es X.env).findIdx? (·.1) = none := by rfl) :
    PG X (.Tuple es kk pos) (gTup K n u) := by
  subst hk
  exact pg_tup hc h hn hst
theorem pe_gStr {x z : Str} (hg : Gl X x) (h : ∃ t, X.mg x = some (.str z t)) (hd : (x == ("__debug__" : Str)) = false := by decide) : PE X (.Name x pos) (tC (.str z)) := by
  obtain ⟨t, h⟩ := h
  exact pe_glob hg h ⟨t, rfl⟩ hd
theorem pe_gInt {x : Str} {z : Int} (hg : Gl X x) (h : ∃ t, X.mg x = some (.int z t)) (hd : (x == ("__debug__" : Str)) = false := by decide) : PE X (.Name x pos) (tC (.int z)) := by
  obtain ⟨t, h⟩ := h
  exact pe_glob hg h ⟨t, rfl⟩ hd
end
end Z

/-! running a reading step by step -/
namespace Z
open PySem PySem.Spec PyProof.Rows L2
theorem le_size {n : Nat} (h : n ≤ 100000) : n ≤ sizeLine := Nat.le_trans h (by decide)
theorem lt_size {n : Nat} (h : n < 100000) : n < sizeLine := Nat.lt_of_lt_of_le h (by decide)
theorem decV_int {i j : Int} : decide (V.int i = V.int j) = decide (i = j) := by
  by_cases e : i = j
  · rw [e, decide_eq_true rfl, decide_eq_true rfl]
  · rw [decide_eq_false e, decide_eq_false (fun z => e (V.int.inj z))]
theorem decV_str {i j : Str} : decide (V.str i = V.str j) = decide (i = j) := by
  by_cases e : i = j
  · rw [e, decide_eq_true rfl, decide_eq_true rfl]
  · rw [decide_eq_false e, decide_eq_false (fun z => e (V.str.inj z))]
theorem decV_bl {i j : Bool} : decide (V.bl i = V.bl j) = decide (i = j) := by
  by_cases e : i = j
  · rw [e, decide_eq_true rfl, decide_eq_true rfl]
  · rw [decide_eq_false e, decide_eq_false (fun z => e (V.bl.inj z))]
section
variable {K : PySem.W.Frag} {σ : L2.St} {H : Hp} {Q : VK} {i : Nat} {v x y : V} {ta tb tc te to ti : TE} {t u : TT} {tl : TA} {a b : Addr} {xs ys : List V}

/-! ### expressions -/
theorem r_var (h : σ[i]? = some (some v)) (q : Q v H) : tVar i σ H Q := ⟨v, h, q⟩
theorem r_c (q : Q v H) : tC v σ H Q := q
theorem r_op {r : R2} (q : ta σ H fun x H1 => tb σ H1 fun y H2 => r x y H2 Q) : tOp r ta tb σ H Q := q
theorem r_un {r : V → Hp → VK → Prop} (q : ta σ H fun x H1 => r x H1 Q) : tUn r ta σ H Q := q
theorem r_neg {n : Int} (q : Q (.int (-n)) H) : rU (fun i => .int (-i)) (.int n) H Q := ⟨n, rfl, q⟩
theorem r_addI {i j : Int} (q : Q (.int (i + j)) H) : uAdd K (.int i) (.int j) H Q := .inl ⟨i, j, rfl, rfl, q⟩
theorem r_addS {a b : Str} (h : a.length + b.length ≤ sizeLine) (q : Q (.str (a ++ b)) H) : uAdd K (.str a) (.str b) H Q := .inr (.inl ⟨a, b, rfl, rfl, h, q⟩)
theorem r_addL (h1 : H a = some (.lst xs)) (h2 : H b = some (.lst ys)) (h : xs.length + ys.length ≤ sizeLine) (q : NewL H (xs ++ ys) Q) : uAdd K (.ref a) (.ref b) H Q := .inr (.inr (.inl ⟨a, b, xs, ys, rfl, rfl, h1, h2, h, q⟩))
theorem r_addU (h1 : H a = some (.tup xs)) (h2 : H b = some (.tup ys)) (e1 : xs ≠ []) (e2 : ys ≠ []) (h : xs.length + ys.length ≤ sizeLine) (q : NewT H (xs ++ ys) Q) : uAdd K (.ref a) (.ref b) H Q :=
  .inr (.inr (.inr ⟨a, b, xs, ys, rfl, rfl, SqT.of h1, SqT.of h2, e1, e2, h, q⟩))
theorem r_subI {i j : Int} (q : Q (.int (i - j)) H) : uSub (.int i) (.int j) H Q := ⟨i, j, rfl, rfl, q⟩
theorem r_mulI {i j : Int} (h : CMul i j) (q : Q (.int (i * j)) H) : uMul (.int i) (.int j) H Q := ⟨i, j, rfl, rfl, h, q⟩
theorem r_fdivI {i j : Int} (h : CDivW i j) (q : Q (.int (i / j)) H) : uFdiv (.int i) (.int j) H Q := ⟨i, j, rfl, rfl, h, q⟩
theorem r_modI {i j : Int} (h : 0 < j) (q : Q (.int (i % j)) H) : uMod (.int i) (.int j) H Q := ⟨i, j, rfl, rfl, h, q⟩
theorem r_leI {i j : Int} (q : Q (.bl (decide (i ≤ j))) H) : uLe (.int i) (.int j) H Q := .inl ⟨i, j, rfl, rfl, q⟩
theorem r_leS {a b : Str} (q : Q (.bl (!decide (b.cps.toList < a.cps.toList))) H) : uLe (.str a) (.str b) H Q := .inr ⟨a, b, rfl, rfl, q⟩
theorem r_ltI {i j : Int} (q : Q (.bl (decide (i < j))) H) : uLt (.int i) (.int j) H Q := ⟨i, j, rfl, rfl, q⟩
theorem r_gtI {i j : Int} (q : Q (.bl (decide (j < i))) H) : uGt (.int i) (.int j) H Q := ⟨i, j, rfl, rfl, q⟩
theorem r_geI {i j : Int} (q : Q (.bl (decide (j ≤ i))) H) : uGe (.int i) (.int j) H Q := ⟨i, j, rfl, rfl, q⟩
theorem r_eqI {i j : Int} (q : Q (.bl (decide (i = j))) H) : uEq K (.int i) (.int j) H Q := .inl ⟨rfl, by rw [decV_int]; exact q⟩
theorem r_neI {i j : Int} (q : Q (.bl (!decide (i = j))) H) : uNe K (.int i) (.int j) H Q := .inl ⟨rfl, by rw [decV_int]; exact q⟩
theorem r_eqS {i j : Str} (q : Q (.bl (decide (i = j))) H) : uEq K (.str i) (.str j) H Q := .inl ⟨rfl, by rw [decV_str]; exact q⟩
theorem r_neS {i j : Str} (q : Q (.bl (!decide (i = j))) H) : uNe K (.str i) (.str j) H Q := .inl ⟨rfl, by rw [decV_str]; exact q⟩
theorem r_eqB {i j : Bool} (q : Q (.bl (decide (i = j))) H) : uEq K (.bl i) (.bl j) H Q := .inl ⟨rfl, by rw [decV_bl]; exact q⟩
theorem r_neB {i j : Bool} (q : Q (.bl (!decide (i = j))) H) : uNe K (.bl i) (.bl j) H Q := .inl ⟨rfl, by rw [decV_bl]; exact q⟩
theorem r_eqV (h : scal x y = true) (q : Q (.bl (decide (x = y))) H) : uEq K x y H Q := .inl ⟨h, q⟩
theorem r_neV (h : scal x y = true) (q : Q (.bl (!decide (x = y))) H) : uNe K x y H Q := .inl ⟨h, q⟩
theorem r_eqD {d e : PyData} (h1 : Dp K H x d) (h2 : Dp K H y e) (s1 : SeqAt.shaped d = true) (s2 : SeqAt.shaped e = true) (q : Q (.bl (PyData.eqv d e)) H) : uEq K x y H Q := .inr ⟨d, e, h1, h2, s1, s2, q⟩
theorem r_neD {d e : PyData} (h1 : Dp K H x d) (h2 : Dp K H y e) (s1 : SeqAt.shaped d = true) (s2 : SeqAt.shaped e = true) (q : Q (.bl (!PyData.eqv d e)) H) : uNe K x y H Q := .inr ⟨d, e, h1, h2, s1, s2, q⟩
theorem r_inS {c : Nat} {z : Str} (q : Q (.bl (decide (c ∈ z.cps.toList))) H) : uIn K (.str ⟨#[c]⟩) (.str z) H Q := .inl ⟨c, z, rfl, rfl, q⟩
theorem r_niS {c : Nat} {z : Str} (q : Q (.bl (!decide (c ∈ z.cps.toList))) H) : uNi K (.str ⟨#[c]⟩) (.str z) H Q := .inl ⟨c, z, rfl, rfl, q⟩
theorem r_inL (h : H a = some (.lst xs)) (fx : flatV x = true) (fa : xs.all flatV = true) (q : Q (.bl (inV x xs)) H) : uIn K x (.ref a) H Q := .inr ⟨a, xs, rfl, .inl (SqL.of h), fx, fa, q⟩
theorem r_inU (h : H a = some (.tup xs)) (fx : flatV x = true) (fa : xs.all flatV = true) (q : Q (.bl (inV x xs)) H) : uIn K x (.ref a) H Q := .inr ⟨a, xs, rfl, .inr (SqT.of h), fx, fa, q⟩
theorem r_niL (h : H a = some (.lst xs)) (fx : flatV x = true) (fa : xs.all flatV = true) (q : Q (.bl (!inV x xs)) H) : uNi K x (.ref a) H Q := .inr ⟨a, xs, rfl, .inl (SqL.of h), fx, fa, q⟩
theorem r_niU (h : H a = some (.tup xs)) (fx : flatV x = true) (fa : xs.all flatV = true) (q : Q (.bl (!inV x xs)) H) : uNi K x (.ref a) H Q := .inr ⟨a, xs, rfl, .inr (SqT.of h), fx, fa, q⟩
theorem r_isN (q : Q (.bl (decide (x = .non))) H) : uIsN x .non H Q := ⟨rfl, q⟩
theorem r_notN (q : Q (.bl (!decide (x = .non))) H) : uNotN x .non H Q := ⟨rfl, q⟩
theorem r_ixS {z : Str} {n : Int} {c : Nat} (hz : z.length ≤ sizeLine) (h : atI z.cps.toList n = some c) (q : Q (.str ⟨#[c]⟩) H) : uIx K (.str z) (.int n) H Q := .inr (.inr ⟨z, n, c, rfl, rfl, hz, h, q⟩)
theorem r_ixL {n : Int} (h : H a = some (.lst xs)) (hv : atI xs n = some v) (q : Q v H) : uIx K (.ref a) (.int n) H Q := .inl ⟨a, xs, n, v, rfl, rfl, SqL.of h, hv, q⟩
theorem r_ixU {n : Int} (h : H a = some (.tup xs)) (hv : atI xs n = some v) (q : Q v H) : uIx K (.ref a) (.int n) H Q := .inr (.inl ⟨a, xs, n, v, rfl, rfl, SqT.of h, hv, q⟩)
theorem r_sl {r : V → Option Int → Option Int → Hp → VK → Prop} {t1 t2 : TO} (q : te σ H fun x H1 => t1 σ H1 fun l H2 => t2 σ H2 fun u H3 => r x l u H3 Q) : tSl r te t1 t2 σ H Q := q
theorem r_noP {Q : Option Int → Hp → Prop} (q : Q none H) : tNoPart σ H Q := q
theorem r_po {Q : Option Int → Hp → Prop} (q : te σ H fun x H1 => ∃ i, x = .int i ∧ Q (some i) H1) : tPart te σ H Q := q
theorem r_poI {n : Int} {P : Int → Prop} (q : P n) : ∃ i, V.int n = .int i ∧ P i := ⟨n, rfl, q⟩
theorem r_slS {z : Str} {lo hi : Option Int} (h : z.length ≤ sizeLine) (q : Q (.str (cutS z lo hi)) H) : uSl K (.str z) lo hi H Q := .inl ⟨z, rfl, h, q⟩
theorem r_slL {lo hi : Option Int} (h : H a = some (.lst xs)) (q : NewL H (cutV xs lo hi) Q) : uSl K (.ref a) lo hi H Q := .inr ⟨a, xs, rfl, SqL.of h, q⟩
theorem r_ifE (q : t σ H fun c H1 => if c = true then ta σ H1 Q else tb σ H1 Q) : tIf t ta tb σ H Q := q
theorem r_andV (q : ta σ H fun x H1 => ∃ c, x = .bl c ∧ if c = true then tb σ H1 Q else Q (.bl false) H1) : tAndV ta tb σ H Q := q
theorem r_orV (q : ta σ H fun x H1 => ∃ c, x = .bl c ∧ if c = true then Q (.bl true) H1 else tb σ H1 Q) : tOrV ta tb σ H Q := q
theorem r_notV (q : ta σ H fun x H1 => ∃ c, x = .bl c ∧ Q (.bl (!c)) H1) : tNotV ta σ H Q := q
theorem r_chain {r r' : R2} (q : ta σ H fun x H1 => tb σ H1 fun y H2 => r x y H2 fun z H3 => ∃ k, z = .bl k ∧ (if k = true then tc σ H3 fun w' H4 => r' y w' H4 Q else Q (.bl false) H3)) : tChain r r' ta tb tc σ H Q := q
theorem r_bl {c : Bool} {P : Bool → Prop} (q : P c) : ∃ k, V.bl c = .bl k ∧ P k := ⟨c, rfl, q⟩
theorem r_nil {Q : List V → Hp → Prop} (q : Q [] H) : tNil σ H Q := q
theorem r_cons {Q : List V → Hp → Prop} (q : ta σ H fun x H1 => tl σ H1 fun xs H2 => Q (x :: xs) H2) : tCons ta tl σ H Q := q
theorem r_cl {sp : Sp} (q : tl σ H fun vs H1 => sp vs H1 Q E0) : tCl sp tl σ H Q := q
theorem r_cb {r : List V → Hp → VK → Prop} (q : tl σ H fun vs H1 => r vs H1 Q) : tCB r tl σ H Q := q
theorem r_tup (q : tl σ H fun xs H1 => xs.length ≤ sizeLine ∧ NewT H1 xs Q) : tTupN tl σ H Q := q
theorem r_lst (q : tl σ H fun xs H1 => xs.length ≤ sizeLine ∧ NewL H1 xs Q) : tLstN tl σ H Q := q
theorem r_few {n : Nat} {P : Prop} (h : n ≤ 1000) (q : P) : n ≤ sizeLine ∧ P := ⟨le_size (by omega), q⟩
theorem r_bm {T : String} {r : V → List V → Hp → VK → Prop} (q : to σ H fun x H1 => tyV K T x H1 ∧ tl σ H1 fun xs H2 => r x xs H2 Q) : tBM K T r to tl σ H Q := q
theorem r_tyL {P : Prop} (h : H a = some (.lst xs)) (q : P) : tyV K "list" (.ref a) H ∧ P := ⟨.inl ⟨rfl, _, SqL.of h⟩, q⟩
theorem r_tyS {z : Str} {P : Prop} (q : P) : tyV K "str" (.str z) H ∧ P := ⟨rfl, q⟩
theorem r_app (h : H a = some (.lst xs)) (hz : xs.length < sizeLine) (q : ∀ H', But a H H' → H' a = some (.lst (xs ++ [y])) → Q .non H') : mAppend (.ref a) [y] H Q := ⟨a, xs, y, rfl, rfl, h, hz, q⟩
theorem r_lenS {z : Str} (h : z.length ≤ sizeLine) (q : Q (.int z.length) H) : bLen K [.str z] H Q := ⟨_, _, rfl, ⟨h, rfl⟩, q⟩
theorem r_lenL (h : H a = some (.lst xs)) (q : Q (.int xs.length) H) : bLen K [.ref a] H Q := ⟨_, _, rfl, .inl ⟨_, SqL.of h, rfl⟩, q⟩
theorem r_lenU (h : H a = some (.tup xs)) (q : Q (.int xs.length) H) : bLen K [.ref a] H Q := ⟨_, _, rfl, .inr ⟨_, SqT.of h, rfl⟩, q⟩
theorem r_min {i j : Int} (q : Q (.int (if j < i then j else i)) H) : bMin [.int i, .int j] H Q := ⟨i, j, rfl, q⟩
theorem r_intI {i : Int} (q : Q (.int i) H) : bInt [.int i] H Q := .inl ⟨i, rfl, q⟩
theorem r_intB {k : Bool} (q : Q (.int (if k then 1 else 0)) H) : bInt [.bl k] H Q := .inr (.inl ⟨k, rfl, q⟩)
theorem r_listL (h : H a = some (.lst xs)) (q : NewL H xs Q) : bListN K [.ref a] H Q := ⟨a, xs, rfl, .inl (SqL.of h), q⟩
theorem r_listU (h : H a = some (.tup xs)) (q : NewL H xs Q) : bListN K [.ref a] H Q := ⟨a, xs, rfl, .inr (SqT.of h), q⟩
theorem r_all {bs : List Bool} (h : H a = some (.lst (bs.map V.bl))) (q : Q (.bl (bs.all id)) H) : bAll K [.ref a] H Q := ⟨a, bs, rfl, SqL.of h, q⟩
theorem r_join {z : Str} {ys : List Str} (h : H a = some (.lst (ys.map V.str))) (hs : (ys.map (·.length)).sum + ys.length * z.length ≤ 16777216) (q : Q (.str (Txt.join z ys)) H) : mJoin K (.str z) [.ref a] H Q := ⟨z, a, ys, rfl, rfl, .inl (SqL.of h), hs, q⟩
theorem ixN_nat {n j : Nat} (hj : j < n) : ixN n (j : Int) = some j := by
  unfold ixN
  rw [if_pos (by omega), if_pos (by omega)]
  simp
theorem r_popAt {n : Int} {j : Nat} (h : H a = some (.lst xs)) (hn : n = (j : Int)) (hl : xs.length ≤ 100000) (hv : xs[j]? = some v) (q : ∀ H', But a H H' → H' a = some (.lst (xs.eraseIdx j)) → Q v H') : mPopAt (.ref a) [.int n] H Q := by
  subst hn
  have hj : j < xs.length := (List.getElem?_eq_some_iff.mp hv).1
  exact ⟨a, xs, j, j, v, rfl, rfl, h, by omega, by omega, (ixN_seq (ixN_nat hj)).1, hv, q⟩
theorem r_setL {n : Int} {j : Nat} {Q : Hp → Prop} (h : H a = some (.lst xs)) (hj : ixN xs.length n = some j) (q : ∀ H', But a H H' → H' a = some (.lst (xs.set j v)) → Q H') : uSetL (.ref a) (.int n) v H Q := ⟨a, xs, n, j, rfl, rfl, h, hj, q⟩
end
section
variable {K : PySem.W.Frag} {σ : L2.St} {H : Hp} {i : Nat} {v x y : V} {ta tb tc te to ti : TE} {t u : TT} {s1 s2 s3 : TS}

/-! ### tests -/
variable {QT : Bool → Hp → Prop}
theorem r_test (q : te σ H fun x H' => ∃ k, x = .bl k ∧ QT k H') : tTest te σ H QT := q
theorem r_tB (q : te σ H fun x H' => ∃ k, x = .bl k ∧ QT k H') : tB te σ H QT := q
theorem r_not (q : t σ H fun c H1 => QT (!c) H1) : tNot t σ H QT := q
theorem r_and (q : t σ H fun c H1 => if c = true then u σ H1 QT else QT false H1) : tAnd t u σ H QT := q
theorem r_or (q : t σ H fun c H1 => if c = true then QT true H1 else u σ H1 QT) : tOr t u σ H QT := q
theorem r_yes (q : QT true H) : tYes σ H QT := q

/-! ### ways -/
theorem w_dec {p A B : Prop} [Decidable p] (h1 : p → A) (h2 : ¬ p → B) : if decide p = true then A else B := by
  by_cases h : p
  · rw [if_pos (decide_eq_true h)]; exact h1 h
  · rw [if_neg (by rw [decide_eq_false h]; decide)]; exact h2 h
theorem w_nd {p A B : Prop} [Decidable p] (h1 : ¬ p → A) (h2 : p → B) : if (!decide p) = true then A else B := by
  by_cases h : p
  · rw [if_neg (by rw [decide_eq_true h]; decide)]; exact h2 h
  · rw [if_pos (by rw [decide_eq_false h]; decide)]; exact h1 h
theorem w_yes {p A B : Prop} [Decidable p] (h : p) (a : A) : if decide p = true then A else B := w_dec (fun _ => a) fun z => absurd h z
theorem w_no {p A B : Prop} [Decidable p] (h : ¬ p) (b : B) : if decide p = true then A else B := w_dec (fun z => absurd z h) fun _ => b
theorem w_nyes {p A B : Prop} [Decidable p] (h : ¬ p) (a : A) : if (!decide p) = true then A else B := w_nd (fun _ => a) fun z => absurd z h
theorem w_nno {p A B : Prop} [Decidable p] (h : p) (b : B) : if (!decide p) = true then A else B := w_nd (fun z => absurd h z) fun _ => b
theorem iteNT {A B : Prop} (b : B) : if (!true) = true then A else B := by
  rw [if_neg (by decide)]
  exact b
theorem iteNF {A B : Prop} (a : A) : if (!false) = true then A else B := by
  rw [if_pos (by decide)]
  exact a
theorem w_b {c : Bool} {A B : Prop} (h1 : c = true → A) (h2 : c = false → B) : if c = true then A else B := by
  cases c with
  | true => rw [if_pos rfl]; exact h1 rfl
  | false => rw [if_neg Bool.false_ne_true]; exact h2 rfl
theorem w_t {c : Bool} {A B : Prop} (h : c = true) (a : A) : if c = true then A else B := w_b (fun _ => a) fun z => by rw [h] at z; cases z
theorem w_f {c : Bool} {A B : Prop} (h : c = false) (b : B) : if c = true then A else B := w_b (fun z => by rw [h] at z; cases z) fun _ => b

/-! ### statements: the ends written out -/
variable {nx bk ct : L2.St → Hp → Prop} {rt : VK}
theorem r_seq (q : s1 ⟨s2 ⟨nx, rt, bk, ct⟩, rt, bk, ct⟩ σ H) : tSeq s1 s2 ⟨nx, rt, bk, ct⟩ σ H := q
theorem r_asg (q : te σ H fun x H1 => nx (σ.set i (some x)) H1) : tAsg te (gName i) ⟨nx, rt, bk, ct⟩ σ H := q
theorem r_sasg (q : te σ H fun x H1 => s2 ⟨nx, rt, bk, ct⟩ (σ.set i (some x)) H1) : tSeq (tAsg te (gName i)) s2 ⟨nx, rt, bk, ct⟩ σ H := q
theorem r_sasgG {g : TG} (q : te σ H fun x H1 => g x σ H1 fun σ2 H2 => s2 ⟨nx, rt, bk, ct⟩ σ2 H2) : tSeq (tAsg te g) s2 ⟨nx, rt, bk, ct⟩ σ H := q
theorem r_asgG {g : TG} (q : te σ H fun x H1 => g x σ H1 nx) : tAsg te g ⟨nx, rt, bk, ct⟩ σ H := q
theorem r_sdrop (q : te σ H fun _ H1 => s2 ⟨nx, rt, bk, ct⟩ σ H1) : tSeq (tDrop te) s2 ⟨nx, rt, bk, ct⟩ σ H := q
theorem r_drop (q : te σ H fun _ H1 => nx σ H1) : tDrop te ⟨nx, rt, bk, ct⟩ σ H := q
theorem r_ret (q : te σ H rt) : tRet te ⟨nx, rt, bk, ct⟩ σ H := q
theorem r_if (q : t σ H fun b H1 => if b = true then s1 ⟨nx, rt, bk, ct⟩ σ H1 else s2 ⟨nx, rt, bk, ct⟩ σ H1) : tIfS t s1 s2 ⟨nx, rt, bk, ct⟩ σ H := q
theorem r_sif (q : t σ H fun b H1 => if b = true then s1 ⟨s3 ⟨nx, rt, bk, ct⟩, rt, bk, ct⟩ σ H1 else s2 ⟨s3 ⟨nx, rt, bk, ct⟩, rt, bk, ct⟩ σ H1) : tSeq (tIfS t s1 s2) s3 ⟨nx, rt, bk, ct⟩ σ H := q
theorem r_next (q : nx σ H) : tNext ⟨nx, rt, bk, ct⟩ σ H := q
theorem r_sset {ts : TSet} (q : te σ H fun x H1 => to σ H1 fun o H2 => ti σ H2 fun k H3 => ts o k x H3 fun H4 => s2 ⟨nx, rt, bk, ct⟩ σ H4) : tSeq (tAsg te (gSub to ti ts)) s2 ⟨nx, rt, bk, ct⟩ σ H := q
theorem r_set {ts : TSet} (q : te σ H fun x H1 => to σ H1 fun o H2 => ti σ H2 fun k H3 => ts o k x H3 fun H4 => nx σ H4) : tAsg te (gSub to ti ts) ⟨nx, rt, bk, ct⟩ σ H := q
theorem r_sfor {wi : TI} {g : TG} {tb : TS} (q : tFor wi g tb ⟨s2 ⟨nx, rt, bk, ct⟩, rt, bk, ct⟩ σ H) : tSeq (tFor wi g tb) s2 ⟨nx, rt, bk, ct⟩ σ H := q
theorem r_hide {Q : VK} (q : te σ H fun v H1 => ∃ a xs Pd, H1 a = some (.lst xs) ∧ Pd xs ∧ ∀ H', But a H1 H' → H' a = some (hidL Pd a) → Q v H') : tHide te σ H Q := q
end
/-! ### loops -/
section
variable {K : PySem.W.Frag} {σ : L2.St} {H : Hp} {a : Addr} {xs : List V} {g : TG} {tb : TS} {nx : L2.St → Hp → Prop} {rt : VK}
theorem f_list (h : H a = some (.lst xs)) (Pv : Nat → L2.St → Hp → Prop) (h0 : Pv 0 σ H) (hl : ∀ i σ H, i ≤ xs.length → Pv i σ H → H a = some (.lst xs))
    (hs : ∀ i x σ H, xs[i]? = some x → Pv i σ H → g x σ H fun σ2 H2 => tb ⟨Pv (i + 1), rt, nx, Pv (i + 1)⟩ σ2 H2) (hd : ∀ σ H, Pv xs.length σ H → nx σ H) :
    ∃ a', V.ref a = .ref a' ∧ (∃ xs, SqL K H a' xs) ∧ ∃ W : Nat → Nat → L2.St → Hp → Prop, (∃ m, W 0 m σ H) ∧ ∀ i m σ H, W i m σ H →
      ((Itl K a').stop i H ∧ nx σ H) ∨ ((Itl K a').go i H ∧ ∃ N : L2.St → Hp → Prop, (∀ σ' H', N σ' H' → ∃ m', m' < m ∧ W (i + 1) m' σ' H') ∧ ∀ x H', (Itl K a').yld i H x H' → g x σ H' fun σ2 H2 => tb ⟨N, rt, nx, N⟩ σ2 H2) :=
  ⟨a, rfl, ⟨xs, SqL.of h⟩, for_list (K := K) (D := ⟨nx, rt, fun _ _ => False, fun _ _ => False⟩) Pv h0 (fun i σ H hi p => SqL.of (hl i σ H hi p)) hs hd⟩
theorem f_range1 {n : Int} (h0n : 0 ≤ n) (hn : n ≤ 1000000) (Pv : Nat → L2.St → Hp → Prop) (h0 : Pv 0 σ H)
    (hs : ∀ (i : Nat) σ H, (i : Int) < n → Pv i σ H → g (.int (i : Int)) σ H fun σ2 H2 => tb ⟨Pv (i + 1), rt, nx, Pv (i + 1)⟩ σ2 H2) (hd : ∀ σ H, Pv n.toNat σ H → nx σ H) :
    ∃ j : Int, [V.int n] = [.int j] ∧ -(2 ^ 62) ≤ j ∧ j < 2 ^ 62 ∧ ∃ W : Nat → Nat → L2.St → Hp → Prop, (∃ m, W 0 m σ H) ∧ ∀ i m σ H, W i m σ H →
      ((Itr 0 j.toNat).stop i H ∧ nx σ H) ∨ ((Itr 0 j.toNat).go i H ∧ ∃ N : L2.St → Hp → Prop, (∀ σ' H', N σ' H' → ∃ m', m' < m ∧ W (i + 1) m' σ' H') ∧ ∀ x H', (Itr 0 j.toNat).yld i H x H' → g x σ H' fun σ2 H2 => tb ⟨N, rt, nx, N⟩ σ2 H2) :=
  ⟨n, rfl, by omega, by omega, for_range (lo := 0) (n := n.toNat) (D := ⟨nx, rt, fun _ _ => False, fun _ _ => False⟩) Pv h0 (fun i σ' H' hi p => by
    have e0 : (0 : Int) + (i : Int) = (i : Int) := Int.zero_add _
    rw [e0]
    exact hs i σ' H' (by omega) p) hd⟩
end
/-! the for statement, opened -/
section
variable {σ : L2.St} {H : Hp} {g : TG} {tb : TS} {nx bk ct : L2.St → Hp → Prop} {rt : VK} {wi : TI}
theorem r_for (q : wi σ H fun J H1 => ∃ W : Nat → Nat → L2.St → Hp → Prop, (∃ m, W 0 m σ H1) ∧ ∀ i m σ H, W i m σ H →
  (J.stop i H ∧ nx σ H) ∨ (J.go i H ∧ ∃ N : L2.St → Hp → Prop, (∀ σ' H', N σ' H' → ∃ m', m' < m ∧ W (i + 1) m' σ' H') ∧ ∀ x H', J.yld i H x H' → g x σ H' fun σ2 H2 => tb ⟨N, rt, nx, N⟩ σ2 H2)) : tFor wi g tb ⟨nx, rt, bk, ct⟩ σ H := q
theorem r_gName {i : Nat} {v : V} {Q : L2.St → Hp → Prop} (q : Q (σ.set i (some v)) H) : gName i v σ H Q := q
theorem r_gTup {K : PySem.W.Frag} {n : Nat} {u : TGs} {a : Addr} {xs : List V} {Q : L2.St → Hp → Prop} (h : H a = some (.tup xs)) (hn : xs.length = n) (q : u xs σ H Q) : gTup K n u (.ref a) σ H Q := ⟨a, xs, rfl, SqT.of h, hn, q⟩
theorem r_gCons {t : TG} {u : TGs} {v : V} {r : List V} {Q : L2.St → Hp → Prop} (q : t v σ H fun σ' H' => u r σ' H' Q) : gCons t u (v :: r) σ H Q := ⟨v, r, rfl, q⟩
theorem r_gNil {Q : L2.St → Hp → Prop} (q : Q σ H) : gNil [] σ H Q := ⟨rfl, q⟩
theorem r_iList {K : PySem.W.Frag} {tl : TE} {R : It → Hp → Prop} (q : tl σ H fun x H1 => ∃ a, x = .ref a ∧ (∃ xs, SqL K H1 a xs) ∧ R (Itl K a) H1) : iList K tl σ H R := q
theorem r_iRng1 {ta : TA} {R : It → Hp → Prop} (q : ta σ H fun vs H1 => ∃ j : Int, vs = [.int j] ∧ -(2 ^ 62) ≤ j ∧ j < 2 ^ 62 ∧ R (Itr 0 j.toNat) H1) : iRng1 ta σ H R := q
end
end Z

/-! data: lists of ints, deep equality -/
namespace Z
open PySem PySem.Spec PyProof.Rows L2
theorem dpAll_ints {K : PySem.W.Frag} {H : Hp} : ∀ ns : List Int, DpAll K H (ns.map V.int) (ns.map PyData.int)
  | [] => .nil
  | n :: ns => .cons (.int n) (dpAll_ints ns)
theorem dp_ints {K : PySem.W.Frag} {H : Hp} {a : Addr} {ns : List Int} (h : H a = some (.lst (ns.map V.int))) : Dp K H (.ref a) (.list (ns.map PyData.int)) := .lst (SqL.of h) (dpAll_ints ns)
theorem dp_nil {K : PySem.W.Frag} {H : Hp} {a : Addr} (h : H a = some (.lst [])) : Dp K H (.ref a) (.list []) := .lst (SqL.of h) .nil
theorem can_ints : ∀ ns : List Int, PyData.canLayAll0 (ns.map PyData.int) = true
  | [] => rfl
  | n :: ns => by
    rw [List.map_cons, PyData.canLayAll0, can_ints ns]
    rfl
theorem depth_ints : ∀ ns : List Int, PyData.depthAll (ns.map PyData.int) = 0
  | [] => rfl
  | n :: ns => by
    rw [List.map_cons, PyData.depthAll, depth_ints ns]
    rfl
theorem shaped_ints (ns : List Int) : SeqAt.shaped (.list (ns.map PyData.int)) = true := by
  unfold SeqAt.shaped
  rw [show (PyData.list (ns.map PyData.int)).canLay0 = true from can_ints ns, show (PyData.list (ns.map PyData.int)).depth = 1 by
    show PyData.depthAll (ns.map PyData.int) + 1 = 1
    rw [depth_ints]]
  rfl
theorem eqvAll_ints : ∀ xs ys : List Int, PyData.eqvAll (xs.map PyData.int) (ys.map PyData.int) = decide (xs = ys)
  | [], [] => rfl
  | [], _ :: _ => rfl
  | _ :: _, [] => rfl
  | x :: xs, y :: ys => by
    rw [List.map_cons, List.map_cons, PyData.eqvAll, eqvAll_ints xs ys]
    show (x == y && decide (xs = ys)) = _
    by_cases e1 : x = y
    · subst e1
      by_cases e2 : xs = ys
      · subst e2; simp
      · simp [e2]
    · simp [e1]
theorem eqv_ints (xs ys : List Int) : PyData.eqv (.list (xs.map PyData.int)) (.list (ys.map PyData.int)) = decide (xs = ys) := by
  rw [PyData.eqv]
  exact eqvAll_ints xs ys
section
variable {K : PySem.W.Frag} {H : Hp} {Q : VK} {a b : Addr} {xs ys : List Int}
theorem r_eqLI (h1 : H a = some (.lst (xs.map V.int))) (h2 : H b = some (.lst (ys.map V.int))) (q : Q (.bl (decide (xs = ys))) H) : uEq K (.ref a) (.ref b) H Q :=
  r_eqD (dp_ints h1) (dp_ints h2) (shaped_ints xs) (shaped_ints ys) (by rw [eqv_ints]; exact q)
theorem r_neLI (h1 : H a = some (.lst (xs.map V.int))) (h2 : H b = some (.lst (ys.map V.int))) (q : Q (.bl (!decide (xs = ys))) H) : uNe K (.ref a) (.ref b) H Q :=
  r_neD (dp_ints h1) (dp_ints h2) (shaped_ints xs) (shaped_ints ys) (by rw [eqv_ints]; exact q)
theorem r_eqLI0 (h1 : H a = some (.lst (xs.map V.int))) (h2 : H b = some (.lst [])) (q : Q (.bl (decide (xs = []))) H) : uEq K (.ref a) (.ref b) H Q := r_eqLI (ys := []) h1 h2 q
theorem r_neLI0 (h1 : H a = some (.lst (xs.map V.int))) (h2 : H b = some (.lst [])) (q : Q (.bl (!decide (xs = []))) H) : uNe K (.ref a) (.ref b) H Q := r_neLI (ys := []) h1 h2 q
end
theorem cdiv_of {i j : Int} (h : 0 < j) (hb : j ≤ 10 ^ 59) : CDivW i j := wide_div (b := 200) h (by
  have e : (10 : Int) ^ 59 < 2 ^ 200 := by decide
  have e2 : ((2 : Nat) ^ 200 : Nat) = ((2 : Int) ^ 200).toNat := by decide
  omega) (by decide) (by decide)
end Z

/-! set(text), list(text), reversed(text), text.index -/
namespace Z
open PySem PySem.Spec PyProof.Rows L2
/-! ### the unlike ones of a list, in the order in which they come -/
def stepD {α : Type} [BEq α] (σ : List α) (v : α) : List α := if σ.any (· == v) then σ else σ ++ [v]
def dl (l : List Nat) : List Nat := l.foldl stepD []
def sing (c : Nat) : Str := ⟨#[c]⟩
theorem stepD_any {α : Type} [BEq α] [LawfulBEq α] [DecidableEq α] (σ : List α) (v k : α) : (stepD σ v).any (· == k) = (σ.any (· == k) || decide (k = v)) := by
  unfold stepD
  by_cases h : σ.any (· == v) = true
  · rw [if_pos h]
    by_cases e : k = v
    · subst e; rw [h]; simp
    · simp [e]
  · rw [if_neg h, List.any_append]
    by_cases e : k = v
    · subst e; simp
    · have hb : (v == k) = false := by simpa [beq_iff_eq] using (fun h' : v = k => e h'.symm)
      simp [hb, e]
theorem stepD_length {α : Type} [BEq α] (σ : List α) (v : α) : (stepD σ v).length = if σ.any (· == v) then σ.length else σ.length + 1 := by
  unfold stepD
  split <;> simp
theorem dl_snoc (l : List Nat) (c : Nat) : dl (l ++ [c]) = stepD (dl l) c := by
  unfold dl
  rw [List.foldl_append]
  rfl
theorem sing_inj {a b : Nat} (h : sing a = sing b) : a = b := by
  have := congrArg (fun z : Str => z.cps.toList) h
  simpa [sing] using this
theorem any_sing (l : List Nat) (c : Nat) : (l.map sing).any (· == sing c) = l.any (· == c) := by
  rw [List.any_map]
  induction l with
  | nil => rfl
  | cons a r ih =>
    rw [List.any_cons, List.any_cons, ih]
    congr 1
    by_cases e : a = c
    · subst e; simp
    · have h1 : (a == c) = false := by simpa using e
      have h2 : (sing a == sing c) = false := by simpa using fun z => e (sing_inj z)
      rw [h1]
      exact h2
theorem dl_sing (l : List Nat) (c : Nat) : (dl (l ++ [c])).map sing = stepD ((dl l).map sing) (sing c) := by
  rw [dl_snoc]
  unfold stepD
  rw [any_sing]
  split
  · rfl
  · rw [List.map_append]
    rfl
theorem stepD_mem {σ : List Nat} {v k : Nat} : k ∈ stepD σ v ↔ k ∈ σ ∨ k = v := by
  have h := stepD_any σ v k
  constructor
  · intro hk
    have : (stepD σ v).any (· == k) = true := List.any_eq_true.mpr ⟨k, hk, by simp⟩
    rw [h, Bool.or_eq_true] at this
    rcases this with this | this
    · obtain ⟨x, hx, e⟩ := List.any_eq_true.mp this
      have : x = k := by simpa using e
      exact .inl (this ▸ hx)
    · exact .inr (of_decide_eq_true this)
  · intro hk
    have : (stepD σ v).any (· == k) = true := by
      rw [h, Bool.or_eq_true]
      rcases hk with hk | hk
      · exact .inl (List.any_eq_true.mpr ⟨k, hk, by simp⟩)
      · exact .inr (decide_eq_true hk)
    obtain ⟨x, hx, e⟩ := List.any_eq_true.mp this
    have : x = k := by simpa using e
    exact this ▸ hx
theorem dl_le (l : List Nat) : (dl l).length ≤ l.length ∧ (∀ k, k ∈ dl l ↔ k ∈ l) ∧ ((dl l).length = l.length ↔ l.Nodup) := by
  have key : ∀ l r : List Nat, (r.foldl stepD l).length ≤ l.length + r.length ∧ (∀ k, k ∈ r.foldl stepD l ↔ k ∈ l ∨ k ∈ r) ∧ ((r.foldl stepD l).length = l.length + r.length ↔ (r.Nodup ∧ ∀ x ∈ r, x ∉ l)) := by
    intro l r
    induction r generalizing l with
    | nil =>
      refine ⟨Nat.le_refl _, fun k => ?_, ?_⟩
      · simp
      · simp
    | cons c r ih =>
      obtain ⟨i1, i2, i3⟩ := ih (stepD l c)
      have e := stepD_length l c
      rw [List.foldl_cons]
      have hc : l.any (· == c) = true ↔ c ∈ l := by
        rw [List.any_eq_true]
        constructor
        · rintro ⟨x, hx, e⟩
          have : x = c := by simpa using e
          exact this ▸ hx
        · intro h
          exact ⟨c, h, by simp⟩
      refine ⟨?_, fun k => ?_, ?_⟩
      · rw [List.length_cons]
        split at e <;> omega
      · rw [i2, stepD_mem, List.mem_cons]
        constructor
        · rintro ((h | h) | h)
          · exact .inl h
          · exact .inr (.inl h)
          · exact .inr (.inr h)
        · rintro (h | h | h)
          · exact .inl (.inl h)
          · exact .inl (.inr h)
          · exact .inr h
      · rw [List.length_cons, List.nodup_cons]
        by_cases h : c ∈ l
        · rw [if_pos (hc.mpr h)] at e
          constructor
          · intro z
            omega
          · rintro ⟨_, z⟩
            exact absurd h (z c List.mem_cons_self)
        · rw [if_neg (fun z => h (hc.mp z))] at e
          have e2 : (List.foldl stepD (stepD l c) r).length = l.length + (r.length + 1) ↔ (List.foldl stepD (stepD l c) r).length = (stepD l c).length + r.length := by
            rw [e]
            constructor <;> intro z <;> omega
          rw [e2, i3]
          constructor
          · rintro ⟨a, b⟩
            refine ⟨⟨fun z => ?_, a⟩, fun x hx => ?_⟩
            · exact b c z (stepD_mem.mpr (.inr rfl))
            · rcases List.mem_cons.mp hx with rfl | hx
              · exact h
              · exact fun z => b x hx (stepD_mem.mpr (.inl z))
          · rintro ⟨⟨a, b⟩, d⟩
            refine ⟨b, fun x hx z => ?_⟩
            rcases stepD_mem.mp z with z | z
            · exact d x (List.mem_cons_of_mem _ hx) z
            · exact a (z ▸ hx)
  have h := key [] l
  refine ⟨by have := h.1; simp at this; exact this, fun k => by rw [show dl l = l.foldl stepD [] from rfl, h.2.1]; simp, ?_⟩
  have h3 := h.2.2
  simp at h3
  exact h3
section
variable {prog : Program} {w : World} {A : Around} {R : Result → Shared → Prop} {I : Addr} {fp wr : List Addr} {G : Array GenState → Array GenState → Prop} {n : Nat} {P : Nat → Value → Prop} {St : Nat → Shared → Prop}
theorem set_loop (W : WalksS prog w A.in1 I fp wr G n P St) (S : Addr) (hSf : S ∉ fp) (l : List Nat) (hl : l.length = n)
    (hval : ∀ i v, P i v → ∃ t c, l[i]? = some c ∧ v = .str (sing c) t) (hb : n + 1 < scanBound) :
    ∀ (k i : Nat) (s : Shared), n - i = k → i ≤ n → St i s →
      s.heap.SetOf (strKind prog w) S (fun k' => ((dl (l.take i)).map sing).any (· == k')) ((dl (l.take i)).map sing).length →
      (∀ s', Moved (S :: wr) G s s' → s'.heap.SetOf (strKind prog w) S (fun k' => ((dl (l.take n)).map sing).any (· == k')) ((dl (l.take n)).map sing).length → R (.ok (.ret .none)) s') →
      codeAny (model prog w) A (.builtin "set.update.loop" ⟨[.ref S, .ref I], []⟩) R s := by
  have hSw : S ∉ wr := fun h => hSf (W.sub _ h)
  have hsub : ∀ b ∈ wr, b ∈ S :: wr := fun b hb => List.mem_cons_of_mem _ hb
  intro k
  induction k with
  | zero =>
    intro i s hk hi hst hS hR
    have hin : i = n := by omega
    subst hin
    refine codeAny_builtin F.entry_set_update_loop ?_
    rw [Around.under_plainId F.plain_set_update_loop _]
    show wpAny _ A.in1 (pyNext (.ref I) >>= _) _ _ s
    refine wpAny_bind (W.done s _ _ hst fun s' hm => ?_)
    show wpAny _ A.in1 (ret Value.none) _ _ s'
    exact wpAny_pure (hR s' (hm.mono hsub) (by
      obtain ⟨o, es, ep, t, ho, rest⟩ := hS
      exact ⟨o, es, ep, t, hm.heap S _ hSw ho, rest⟩))
  | succ k ih =>
    intro i s hk hi hst hS hR
    have hlt : i < n := by omega
    refine codeAny_builtin F.entry_set_update_loop ?_
    rw [Around.under_plainId F.plain_set_update_loop _]
    show wpAny _ A.in1 (pyNext (.ref I) >>= _) _ _ s
    refine wpAny_bind (W.item i s _ _ hlt hst fun v s' hP hst' hm => ?_)
    obtain ⟨t, c, hc, rfl⟩ := hval i v hP
    have hS' : s'.heap.SetOf (strKind prog w) S (fun k' => ((dl (l.take i)).map sing).any (· == k')) ((dl (l.take i)).map sing).length := by
      obtain ⟨o, es, ep, tb, ho, rest⟩ := hS
      exact ⟨o, es, ep, tb, hm.heap S _ hSw ho, rest⟩
    show wpAny _ A.in1 (holding [Value.str (sing c) t] (setAdd S (.str (sing c) t)) >>= _) _ _ s'
    refine wpAny_bind (wpAny_holding ?_)
    unfold setAdd
    refine wpAny_holding ?_
    refine wpAny_bind ((strKind prog w).pyHash (k := sing c) (strKind_is _ _ _ _) ?_)
    have hroom : ((dl (l.take i)).map sing).length + 1 < scanBound := by
      have h1 := (dl_le (l.take i)).1
      rw [List.length_take] at h1
      rw [List.length_map]
      omega
    refine wpAny_setAddHashed_of (knd := strKind prog w) (s := { s' with toks := s'.toks + 1 }) (strKind_is _ _ _ _) rfl hS' hroom fun h' hsb hS2 => ?_
    have et : (dl (l.take (i + 1))).map sing = stepD ((dl (l.take i)).map sing) (sing c) := by
      rw [List.take_add_one, hc]
      exact dl_sing _ _
    have hSi : h'.SetOf (strKind prog w) S (fun k' => ((dl (l.take (i + 1))).map sing).any (· == k')) ((dl (l.take (i + 1))).map sing).length :=
      SetOf_congr hS2 (fun k' => by rw [et, stepD_any]) (by rw [et, stepD_length])
    refine wpAny_pure ⟨plainId_quiet F.plain_set_update_loop _, ih (i + 1) _ (by omega) hlt (W.frame _ s' _ _ hst' (Nat.le_succ _) fun b hb o e => ?_) hSi fun s'' hm'' hS'' => ?_⟩
    · rw [hsb.2 b (fun h : b = S => hSf (by rw [← h]; exact hb))]; exact e
    · refine hR s'' (Moved.trans W.gtrans ((hm.mono hsub).then_heap (Nat.le_succ _) fun b o hb e => ?_) hm'') hS''
      rw [hsb.2 b (fun h : b = S => hb (by rw [h]; exact List.mem_cons_self))]; exact e
end
section
variable {prog : Program} {w : World} {A : Around} {E : Value → Shared → Prop} {s : Shared}
theorem call_set_text (x : Str) (t : Tok) {Q : Value → Shared → Prop} (hh : A.handled = none) (hb : x.cps.size + 1 < scanBound)
    (h : ∀ (h' : Heap) (tk : Nat), h'.SetOf (strKind prog w) s.heap.objs.size (fun k' => ((dl x.cps.toList).map sing).any (· == k')) ((dl x.cps.toList).map sing).length →
      (∀ b o, b < s.heap.objs.size → s.heap.get? b = some o → h'.get? b = some o) → Q (.ref s.heap.objs.size) { s with heap := h', toks := tk }) :
    wpAny (model prog w) A (call (.type "set") [.str x t]) Q E s := by
  obtain ⟨c, tl, hmro⟩ := PySem.F.called_set.mro
  have hmade := PySem.F.called_set.made
  have hsub := PySem.F.called_set.sub
  refine wpAny_call (codeAny_of_tree ?_)
  show wpAny _ _ (callAny (.type "set") _) _ _ _
  refine wpAny_pure ⟨Code.quiet_builtin _ (by decide +kernel), codeAny_builtin PySem.F.entry_type_call ?_⟩
  rw [Around.under_plain (weight_type_call_type "set" [.str x t] []) rfl]
  have h1 := PySem.F.called_set.notType
  have h2 := PySem.F.called_set.canCreate
  have hct := PySem.F.typeCall_set_1 (.str x t)
  repeat (any_goals (first | assumption | wp_step))
  refine codeAny_mono (code_set_new_1 (.str x t) (E := E) (Q₁ := fun obj s₁ => ∃ led : Bool, obj = .ref s.heap.objs.size ∧ s₁ = { s with heap := s.heap.push { cls := .type "set", dict := none, data := .set #[] 0 (.fresh 0 0 led) } }) fun led => ⟨led, rfl, rfl⟩) fun r s₁ hr => ?_
  cases r with
  | error e => exact hr
  | ok fl =>
    cases fl with
    | ret obj =>
      obtain ⟨led, rfl, rfl⟩ := hr
      have hS : (s.heap.push { cls := .type "set", dict := none, data := .set #[] 0 (.fresh 0 0 led) }).get? s.heap.objs.size = some { cls := .type "set", dict := none, data := .set #[] 0 (.fresh 0 0 led) } := Heap.get?_push_size _ rfl
      have hT : Shared.TypeIs { s with heap := s.heap.push { cls := .type "set", dict := none, data := .set #[] 0 (.fresh 0 0 led) } } (.ref s.heap.objs.size) "set" := ⟨_, hS, rfl⟩
      have hli := PySem.F.called_set.init.lookup
      have hbi := PySem.F.called_set.init.bind (.ref s.heap.objs.size)
      repeat (any_goals (first | assumption | wp_step))
      refine codeAny_mono (codeAny_call_builtin (R := wants (fun r s₂ => r = .none ∧ ∃ h' tk, s₂ = { s with heap := h', toks := tk } ∧
          h'.SetOf (strKind prog w) s.heap.objs.size (fun k' => ((dl x.cps.toList).map sing).any (· == k')) ((dl x.cps.toList).map sing).length ∧
          (∀ b o, b < s.heap.objs.size → s.heap.get? b = some o → h'.get? b = some o)) E) PySem.F.called_set.init.plain PySem.F.entry_set_init (check_set_init_1 hT ?_)) fun r₂ s₂ hr₂ => ?_
      · have hne : (Value.type "str" == Value.type "dict") = false := by decide
        have hsls : isSubtype (.type "str") (.type "set") = pure false := by rw [isSubtype_type]; kernel_rfl
        have hslf : isSubtype (.type "str") (.type "frozenset") = pure false := by rw [isSubtype_type]; kernel_rfl
        unfold Builtin.«set.__init__» noKeywords Builtin.Frozenset.updateFrom
        generalize hPI : pyIter = PI
        wp_walk
        subst hPI
        refine wpAny_pyIter_str fun o St W st0 => ?_
        refine wpAny_bind (wpAny_runValue ?_)
        have calm : A.in1.in1.in1.handled = none := by simp [hh]
        have sz : (s.heap.push { cls := .type "set", dict := none, data := .set #[] 0 (.fresh 0 0 led) }).objs.size = s.heap.objs.size + 1 := Heap.size_push _ _
        have apart : s.heap.objs.size ∉ [(s.heap.push { cls := .type "set", dict := none, data := .set #[] 0 (.fresh 0 0 led) }).objs.size] := by
          rw [sz]
          simp
        have all : x.cps.toList.take x.cps.size = x.cps.toList := List.take_of_length_le (by simp)
        have kept : ((s.heap.push { cls := .type "set", dict := none, data := .set #[] 0 (.fresh 0 0 led) }).push o).get? s.heap.objs.size = some { cls := .type "set", dict := none, data := .set #[] 0 (.fresh 0 0 led) } := Heap.get?_push_of_some _ hS
        refine set_loop ((W _ calm).toS) s.heap.objs.size apart x.cps.toList (by simp) (fun i v ⟨c, u, hc, e⟩ => ⟨u, c, by rw [Array.getElem?_toList]; exact hc, e⟩) hb x.cps.size 0 _ rfl (Nat.zero_le _) st0
          (SetOf_congr ((setObjOf_fresh (knd := strKind prog w) led).setOf kept (by unfold scanBound; omega)) (fun _ => rfl) rfl) fun s' m so => ?_
        rw [all] at so
        obtain ⟨h', g', d', tk', os'⟩ := s'
        obtain rfl : g' = s.gens := m.gens
        obtain rfl : d' = s.drawn := m.drawn
        obtain rfl : os' = s.os := m.os
        refine wpAny_pure (show wpAny _ _ (ret Value.none) _ _ _ from wpAny_pure ⟨rfl, h', tk', rfl, so, fun b u lb e => ?_⟩)
        refine m.heap b u (fun z => ?_) (Heap.get?_push_of_some _ (Heap.get?_push_of_some _ e))
        rcases List.mem_cons.mp z with z | z
        · exact Nat.ne_of_lt lb z
        · rw [List.mem_singleton, sz] at z
          exact absurd (z ▸ lb) (Nat.not_lt.mpr (Nat.le_succ _))
      · cases r₂ with
        | error e => exact hr₂
        | ok fl₂ =>
          cases fl₂ with
          | ret r =>
            obtain ⟨rfl, h', tk, rfl, hS', hk'⟩ := hr₂
            repeat (any_goals (first | assumption | wp_step))
            exact h _ _ hS' hk'
          | _ => exact hr₂.elim
    | _ => exact hr.elim
end

/-! ### as rules -/
section
variable {X : Cx}
def tLenSetS (ta : TE) : TE := fun σ H Q => ta σ H fun x H1 => ∃ z : Str, x = .str z ∧ z.length ≤ 4000 ∧ Q (.int (dl z.cps.toList).length) H1
theorem r_lenSetS {σ : L2.St} {H : Hp} {Q : VK} {ta : TE} (q : ta σ H fun x H1 => ∃ z : Str, x = .str z ∧ z.length ≤ 4000 ∧ Q (.int (dl z.cps.toList).length) H1) : tLenSetS ta σ H Q := q
theorem pe_lenSetS {a : Expr} {ta : TE} {p p2 q pos : Pos} (hg : Gl X "len") (hm : X.mg "len" = none) (hg2 : Gl X "set") (hm2 : X.mg "set" = none) (ha : PE X a ta) (hc : X.calm = true := by rfl)
    (na : starEach [a] X.env = (false, eval a X.env) :: starEach [] X.env := by rfl) : PE X (.Call (.Name "len" p) [.Call (.Name "set" p2) [a] [] q] [] pos) (tLenSetS ta) := by
  refine ⟨fun pins s σ H Q I h => ?_⟩
  refine Call_ (ld_blt I hg hm boot_len ?_)
  refine PyProof.Rows.callWith_builtin1 (PyProof.Rows.args_cons ?_ rfl) rfl rfl
  refine Call_ (ld_blt I hg2 hm2 boot_set ?_)
  refine PyProof.Rows.callWith_type1 (PyProof.Rows.args_cons (thn (ha.run pins s σ H _ I h) fun v s1 ⟨x, H1, I1, r1, q1⟩ => PyProof.Rows.args_nil ?_) na) na rfl
  obtain ⟨z, rfl, h1, q1⟩ := q1
  obtain ⟨t, rfl⟩ := r1
  refine call_set_text z t (I1.ok.hd hc) (by have e : z.cps.size ≤ 4000 := h1; unfold scanBound; omega) fun h' tk hS hk => ?_
  refine PyProof.Rows.args_nil ?_
  obtain ⟨o, es, ep, t, ho, hex, hd, _, _, hb, hf, hn⟩ := hS
  have I2 : Inv X pins σ H1 { s1 with heap := h', toks := tk } := I1.kept fun b o e => hk b o (Heap.lt_size e) e
  rw [List.length_map] at hn
  have hl : (dl z.cps.toList).length ≤ 4000 := Nat.le_trans (dl_le _).1 (by rw [Array.length_toList]; exact h1)
  refine call_len_set ho hex hd hf (by rw [hn]; omega) ⟨.int (dl z.cps.toList).length, H1, I2.tok _, ⟨_, by rw [hn]⟩, q1⟩
def bListS : List V → Hp → VK → Prop := fun xs H Q => ∃ z : Str, xs = [.str z] ∧ z.length ≤ 100000 ∧ NewL H (z.cps.toList.map fun c => V.str (sing c)) Q
theorem vals_of_get : ∀ (xs : List V) (us : List Value), xs.length = us.length → (∀ (i : Nat) x u, xs[i]? = some x → us[i]? = some u → RelV x u) → Vals xs us
  | [], [], _, _ => .nil
  | [], _ :: _, h, _ => by cases h
  | _ :: _, [], h, _ => by cases h
  | x :: xs, u :: us, h, k => .cons (k 0 x u rfl rfl) (vals_of_get xs us (Nat.succ.inj h) fun i y v hy hv => k (i + 1) y v (by simpa using hy) (by simpa using hv))
theorem vals_signs {x : Str} {acc : Array Value} (h : ItemsOf (SignAt x) acc x.cps.size) : Vals (x.cps.toList.map fun c => V.str (sing c)) acc.toList := by
  refine vals_of_get _ _ (by rw [List.length_map, Array.length_toList, Array.length_toList, h.1]) fun i v u hv hu => ?_
  rw [Array.getElem?_toList] at hu
  obtain ⟨c, t, hc, rfl⟩ := h.2 i u hu
  rw [List.getElem?_map, Array.getElem?_toList, hc] at hv
  cases hv
  exact ⟨t, rfl⟩
theorem cr_listS (hc : X.calm = true := by rfl) : CallR X (.type "list") bListS := by
  intro pins s σ H xs us Q I r h
  obtain ⟨z, rfl, hl, q⟩ := h
  obtain ⟨u, e0, r0⟩ := vals1 r
  subst e0
  obtain ⟨t0, e1⟩ := (show ∃ t, u = Value.str z t from r0)
  subst e1
  refine call_list_str (I.ok.hd hc) z t0 (fun h' tk acc' c' k e hi => ?_) (le_size hl)
  have v := vals_signs hi
  have n := I.hok.fresh (Nat.le_refl s.heap.objs.size)
  have lz : (z.cps.toList.map fun c => V.str (sing c)).length ≤ sizeLine := by
    rw [List.length_map, Array.length_toList]
    exact le_size hl
  exact ⟨.ref s.heap.objs.size, upd H s.heap.objs.size (.lst (z.cps.toList.map fun c => V.str (sing c))), I.laid (t' := tk) k (Nat.le_refl _) ⟨lz, acc'.toList, c', v, by simpa using e⟩, rfl, q _ _ n (same_new n) upd_same⟩
end
end Z

/-! comprehensions whose turns leave all that stood; more walks -/
namespace Z
open PySem PySem.Spec PyProof.Rows L2
section
variable {K : PySem.W.Frag} {σ : L2.St} {H : Hp} {Q : VK} {g : TG} {tt : TT} {te : TE} {vs : List Nat} {Qd : Addr → Hp → Prop}
/-- one turn: x at place i; L: the list so far -/
def Turn1 (σ : L2.St) (g : TG) (tt : TT) (te : TE) (vs : List Nat) (L : Nat → List V) (i : Nat) (x : V) (H0 H1 : Hp) : Prop :=
  ∀ (Ky : VK) (Kn : Hp → Prop), (∀ y H4, Same H0 H4 → L (i + 1) = L i ++ [y] → Ky y H4) → (∀ H3, Same H0 H3 → L (i + 1) = L i → Kn H3) →
    g x (wipe σ vs) H1 fun σ2 H2 => wipe σ2 vs = wipe σ vs ∧ tt σ2 H2 fun b H3 => if b = true then te σ2 H3 Ky else Kn H3
theorem lc_any (J : It) (n : Nat) (L : Nat → List V) (hn : n ≤ 100000) (h0 : L 0 = []) (hl : ∀ i, (L i).length ≤ i) (go : ∀ i H', i < n → Same H H' → J.go i H') (stop : ∀ H', Same H H' → J.stop n H')
    (turn : ∀ i x H' H1, i < n → Same H H' → J.yld i H' x H1 → Turn1 σ g tt te vs L i x H' H1) (q : ∀ p H', H p = none → Same H H' → H' p = some (.lst (L n)) → Qd p H') :
    ∀ D, H D = none → ∃ W : Nat → Nat → Hp → Prop, (∃ m, W 0 m (upd H D (.lst []))) ∧ ∀ i m H, W i m H →
      (J.stop i H ∧ Qd D H) ∨ (J.go i H ∧ ∃ Nx : Hp → Prop, (∀ H', Nx H' → ∃ m', m' < m ∧ W (i + 1) m' H') ∧ ∀ x H', J.yld i H x H' → g x (wipe σ vs) H' fun σ2 H2 => wipe σ2 vs = wipe σ vs ∧ tt σ2 H2 fun b H3 =>
        if b = true then te σ2 H3 fun y H4 => ∃ acc, H4 D = some (.lst acc) ∧ acc.length < sizeLine ∧ Nx (upd H4 D (.lst (acc ++ [y]))) else Nx H3) := by
  intro D hD
  refine ⟨fun i m H' => i + m = n ∧ Same H H' ∧ H' D = some (.lst (L i)), ⟨n, Nat.zero_add n, same_new hD, by rw [h0]; exact upd_same⟩, ?_⟩
  rintro i m H' ⟨em, s, e⟩
  by_cases hi : i < n
  · refine .inr ⟨go i H' hi s, fun H'' => i + 1 + (m - 1) = n ∧ Same H H'' ∧ H'' D = some (.lst (L (i + 1))), fun H'' z => ⟨m - 1, by omega, z⟩, fun x H1 hy => ?_⟩
    refine turn i x H' H1 hi s hy _ _ (fun y H4 s4 e4 => ⟨L i, s4 _ _ e, lt_size (by have := hl i; omega), by omega, ?_, ?_⟩) (fun H3 s3 e3 => ⟨by omega, s.trans s3, by rw [e3]; exact s3 _ _ e⟩)
    · exact (but_upd (o := .lst (L i ++ [y]))).same (s.trans s4) hD
    · rw [e4]
      exact upd_same
  · have ei : i = n := by omega
    subst ei
    exact .inl ⟨stop H' s, q D H' hD s e⟩
theorem c_str {z : Str} (L : Nat → List V) (hz : z.length ≤ 100000) (h0 : L 0 = []) (hl : ∀ i, (L i).length ≤ i)
    (turn : ∀ (i c : Nat) H', z.cps.toList[i]? = some c → Same H H' → Turn1 σ g tt te vs L i (.str (sing c)) H' H') (q : ∀ p H', H p = none → Same H H' → H' p = some (.lst (L z.length)) → Qd p H') :
    ∃ x, V.str z = .str x ∧ ∀ D, H D = none → ∃ W : Nat → Nat → Hp → Prop, (∃ m, W 0 m (upd H D (.lst []))) ∧ ∀ i m H, W i m H →
      ((Its x).stop i H ∧ Qd D H) ∨ ((Its x).go i H ∧ ∃ Nx : Hp → Prop, (∀ H', Nx H' → ∃ m', m' < m ∧ W (i + 1) m' H') ∧ ∀ x_1 H', (Its x).yld i H x_1 H' → g x_1 (wipe σ vs) H' fun σ2 H2 => wipe σ2 vs = wipe σ vs ∧ tt σ2 H2 fun b H3 =>
        if b = true then te σ2 H3 fun y H4 => ∃ acc, H4 D = some (.lst acc) ∧ acc.length < sizeLine ∧ Nx (upd H4 D (.lst (acc ++ [y]))) else Nx H3) :=
  ⟨z, rfl, lc_any (Its z) z.length L hz h0 hl (fun i _ hi _ => hi) (fun _ _ => Nat.le_refl _) (fun i x H' H1 hi s ⟨e1, c, hc, e2⟩ => by
    subst e1 e2
    exact turn i c H1 (by rw [Array.getElem?_toList]; exact hc) s) q⟩
theorem c_list {a : Addr} {xs : List V} (L : Nat → List V) (ha : H a = some (.lst xs)) (hz : xs.length ≤ 100000) (h0 : L 0 = []) (hl : ∀ i, (L i).length ≤ i)
    (turn : ∀ i x H', xs[i]? = some x → Same H H' → Turn1 σ g tt te vs L i x H' H') (q : ∀ p H', H p = none → Same H H' → H' p = some (.lst (L xs.length)) → Qd p H') :
    ∃ a', V.ref a = .ref a' ∧ (∃ xs, SqL K H a' xs) ∧ ∀ D, H D = none → ∃ W : Nat → Nat → Hp → Prop, (∃ m, W 0 m (upd H D (.lst []))) ∧ ∀ i m H, W i m H →
      ((Itl K a').stop i H ∧ Qd D H) ∨ ((Itl K a').go i H ∧ ∃ Nx : Hp → Prop, (∀ H', Nx H' → ∃ m', m' < m ∧ W (i + 1) m' H') ∧ ∀ x_1 H', (Itl K a').yld i H x_1 H' → g x_1 (wipe σ vs) H' fun σ2 H2 => wipe σ2 vs = wipe σ vs ∧ tt σ2 H2 fun b H3 =>
        if b = true then te σ2 H3 fun y H4 => ∃ acc, H4 D = some (.lst acc) ∧ acc.length < sizeLine ∧ Nx (upd H4 D (.lst (acc ++ [y]))) else Nx H3) :=
  ⟨a, rfl, ⟨xs, SqL.of ha⟩, lc_any (Itl K a) xs.length L hz h0 hl (fun i H' hi s => ⟨xs, xs[i], SqL.of (s _ _ ha), List.getElem?_eq_getElem hi⟩) (fun H' s => ⟨xs, SqL.of (s _ _ ha), Nat.le_refl _⟩) (fun i x H' H1 hi s ⟨e1, f⟩ => by
    subst e1
    exact turn i x H1 (f xs (SqL.of (s _ _ ha))) s) q⟩
theorem c_range1 {n : Int} (L : Nat → List V) (h0n : 0 ≤ n) (hz : n ≤ 100000) (h0 : L 0 = []) (hl : ∀ i, (L i).length ≤ i)
    (turn : ∀ (i : Nat) H', (i : Int) < n → Same H H' → Turn1 σ g tt te vs L i (.int (i : Int)) H' H') (q : ∀ p H', H p = none → Same H H' → H' p = some (.lst (L n.toNat)) → Qd p H') :
    ∃ j : Int, [V.int n] = [.int j] ∧ -(2 ^ 62) ≤ j ∧ j < 2 ^ 62 ∧ ∀ D, H D = none → ∃ W : Nat → Nat → Hp → Prop, (∃ m, W 0 m (upd H D (.lst []))) ∧ ∀ i m H, W i m H →
      ((Itr 0 j.toNat).stop i H ∧ Qd D H) ∨ ((Itr 0 j.toNat).go i H ∧ ∃ Nx : Hp → Prop, (∀ H', Nx H' → ∃ m', m' < m ∧ W (i + 1) m' H') ∧ ∀ x_1 H', (Itr 0 j.toNat).yld i H x_1 H' → g x_1 (wipe σ vs) H' fun σ2 H2 => wipe σ2 vs = wipe σ vs ∧ tt σ2 H2 fun b H3 =>
        if b = true then te σ2 H3 fun y H4 => ∃ acc, H4 D = some (.lst acc) ∧ acc.length < sizeLine ∧ Nx (upd H4 D (.lst (acc ++ [y]))) else Nx H3) :=
  ⟨n, rfl, by omega, by omega, lc_any (Itr 0 n.toNat) n.toNat L (by omega) h0 hl (fun i _ hi _ => hi) (fun _ _ => Nat.le_refl _) (fun i x H' H1 hi s ⟨e1, e2⟩ => by
    subst e1 e2
    rw [Int.zero_add]
    exact turn i H1 (by omega) s) q⟩
theorem r_lc {wi : TI} (q : wi σ H fun J H1 => ∀ D, H1 D = none → ∃ W : Nat → Nat → Hp → Prop, (∃ m, W 0 m (upd H1 D (.lst []))) ∧ ∀ i m H, W i m H →
  (J.stop i H ∧ Q (.ref D) H) ∨ (J.go i H ∧ ∃ Nx : Hp → Prop, (∀ H', Nx H' → ∃ m', m' < m ∧ W (i + 1) m' H') ∧ ∀ x H', J.yld i H x H' → g x (wipe σ vs) H' fun σ2 H2 => wipe σ2 vs = wipe σ vs ∧ tt σ2 H2 fun b H3 =>
    if b = true then te σ2 H3 fun y H4 => ∃ acc, H4 D = some (.lst acc) ∧ acc.length < sizeLine ∧ Nx (upd H4 D (.lst (acc ++ [y]))) else Nx H3)) : tLc wi g tt te vs σ H Q := q
theorem r_iStr {R : It → Hp → Prop} (q : te σ H fun v H1 => ∃ x, v = .str x ∧ R (Its x) H1) : iStr te σ H R := q
end
section
variable {K : PySem.W.Frag} {σ : L2.St} {H : Hp} {g : TG} {tb : TS} {nx : L2.St → Hp → Prop} {rt : VK}
theorem f_str {z : Str} (Pv : Nat → L2.St → Hp → Prop) (h0 : Pv 0 σ H)
    (hs : ∀ (i c : Nat) σ H, z.cps.toList[i]? = some c → Pv i σ H → g (.str (sing c)) σ H fun σ2 H2 => tb ⟨Pv (i + 1), rt, nx, Pv (i + 1)⟩ σ2 H2) (hd : ∀ σ H, Pv z.length σ H → nx σ H) :
    ∃ x, V.str z = .str x ∧ ∃ W : Nat → Nat → L2.St → Hp → Prop, (∃ m, W 0 m σ H) ∧ ∀ i m σ H, W i m σ H →
      ((Its x).stop i H ∧ nx σ H) ∨ ((Its x).go i H ∧ ∃ N : L2.St → Hp → Prop, (∀ σ' H', N σ' H' → ∃ m', m' < m ∧ W (i + 1) m' σ' H') ∧ ∀ x_1 H', (Its x).yld i H x_1 H' → g x_1 σ H' fun σ2 H2 => tb ⟨N, rt, nx, N⟩ σ2 H2) := by
  refine ⟨z, rfl, fun i m σ H => i + m = z.length ∧ Pv i σ H, ⟨z.length, Nat.zero_add _, h0⟩, ?_⟩
  rintro i m σ H ⟨em, p⟩
  by_cases hi : i < z.length
  · refine .inr ⟨hi, Pv (i + 1), fun σ' H' p' => ⟨m - 1, by omega, by omega, p'⟩, ?_⟩
    rintro x H' ⟨rfl, c, hc, rfl⟩
    exact hs i c σ H' (by rw [Array.getElem?_toList]; exact hc) p
  · have ei : i = z.length := by omega
    subst ei
    exact .inl ⟨Nat.le_refl _, hd σ H p⟩
/-- for i, x in enumerate(xs) -/
theorem f_enum {a : Addr} {xs : List V} (h : H a = some (.lst xs)) (Pv : Nat → L2.St → Hp → Prop) (h0 : Pv 0 σ H) (hl : ∀ i σ H, i ≤ xs.length → Pv i σ H → H a = some (.lst xs))
    (hs : ∀ i x σ H T H', xs[i]? = some x → Pv i σ H → H T = none → Same H H' → H' T = some (.tup [.int (i : Nat), x]) → g (.ref T) σ H' fun σ2 H2 => tb ⟨Pv (i + 1), rt, nx, Pv (i + 1)⟩ σ2 H2) (hd : ∀ σ H, Pv xs.length σ H → nx σ H) :
    ∃ (a' : Addr) (xs' : List V), [V.ref a] = [.ref a'] ∧ SqL K H a' xs' ∧ ∃ W : Nat → Nat → L2.St → Hp → Prop, (∃ m, W 0 m σ H) ∧ ∀ i m σ H, W i m σ H →
      ((Ite K a').stop i H ∧ nx σ H) ∨ ((Ite K a').go i H ∧ ∃ N : L2.St → Hp → Prop, (∀ σ' H', N σ' H' → ∃ m', m' < m ∧ W (i + 1) m' σ' H') ∧ ∀ x_1 H', (Ite K a').yld i H x_1 H' → g x_1 σ H' fun σ2 H2 => tb ⟨N, rt, nx, N⟩ σ2 H2) := by
  refine ⟨a, xs, rfl, SqL.of h, fun i m σ H => i + m = xs.length ∧ Pv i σ H, ⟨xs.length, Nat.zero_add _, h0⟩, ?_⟩
  rintro i m σ H ⟨em, p⟩
  by_cases hi : i < xs.length
  · have ha := hl i σ H (by omega) p
    refine .inr ⟨⟨xs, xs[i], SqL.of ha, List.getElem?_eq_getElem hi⟩, Pv (i + 1), fun σ' H' p' => ⟨m - 1, by omega, by omega, p'⟩, ?_⟩
    rintro x H' ⟨T, y, rfl, hT, rfl, f⟩
    exact hs i y σ H T _ (f xs (SqL.of ha)) p hT (same_new hT) upd_same
  · have ei : i = xs.length := by omega
    subst ei
    exact .inl ⟨⟨xs, SqL.of (hl _ σ H (Nat.le_refl _) p), Nat.le_refl _⟩, hd σ H p⟩
theorem r_iEnum {ta : TA} {R : It → Hp → Prop} (q : ta σ H fun vs H1 => ∃ a xs, vs = [.ref a] ∧ SqL K H1 a xs ∧ R (Ite K a) H1) : iEnum K ta σ H R := q
end
/-! ### a list that is read: the script too -/
section
variable {K : PySem.W.Frag} {σ : L2.St} {H : Hp} {Q : VK} {a : Addr} {xs : List V} {g : TG} {tb : TS} {nx : L2.St → Hp → Prop} {rt : VK}
theorem f_listQ (h : SqL K H a xs) (Pv : Nat → L2.St → Hp → Prop) (h0 : Pv 0 σ H) (hl : ∀ i σ H, i ≤ xs.length → Pv i σ H → SqL K H a xs)
    (hs : ∀ i x σ H, xs[i]? = some x → Pv i σ H → g x σ H fun σ2 H2 => tb ⟨Pv (i + 1), rt, nx, Pv (i + 1)⟩ σ2 H2) (hd : ∀ σ H, Pv xs.length σ H → nx σ H) :
    ∃ a', V.ref a = .ref a' ∧ (∃ xs, SqL K H a' xs) ∧ ∃ W : Nat → Nat → L2.St → Hp → Prop, (∃ m, W 0 m σ H) ∧ ∀ i m σ H, W i m σ H →
      ((Itl K a').stop i H ∧ nx σ H) ∨ ((Itl K a').go i H ∧ ∃ N : L2.St → Hp → Prop, (∀ σ' H', N σ' H' → ∃ m', m' < m ∧ W (i + 1) m' σ' H') ∧ ∀ x H', (Itl K a').yld i H x H' → g x σ H' fun σ2 H2 => tb ⟨N, rt, nx, N⟩ σ2 H2) :=
  ⟨a, rfl, ⟨xs, h⟩, for_list (K := K) (D := ⟨nx, rt, fun _ _ => False, fun _ _ => False⟩) Pv h0 hl hs hd⟩
theorem r_lenQ (h : SqL K H a xs) (q : Q (.int xs.length) H) : bLen K [.ref a] H Q := ⟨_, _, rfl, .inl ⟨_, h, rfl⟩, q⟩
theorem r_listQ (h : SqL K H a xs) (q : NewL H xs Q) : bListN K [.ref a] H Q := ⟨a, xs, rfl, .inl h, q⟩
end
/-! ### a comprehension by an invariant of one's own -/
section
variable {σ : L2.St} {H : Hp} {g : TG} {tt : TT} {te : TE} {vs : List Nat} {Qd : Addr → Hp → Prop}
theorem c_range1G {n : Int} (h0n : 0 ≤ n) (hz : n ≤ 100000) (Pv : Addr → Nat → Hp → Prop) (h0 : ∀ D H', H D = none → Same H H' → H' D = some (.lst []) → Pv D 0 H')
    (hs : ∀ D (i : Nat) H', (i : Int) < n → H D = none → Pv D i H' → g (.int (i : Int)) (wipe σ vs) H' fun σ2 H2 => wipe σ2 vs = wipe σ vs ∧ tt σ2 H2 fun b H3 =>
      if b = true then te σ2 H3 fun y H4 => ∃ acc, H4 D = some (.lst acc) ∧ acc.length < sizeLine ∧ Pv D (i + 1) (upd H4 D (.lst (acc ++ [y]))) else Pv D (i + 1) H3)
    (hd : ∀ D H', H D = none → Pv D n.toNat H' → Qd D H') :
    ∃ j : Int, [V.int n] = [.int j] ∧ -(2 ^ 62) ≤ j ∧ j < 2 ^ 62 ∧ ∀ D, H D = none → ∃ W : Nat → Nat → Hp → Prop, (∃ m, W 0 m (upd H D (.lst []))) ∧ ∀ i m H, W i m H →
      ((Itr 0 j.toNat).stop i H ∧ Qd D H) ∨ ((Itr 0 j.toNat).go i H ∧ ∃ Nx : Hp → Prop, (∀ H', Nx H' → ∃ m', m' < m ∧ W (i + 1) m' H') ∧ ∀ x_1 H', (Itr 0 j.toNat).yld i H x_1 H' → g x_1 (wipe σ vs) H' fun σ2 H2 => wipe σ2 vs = wipe σ vs ∧ tt σ2 H2 fun b H3 =>
        if b = true then te σ2 H3 fun y H4 => ∃ acc, H4 D = some (.lst acc) ∧ acc.length < sizeLine ∧ Nx (upd H4 D (.lst (acc ++ [y]))) else Nx H3) :=
  ⟨n, rfl, by omega, by omega, fun D hD => lc_range (lo := 0) (n := n.toNat) (Pv D) (h0 D _ hD (same_new hD) upd_same) (fun i H' hi p => by
    rw [Int.zero_add]
    exact hs D i H' (by omega) hD p) fun H' p => hd D H' hD p⟩
end
end Z

/-! for x in reversed(text); text.index(sign); xs.insert(i, y); while -/
namespace Z
open PySem PySem.Spec PyProof.Rows L2
theorem norev_str : typeLookup (.type "str") "__reversed__" = pure none := by rw [typeLookup_type, builtinLookup_eq_fast]; kernel_rfl
theorem get_str : typeLookup (.type "str") "__getitem__" = pure (some (.builtin "str.__getitem__")) := by rw [typeLookup_type, builtinLookup_eq_fast]; kernel_rfl
def rsObj (x : Str) (t : Tok) (i : Int) : Obj := { cls := .type "reversed", data := .fields #[.str x t, rawInt i] }
/-- reversed(x), the next place i -/
def IsRs (h : Heap) (a : Addr) (x : Str) (t : Tok) (i : Int) : Prop := ∃ o, h.get? a = some o ∧ o.cls = .type "reversed" ∧ o.data = .fields #[.str x t, rawInt i]
theorem IsRs.at {h h' : Heap} {a : Addr} {x : Str} {t : Tok} {i : Int} (y : IsRs h a x t i) (e : ∀ o, h.get? a = some o → h'.get? a = some o) : IsRs h' a x t i := let ⟨o, ho, r⟩ := y; ⟨o, e _ ho, r⟩
section
variable {prog : Program} {w : World} {A : Around} {E : Value → Shared → Prop} {s : Shared}
theorem IsRs.typeIs {a : Addr} {x : Str} {t : Tok} {i : Int} (y : IsRs s.heap a x t i) : s.TypeIs (.ref a) "reversed" := let ⟨o, ho, hc, _⟩ := y; ⟨o, ho, hc⟩
theorem code_reversed_str {x : Str} {t : Tok} {Q₁ : Value → Shared → Prop}
    (hlen : ∀ (A : Around) (E : Value → Shared → Prop) (Q : Value → Shared → Prop), Q (.int x.length (s.toks + 1)) { s with toks := s.toks + 1 + 1 } → wpAny (model prog w) A (call (.builtin "len") [.str x t]) Q E s)
    (h : Q₁ (.ref s.heap.objs.size) { s with heap := s.heap.push (rsObj x t ((x.length : Int) - 1)), toks := s.toks + 1 + 1 }) :
    codeAny (model prog w) A (.call (.builtin "reversed.__new__") ⟨[.type "reversed", .str x t], []⟩) (wants Q₁ E) s := by
  have hT : s.TypeIs (.str x t) "str" := typeIs_str s x t
  refine codeAny_of_tree ?_
  show wpAny _ A.in1 (do checkBuiltinCall "reversed.__new__" ⟨[.type "reversed", .str x t], []⟩; again (.builtin "reversed.__new__" ⟨[.type "reversed", .str x t], []⟩)) _ _ s
  refine wpAny_bind (wpAny_of_eq (F.newCall_reversed_1 _) (wpAny_pure ⟨plainId_quiet F.plain_reversed_new _, codeAny_builtin F.entry_reversed_new ?_⟩))
  rw [Around.under_plainId F.plain_reversed_new _]
  unfold Builtin.«reversed.__new__»
  refine wpAny_bind (wpAny_of_eq (newClass_reversed _) ?_)
  try dsimp only
  refine wpAny_bind (wpAny_of_eq (a := ()) (by first | rfl | kernel_rfl) ?_)
  try dsimp only
  refine wpAny_bind (wpAny_of_eq (a := ()) (by first | rfl | kernel_rfl) ?_)
  try dsimp only
  refine wpAny_bind (wpAny_specialOf hT norev_str ?_)
  try dsimp only
  refine wpAny_bind ?_
  wp_delta
  refine wpAny_bind (wpAny_isInstance (T := "str") (U := "dict") (b := false) hT PySem.F.sub_str_dict ?_)
  try dsimp only
  try rw [if_neg Bool.false_ne_true]
  try dsimp only
  refine wpAny_bind (wpAny_specialOf hT get_str ?_)
  try dsimp only
  try rw [if_pos (by decide +kernel)]
  refine wpAny_pure ?_
  try dsimp only
  try rw [if_neg (by decide)]
  try dsimp only
  refine wpAny_bind (hlen _ _ _ ?_)
  refine wpAny_bind (wpAny_of_eq (a := some ((x.length : Nat) : Int)) rfl ?_)
  try dsimp only
  refine wpAny_bind ?_
  show wpAny _ _ (newObj (.type "reversed") (.fields #[.str x t, rawInt ((x.length : Int) - 1)])) _ _ _
  refine wpAny_newObj_type ?_
  exact wpAny_pure h
theorem call_reversed_str {x : Str} {t : Tok} {Q : Value → Shared → Prop}
    (hlen : ∀ (A : Around) (E : Value → Shared → Prop) (Q : Value → Shared → Prop), Q (.int x.length (s.toks + 1)) { s with toks := s.toks + 1 + 1 } → wpAny (model prog w) A (call (.builtin "len") [.str x t]) Q E s)
    (h : Q (.ref s.heap.objs.size) { s with heap := s.heap.push (rsObj x t ((x.length : Int) - 1)), toks := s.toks + 1 + 1 }) : wpAny (model prog w) A (call (.type "reversed") [.str x t]) Q E s := by
  refine callType_codes (Q₁ := fun obj s₁ => s₁.TypeIs obj "reversed" ∧ Q obj s₁) RT.called_rt (F.typeCall_reversed_1 _) F.entry_object_init
    (code_reversed_str (A := A.in1) hlen ⟨⟨_, Heap.get?_push_size _ rfl, rfl⟩, h⟩) fun obj s₁ h₁ => ?_
  exact ⟨h₁.1, F.args_object_init_2 obj _, object_init_meets RT.called_rt.init.lookup RT.called_rt.made (by decide) prog w A.in1 _ s₁ ⟨h₁.1, rfl, h₁.2⟩⟩
theorem next_rs_item {it : Addr} {x : Str} {t : Tok} {i : Nat} {c : Nat} {Q : Option Value → Shared → Prop} (hit : IsRs s.heap it x t (i : Int)) (hx : x.cps[i]? = some c) (hsz : x.length ≤ sizeLine)
    (hQ : ∀ h', IsRs h' it x t ((i : Int) - 1) → Heap.SameBut it s.heap h' → Q (some (.str ⟨#[c]⟩ (s.toks + 1))) { s with heap := h', toks := s.toks + 1 + 1 }) : wpAny (model prog w) A (pyNext (.ref it)) Q E s := by
  obtain ⟨o, ho, hc, hd⟩ := id hit
  have hi : i < x.cps.size := (Array.getElem?_eq_some_iff.mp hx).1
  have hT : s.TypeIs (.str x t) "str" := typeIs_str s x t
  rw [sizeLine_eq] at hsz
  have hs2 : x.length = x.cps.size := rfl
  unfold pyNext
  refine wpAny_bind (wpAny_attempt (wpAny_callSpecial?_slot (name := Str.ofString "__next__") hit.typeIs RT.slot_rt_next
    (wpAny_call_entry RT.slot_rt_next hit.typeIs RT.entry_rt_next ?_ (RT.args_rt_next _))))
  unfold Builtin.«reversed.__next__»
  refine wpAny_bind (wpAny_of_eq (a := (Value.ref it, [])) rfl ?_)
  try dsimp only
  refine wpAny_bind (wpAny_field ho hd (x := .str x t) rfl ?_)
  try dsimp only
  refine wpAny_bind (wpAny_field ho hd (x := rawInt (i : Int)) rfl ?_)
  show wpAny _ _ (if (i : Int) < 0 then _ else _) _ _ s
  rw [if_neg (by omega)]
  try dsimp only
  refine wpAny_bind (wpAny_specialOf hT get_str ?_)
  try dsimp only
  try rw [if_neg (by decide)]
  try dsimp only
  refine wpAny_bind (wpAny_mkInt ?_)
  refine wpAny_bind (wpAny_attempt ?_)
  have fin : seqIndex? (i : Int) x.length = some i := seqIndex_of (by omega) (by omega)
  refine PyProof.Rows.getItem_str (s := { s with toks := s.toks + 1 }) (by rw [decide_eq_false (by omega), decide_eq_false (by omega)]; rfl) (by rw [fin]; exact hx) ?_
  try dsimp only
  refine wpAny_bind (wpAny_field (s := { s with toks := s.toks + 1 + 1 }) ho hd (x := rawInt (i : Int)) rfl ?_)
  try dsimp only
  refine wpAny_bind (wpAny_setField (s := { s with toks := s.toks + 1 + 1 }) ho hd (by simp) ?_)
  first
  | refine wpAny_pure ⟨_, rfl, wpAny_pure (hQ _ ?_ (Heap.SameBut.update ..))⟩
  | refine wpAny_bind (wpAny_pure (wpAny_pure ⟨_, rfl, wpAny_pure (hQ _ ?_ (Heap.SameBut.update ..))⟩))
  exact ⟨_, Heap.get?_update_self _ ho (Obj.isFreed_of_fields (Obj.data_mapFields hd _)), (Obj.cls_mapFields ..).trans hc, by
    rw [Obj.data_mapFields hd]; simp⟩
theorem next_rs_end {it : Addr} {x : Str} {t : Tok} {Q : Option Value → Shared → Prop} (hh : A.handled = none) (hit : IsRs s.heap it x t (-1))
    (hQ : ∀ h', Heap.ExtBut it s.heap h' → Q none { s with heap := h' }) : wpAny (model prog w) A (pyNext (.ref it)) Q E s := by
  obtain ⟨o, ho, hc, hd⟩ := id hit
  unfold pyNext
  refine wpAny_bind (wpAny_attempt (wpAny_callSpecial?_slot (name := Str.ofString "__next__") hit.typeIs RT.slot_rt_next
    (wpAny_call_entry RT.slot_rt_next hit.typeIs RT.entry_rt_next ?_ (RT.args_rt_next _))))
  unfold Builtin.«reversed.__next__»
  refine wpAny_bind (wpAny_of_eq (a := (Value.ref it, [])) rfl ?_)
  try dsimp only
  refine wpAny_bind (wpAny_field ho hd (x := .str x t) rfl ?_)
  try dsimp only
  refine wpAny_bind (wpAny_field ho hd (x := rawInt (-1)) rfl ?_)
  show wpAny _ _ (if (-1 : Int) < 0 then _ else _) _ _ s
  rw [if_pos (by decide)]
  try dsimp only
  refine wpAny_bind (wpAny_rule ?_)
  refine wpAny_bind ?_
  wp_delta
  refine wpAny_bind (wpAny_setField ho hd (by simp) ?_)
  have ho2 := Heap.get?_update_self (Obj.mapFields (·.setIfInBounds 1 (rawInt (-1)))) ho (Obj.isFreed_of_fields (Obj.data_mapFields hd _))
  refine wpAny_setField (s := { s with heap := s.heap.update it (Obj.mapFields (·.setIfInBounds 1 (rawInt (-1)))) }) ho2 (Obj.data_mapFields hd _) (by simp) ?_
  try dsimp only
  first
  | show wpAny _ _ (newExc (.type "StopIteration") [] >>= _) _ _ _
  | (refine wpAny_bind ?_; show wpAny _ _ (newExc (.type "StopIteration") [] >>= _) _ _ _)
  | (refine wpAny_bind ?_; wp_delta; show wpAny _ _ (newExc (.type "StopIteration") [] >>= _) _ _ _)
  refine wpAny_bind ?_
  simp only [newExc, newTuple]
  refine wpAny_bind (wpAny_newObj_type ?_ (by size_fits))
  refine wpAny_bind (m := firstArgMember _ _) (wpAny_of_eq (a := Value.none) (by first | rfl | (simp only [firstArgMember]; rfl)) ?_)
  refine wpAny_newObj_type ?_ (by size_fits)
  simp only [raiseNew]
  refine wpAny_bind (wpAny_handled ?_)
  first | rw [show A.in1.handled = none from hh] | rw [hh]
  refine wpAny_bind (wpAny_pure (wpAny_throw ?_))
  refine wpAny_bind (wpAny_isInstance (T := "StopIteration") (b := true) ⟨_, Heap.get?_push_size _ rfl, rfl⟩ isSubtype_stop ?_)
  refine wpAny_pure (hQ _ ?_)
  refine ((?_ : Heap.ExtBut it s.heap _).push _).push _
  exact fun b ob hb e => (Heap.get?_update_other _ _ (Ne.symm hb)).trans ((Heap.get?_update_other _ _ (Ne.symm hb)).trans e)
theorem iter_rs {it : Addr} {x : Str} {t : Tok} {i : Int} {Q : Value → Shared → Prop} (hit : IsRs s.heap it x t i) (h : Q (.ref it) s) : wpAny (model prog w) A (pyIter (.ref it)) Q E s := by
  refine wpAny_pyIter_slot hit.typeIs RT.slot_rt_iter (wpAny_call_entry RT.slot_rt_iter hit.typeIs RT.entry_rt_iter ?_ (RT.args_rt_iter _))
  show wpAny _ _ (ret (.ref it)) _ _ s
  exact wpAny_pure ⟨_, rfl, "reversed", _, hit.typeIs, RT.slot_rt_next.lookup, h⟩
end
/-! ### as a rule -/
def Itrs (x : Str) : It := ⟨fun i _ => i < x.cps.size, fun i H v H' => H' = H ∧ ∃ c, x.cps[x.cps.size - 1 - i]? = some c ∧ v = .str ⟨#[c]⟩, fun i _ => x.cps.size ≤ i⟩
theorem turn_rs {P : Program} {w : World} {K : PySem.W.Frag} {tg : Expr} (it : Addr) (x : Str) (t : Tok) (hz : x.length ≤ sizeLine) :
    Turn P w K tg (Itrs x) [it] it (fun i h => i ≤ x.cps.size ∧ IsRs h it x t ((x.cps.size : Int) - 1 - (i : Nat))) where
  mem := by simp
  obj := fun i h st b hb => by
    have e : b = it := by simpa using hb
    subst e
    obtain ⟨_, o, e, c, d⟩ := st
    exact ⟨o, e, fun v z => by rw [d] at z; cases z⟩
  keep := fun i h h' st k => ⟨st.1, st.2.at fun o e => k it (by simp) o e⟩
  item := by
    intro X hP hw hK hc i pins s σ H E I hf st hg
    subst hP hw hK
    have hin : i < x.cps.size := hg
    obtain ⟨f0, f1, f2, f3, f4, f5⟩ := hf it (by simp)
    obtain ⟨_, hit⟩ := st
    have e1 : (x.cps.size : Int) - 1 - ((i : Nat) : Int) = ((x.cps.size - 1 - i : Nat) : Int) := by omega
    rw [e1] at hit
    obtain ⟨c, hx⟩ : ∃ c, x.cps[x.cps.size - 1 - i]? = some c := ⟨_, Array.getElem?_eq_getElem (by omega)⟩
    refine next_rs_item hit hx hz fun h' st' sb => ?_
    have e2 : ((x.cps.size - 1 - i : Nat) : Int) - 1 = (x.cps.size : Int) - 1 - ((i + 1 : Nat) : Int) := by omega
    rw [e2] at st'
    have I1 : Inv X pins σ H { s with heap := h', toks := s.toks + 1 + 1 } := I.turned (t' := s.toks + 1 + 1) (fun b o hb e => (sb.2 b hb).trans e) f0 f1 f3 f4 f5
    obtain ⟨o, e, cc, d⟩ := id st'
    exact ⟨_, rfl, go_of (s := { s with heap := h', toks := s.toks + 1 + 1 }) e cc d (by decide) ⟨.str ⟨#[c]⟩, H, I1, ⟨_, rfl⟩, ⟨rfl, c, hx, rfl⟩, ⟨hin, st'⟩, fun b hb => (hf b hb).1⟩⟩
  done := by
    intro X hP hw hK hc i pins s σ H E I hf st hg
    subst hP hw hK
    obtain ⟨f0, f1, f2, f3, f4, f5⟩ := hf it (by simp)
    obtain ⟨hin, hit⟩ := st
    have hge : x.cps.size ≤ i := hg
    have e1 : (x.cps.size : Int) - 1 - ((i : Nat) : Int) = -1 := by omega
    rw [e1] at hit
    exact next_rs_end (I.ok.hd hc) hit fun h' eb => ⟨rfl, I.turned (t' := s.toks) (fun b o hb e => eb b o hb e) f0 f1 f3 f4 f5⟩
  self := fun A i s Q E st h => iter_rs st.2 h
def iRevS (ta : TA) : TI := fun σ H R => ta σ H fun vs H1 => ∃ x, vs = [.str x] ∧ x.length ≤ 100000 ∧ R (Itrs x) H1
section
variable {X : Cx} {tg : Expr}
theorem pi_revS {e : Expr} {ta : TA} {p pos : Pos} (hg : Gl X "reversed") (hm : X.mg "reversed" = none) (ha : PA X [e] ta) (hs : starEach [e] X.env = [(false, eval e X.env)] := by rfl) : PI X tg (.Call (.Name "reversed" p) [e] [] pos) (iRevS ta) := by
  refine ⟨fun pins s σ H R I h => ?_⟩
  refine Call_ (ld_blt I hg hm PyProof.Rows.boot_reversed (PyProof.Rows.callWith_type1 (thn (ha.run pos pins s σ H _ I h) fun us s1 ⟨vs, H1, I1, r1, q1⟩ => ?_) hs rfl))
  obtain ⟨x, e, hz, q⟩ := q1
  subst e
  cases r1 with
  | cons r rr =>
    cases rr
    obtain ⟨t, rfl⟩ := r
    have hn := line63
    have hz' : x.length ≤ sizeLine := le_size hz
    have e1 : ((x.length : Nat) : Int) - 1 = (x.cps.size : Int) - 1 - ((0 : Nat) : Int) := by show ((x.cps.size : Nat) : Int) - 1 = _; omega
    refine call_reversed_str (fun A E Q k => PyProof.Rows.len_str (by omega) k) (iter_rs (i := ((x.length : Nat) : Int) - 1) ⟨_, Heap.get?_push_size _ rfl, rfl, rfl⟩ ?_)
    refine pi_one (tk := s1.toks + 1 + 1) I1 _ (turn_rs _ x t hz') ⟨Nat.zero_le _, ?_⟩ q
    rw [← e1]
    exact ⟨_, Heap.get?_push_size _ rfl, rfl, rfl⟩
end
section
variable {σ : L2.St} {H : Hp} {g : TG} {tb : TS} {nx : L2.St → Hp → Prop} {rt : VK}
theorem r_iRevS {ta : TA} {R : It → Hp → Prop} (q : ta σ H fun vs H1 => ∃ x, vs = [.str x] ∧ x.length ≤ 100000 ∧ R (Itrs x) H1) : iRevS ta σ H R := q
/-- Pv i: the last i signs are done -/
theorem f_revS {z : Str} (hz : z.length ≤ 100000) (Pv : Nat → L2.St → Hp → Prop) (h0 : Pv 0 σ H)
    (hs : ∀ (i c : Nat) σ H, i < z.length → z.cps.toList[z.length - 1 - i]? = some c → Pv i σ H → g (.str (sing c)) σ H fun σ2 H2 => tb ⟨Pv (i + 1), rt, nx, Pv (i + 1)⟩ σ2 H2) (hd : ∀ σ H, Pv z.length σ H → nx σ H) :
    ∃ x, [V.str z] = [V.str x] ∧ x.length ≤ 100000 ∧ ∃ W : Nat → Nat → L2.St → Hp → Prop, (∃ m, W 0 m σ H) ∧ ∀ i m σ H, W i m σ H →
      ((Itrs x).stop i H ∧ nx σ H) ∨ ((Itrs x).go i H ∧ ∃ N : L2.St → Hp → Prop, (∀ σ' H', N σ' H' → ∃ m', m' < m ∧ W (i + 1) m' σ' H') ∧ ∀ x_1 H', (Itrs x).yld i H x_1 H' → g x_1 σ H' fun σ2 H2 => tb ⟨N, rt, nx, N⟩ σ2 H2) := by
  refine ⟨z, rfl, hz, fun i m σ H => i + m = z.length ∧ Pv i σ H, ⟨z.length, Nat.zero_add _, h0⟩, ?_⟩
  rintro i m σ H ⟨em, p⟩
  by_cases hi : i < z.length
  · refine .inr ⟨hi, Pv (i + 1), fun σ' H' p' => ⟨m - 1, by omega, by omega, p'⟩, ?_⟩
    rintro x H' ⟨rfl, c, hc, rfl⟩
    exact hs i c σ H' hi (by rw [Array.getElem?_toList]; exact hc) p
  · have ei : i = z.length := by omega
    subst ei
    exact .inl ⟨Nat.le_refl _, hd σ H p⟩
/-- while: Pv m, m what is left -/
theorem r_while {tc : TT} {D : Ends} (Pv : Nat → L2.St → Hp → Prop) (m : Nat) (h0 : Pv m σ H)
    (hs : ∀ m σ H, Pv m σ H → tc σ H fun b H1 => if b = true then ∃ N : L2.St → Hp → Prop, (∀ σ' H', N σ' H' → ∃ m', m' < m ∧ Pv m' σ' H') ∧ tb { D with nx := N, ct := N, bk := D.nx } σ H1 else D.nx σ H1) : tWhile tc tb D σ H :=
  ⟨Pv, ⟨m, h0⟩, hs⟩
end
/-! ### enumerate(text) -/
def Ites (x : Str) : It :=
  ⟨fun i _ => i < x.cps.size, fun i H v H' => ∃ T c, v = .ref T ∧ H T = none ∧ H' = upd H T (.tup [.int (i : Nat), .str ⟨#[c]⟩]) ∧ x.cps[i]? = some c, fun i _ => x.cps.size ≤ i⟩
theorem turn_enumS {P : Program} {w : World} {K : PySem.W.Frag} {elts : List Expr} {kk : Nat} {tpos : Pos} (x : Str) (t : Tok) (e it : Addr) (ty : String) (hty : ty = "str_ascii_iterator" ∨ ty = "str_iterator") :
    Turn P w K (.Tuple elts kk tpos) (Ites x) [e, it] e (fun i h => (∃ old, IsEnum h e it ((i : Nat) : Int) old) ∧ (h.IsStrIter it ty x t i ∧ i ≤ x.cps.size) ∧ e ≠ it) where
  mem := by simp
  obj := fun i h st b hb => by
    obtain ⟨⟨old, he⟩, ⟨⟨o, ho, hc, hd⟩, _⟩, _⟩ := st
    have e' : b = e ∨ b = it := by simpa using hb
    rcases e' with z | z
    · rw [z]; exact ⟨_, he, fun v q => nomatch q⟩
    · rw [z]; exact ⟨o, ho, fun v q => by rw [hd] at q; cases q⟩
  keep := fun i h h' st k => by
    obtain ⟨⟨old, he⟩, ⟨⟨o, ho, r⟩, hl⟩, hne⟩ := st
    exact ⟨⟨old, k e (by simp) _ he⟩, ⟨⟨o, k it (by simp) o ho, r⟩, hl⟩, hne⟩
  item := by
    intro X hP hw hK hc i pins s σ H E I hf st hg
    subst hP hw hK
    obtain ⟨⟨old, he⟩, ⟨hit, _⟩, hne⟩ := st
    have hin : i < x.cps.size := hg
    have D : Draws X.prog X.w X.A.in1 it [it] x.cps.size (SignAt x) (fun i h => h.IsStrIter it ty x t i) := by
      rcases hty with z | z
      · rw [z]; exact Draws.strAscii (show X.A.in1.handled = none from I.ok.hd hc) it x t
      · rw [z]; exact Draws.strWide (show X.A.in1.handled = none from I.ok.hd hc) it x t
    have hel : e < s.heap.objs.size := Heap.lt_size he
    have hil : it < s.heap.objs.size := by obtain ⟨_, q, _⟩ := hit; exact Heap.lt_size q
    refine wpAny_pyNext_enum_itemD D he hit hin hne (by simpa using hne) fun u h' tk hP ho hit' hT hsz hk => ?_
    obtain ⟨c, t2, hcx, rfl⟩ := hP
    refine ⟨_, rfl, wpAny_letOwnedTupleGo_enum (s := { s with heap := h', toks := tk + 1 }) ho fun h'' he' sb => ?_⟩
    have hT2 : h''.get? s.heap.objs.size = some { cls := .type "tuple", data := .seq #[.int i tk, .str ⟨#[c]⟩ t2] } := (sb.2 _ (Nat.ne_of_gt hel)).trans hT
    have new : ObjOk X.prog X.w (upd H s.heap.objs.size (.tup [.int (i : Nat), .str ⟨#[c]⟩])) h'' s.heap.objs.size (.tup [.int (i : Nat), .str ⟨#[c]⟩]) :=
      ⟨by show 2 ≤ sizeLine; decide, [.int i tk, .str ⟨#[c]⟩ t2], .cons ⟨_, rfl⟩ (.cons ⟨_, rfl⟩ .nil), ⟨_, hT2, rfl, _, rfl⟩⟩
    have I1 : Inv X pins σ (upd H s.heap.objs.size (.tup [.int (i : Nat), .str ⟨#[c]⟩])) { s with heap := h'', toks := tk + 1 } :=
      I.turnedNew (ch := [e, it]) (fun b ob hb q => (sb.2 b (fun z => hb (by simp [z]))).trans (hk b ob (fun z => hb (by simp [z])) (fun z => hb (by simp [z])) q)) hf (Nat.le_refl _) new
    have hit2 : h''.IsStrIter it ty x t (i + 1) := by
      obtain ⟨o, q, r⟩ := hit'
      exact ⟨o, (sb.2 it (Ne.symm hne)).trans q, r⟩
    refine ⟨.ref s.heap.objs.size, _, I1, rfl, ⟨_, c, rfl, I.hok.fresh (Nat.le_refl _), rfl, hcx⟩, ⟨⟨.str ⟨#[c]⟩ t2, ?_⟩, ⟨hit2, hin⟩, hne⟩, fun b hb => ?_⟩
    · have e1 : ((i + 1 : Nat) : Int) = (i : Int) + 1 := by omega
      rw [e1]; exact he'
    · have hb' : b < s.heap.objs.size := by
        have e' : b = e ∨ b = it := by simpa using hb
        rcases e' with z | z
        · rw [z]; exact hel
        · rw [z]; exact hil
      rw [upd_ne (Nat.ne_of_lt hb')]
      exact (hf b hb).1
  done := by
    intro X hP hw hK hc i pins s σ H E I hf st hg
    subst hP hw hK
    obtain ⟨⟨old, he⟩, ⟨hit, hle⟩, hne⟩ := st
    have D : Draws X.prog X.w X.A.in1 it [it] x.cps.size (SignAt x) (fun i h => h.IsStrIter it ty x t i) := by
      rcases hty with z | z
      · rw [z]; exact Draws.strAscii (show X.A.in1.handled = none from I.ok.hd hc) it x t
      · rw [z]; exact Draws.strWide (show X.A.in1.handled = none from I.ok.hd hc) it x t
    obtain ⟨f0, f1, f2, f3, f4, f5⟩ := hf it (by simp)
    have ei : i = x.cps.size := Nat.le_antisymm hle hg
    subst ei
    exact wpAny_pyNext_enum_endD D he hit fun h' eb => ⟨rfl, I.turned (t' := s.toks) (fun b o hb q => eb b o hb q) f0 f1 f3 f4 f5⟩
  self := fun A i s Q E st h => let ⟨⟨_, he⟩, _⟩ := st; wpAny_pyIter_enum he h
def iEnumS (ta : TA) : TI := fun σ H R => ta σ H fun vs H1 => ∃ x, vs = [.str x] ∧ R (Ites x) H1
theorem pi_enumS {X : Cx} {e : Expr} {ta : TA} {p pos tpos : Pos} {elts : List Expr} {kk : Nat} (hg : Gl X "enumerate") (hm : X.mg "enumerate" = none) (ha : PA X [e] ta) (hs : starEach [e] X.env = [(false, eval e X.env)] := by rfl) :
    PI X (.Tuple elts kk tpos) (.Call (.Name "enumerate" p) [e] [] pos) (iEnumS ta) := by
  refine ⟨fun pins s σ H R I h => ?_⟩
  refine Call_ (ld_blt I hg hm boot_enumerate (PyProof.Rows.callWith_type1 (thn (ha.run pos pins s σ H _ I h) fun us s1 ⟨vs, H1, I1, r1, q1⟩ => ?_) hs rfl))
  obtain ⟨x, ex, q⟩ := q1
  subst ex
  cases r1 with
  | cons r rr =>
    cases rr
    obtain ⟨t, rfl⟩ := r
    refine call_enumerate_str fun h' he hit hsz hk => wpAny_pyIter_enum he ?_
    have I2 : Inv X pins σ H1 { s1 with heap := h' } := I1.kept (t' := s1.toks) hk
    have hty : strIterType x = "str_ascii_iterator" ∨ strIterType x = "str_iterator" := by
      unfold strIterType
      split
      · exact .inl rfl
      · exact .inr rfl
    refine ⟨s1.heap.objs.size + 1, [s1.heap.objs.size + 1, s1.heap.objs.size], _, _, H1, rfl, I2, turn_enumS x t (s1.heap.objs.size + 1) s1.heap.objs.size _ hty, ⟨⟨.none, he⟩, ⟨hit, Nat.zero_le _⟩, Nat.succ_ne_self _⟩, fun b hb => ?_, q⟩
    have e' : b = s1.heap.objs.size + 1 ∨ b = s1.heap.objs.size := by simpa using hb
    have hle : s1.heap.objs.size ≤ b := by
      rcases e' with z | z
      · rw [z]; exact Nat.le_add_right _ _
      · rw [z]; exact Nat.le_refl _
    exact I1.fpOk hle (I1.hok.fresh hle)
section
variable {σ : L2.St} {H : Hp} {g : TG} {tb : TS} {nx : L2.St → Hp → Prop} {rt : VK}
theorem r_iEnumS {ta : TA} {R : It → Hp → Prop} (q : ta σ H fun vs H1 => ∃ x, vs = [.str x] ∧ R (Ites x) H1) : iEnumS ta σ H R := q
theorem f_enumS {z : Str} (Pv : Nat → L2.St → Hp → Prop) (h0 : Pv 0 σ H)
    (hs : ∀ (i c : Nat) σ H T H', z.cps.toList[i]? = some c → Pv i σ H → H T = none → Same H H' → H' T = some (.tup [.int (i : Nat), .str (sing c)]) → g (.ref T) σ H' fun σ2 H2 => tb ⟨Pv (i + 1), rt, nx, Pv (i + 1)⟩ σ2 H2) (hd : ∀ σ H, Pv z.length σ H → nx σ H) :
    ∃ x, [V.str z] = [V.str x] ∧ ∃ W : Nat → Nat → L2.St → Hp → Prop, (∃ m, W 0 m σ H) ∧ ∀ i m σ H, W i m σ H →
      ((Ites x).stop i H ∧ nx σ H) ∨ ((Ites x).go i H ∧ ∃ N : L2.St → Hp → Prop, (∀ σ' H', N σ' H' → ∃ m', m' < m ∧ W (i + 1) m' σ' H') ∧ ∀ x_1 H', (Ites x).yld i H x_1 H' → g x_1 σ H' fun σ2 H2 => tb ⟨N, rt, nx, N⟩ σ2 H2) := by
  refine ⟨z, rfl, fun i m σ H => i + m = z.length ∧ Pv i σ H, ⟨z.length, Nat.zero_add _, h0⟩, ?_⟩
  rintro i m σ H ⟨em, p⟩
  by_cases hi : i < z.length
  · refine .inr ⟨hi, Pv (i + 1), fun σ' H' p' => ⟨m - 1, by omega, by omega, p'⟩, ?_⟩
    rintro x H' ⟨T, c, rfl, hT, rfl, hc⟩
    exact hs i c σ H T _ (by rw [Array.getElem?_toList]; exact hc) p hT (same_new hT) upd_same
  · have ei : i = z.length := by omega
    subst ei
    exact .inl ⟨Nat.le_refl _, hd σ H p⟩
end
/-! ### comprehensions that lay new objects -/
section
variable {K : PySem.W.Frag} {σ : L2.St} {H : Hp} {g : TG} {tt : TT} {te : TE} {vs : List Nat} {Qd : Addr → Hp → Prop}
theorem c_listE {a : Addr} {xs : List V} (ha : H a = some (.lst xs)) (hz : xs.length ≤ 100000) (Pe : Addr → Hp → Nat → V → Prop) (mono : ∀ D H H' i y, But D H H' → Pe D H i y → Pe D H' i y)
    (turn : ∀ D acc i x H', xs[i]? = some x → H D = none → Same H H' → H' D = some (.lst acc) → ∀ (Ky : VK) (Kn : Hp → Prop), (∀ y H4, Same H' H4 → Pe D H4 i y → Ky y H4) →
      g x (wipe σ vs) H' fun σ2 H2 => wipe σ2 vs = wipe σ vs ∧ tt σ2 H2 fun b H3 => if b = true then te σ2 H3 Ky else Kn H3)
    (q : ∀ p ys H', H p = none → Same H H' → H' p = some (.lst ys) → ys.length = xs.length → (∀ i y, ys[i]? = some y → Pe p H' i y) → Qd p H') :
    ∃ a', V.ref a = .ref a' ∧ (∃ xs, SqL K H a' xs) ∧ ∀ D, H D = none → ∃ W : Nat → Nat → Hp → Prop, (∃ m, W 0 m (upd H D (.lst []))) ∧ ∀ i m H, W i m H →
      ((Itl K a').stop i H ∧ Qd D H) ∨ ((Itl K a').go i H ∧ ∃ Nx : Hp → Prop, (∀ H', Nx H' → ∃ m', m' < m ∧ W (i + 1) m' H') ∧ ∀ x_1 H', (Itl K a').yld i H x_1 H' → g x_1 (wipe σ vs) H' fun σ2 H2 => wipe σ2 vs = wipe σ vs ∧ tt σ2 H2 fun b H3 =>
        if b = true then te σ2 H3 fun y H4 => ∃ acc, H4 D = some (.lst acc) ∧ acc.length < sizeLine ∧ Nx (upd H4 D (.lst (acc ++ [y]))) else Nx H3) := by
  refine ⟨a, rfl, ⟨xs, SqL.of ha⟩, fun D hD => ?_⟩
  refine lc_list (K := K) (xs := xs) (fun i H' => ∃ acc, Same H H' ∧ H' D = some (.lst acc) ∧ acc.length = i ∧ ∀ j y, acc[j]? = some y → Pe D H' j y) ⟨[], same_new hD, upd_same, rfl, fun j y h => by simp at h⟩ (fun i H' _ ⟨acc, s, _⟩ => SqL.of (s _ _ ha)) (fun i x H' hx ⟨acc, s, e, el, pe⟩ => ?_) (fun H' ⟨acc, s, e, el, pe⟩ => q D acc H' hD s e el pe)
  have hi : i < xs.length := (List.getElem?_eq_some_iff.mp hx).1
  refine turn D acc i x H' hx hD s e _ _ fun y H4 s4 p4 => ?_
  have b4 : But D H4 (upd H4 D (.lst (acc ++ [y]))) := but_upd
  refine ⟨acc, s4 _ _ e, lt_size (by omega), acc ++ [y], b4.same (s.trans s4) hD, upd_same, by rw [List.length_append, el]; rfl, fun j z hz => ?_⟩
  by_cases hj : j < acc.length
  · rw [List.getElem?_append_left hj] at hz
    exact mono _ _ _ _ _ b4 (mono _ _ _ _ _ (fun b o _ e => s4 b o e) (pe j z hz))
  · have hj2 : j = acc.length := by
      have := (List.getElem?_eq_some_iff.mp hz).1
      rw [List.length_append, List.length_singleton] at this
      omega
    subst hj2
    rw [List.getElem?_append_right (Nat.le_refl _), Nat.sub_self] at hz
    have : y = z := by simpa using hz
    subst this
    rw [el]
    exact mono _ _ _ _ _ b4 p4
end
/-! ### for x in reversed(list) -/
section
variable {K : PySem.W.Frag} {σ : L2.St} {H : Hp} {g : TG} {tb : TS} {nx : L2.St → Hp → Prop} {rt : VK}
theorem r_iRev {ta : TA} {R : It → Hp → Prop} (q : ta σ H fun vs H1 => ∃ (a : Addr) (xs : List V), vs = [.ref a] ∧ SqL K H1 a xs ∧ R (Itv K a xs.length) H1) : iRev K ta σ H R := q
theorem f_rev {a : Addr} {xs : List V} (h : H a = some (.lst xs)) (Pv : Nat → L2.St → Hp → Prop) (h0 : Pv 0 σ H) (hl : ∀ i σ H, i ≤ xs.length → Pv i σ H → H a = some (.lst xs))
    (hs : ∀ i x σ H, i < xs.length → xs[xs.length - 1 - i]? = some x → Pv i σ H → g x σ H fun σ2 H2 => tb ⟨Pv (i + 1), rt, nx, Pv (i + 1)⟩ σ2 H2) (hd : ∀ σ H, Pv xs.length σ H → nx σ H) :
    ∃ (a' : Addr) (xs' : List V), [V.ref a] = [.ref a'] ∧ SqL K H a' xs' ∧ ∃ W : Nat → Nat → L2.St → Hp → Prop, (∃ m, W 0 m σ H) ∧ ∀ i m σ H, W i m σ H →
      ((Itv K a' xs'.length).stop i H ∧ nx σ H) ∨ ((Itv K a' xs'.length).go i H ∧ ∃ N : L2.St → Hp → Prop, (∀ σ' H', N σ' H' → ∃ m', m' < m ∧ W (i + 1) m' σ' H') ∧ ∀ x_1 H', (Itv K a' xs'.length).yld i H x_1 H' → g x_1 σ H' fun σ2 H2 => tb ⟨N, rt, nx, N⟩ σ2 H2) := by
  refine ⟨a, xs, rfl, SqL.of h, fun i m σ H => i + m = xs.length ∧ Pv i σ H, ⟨xs.length, Nat.zero_add _, h0⟩, ?_⟩
  rintro i m σ H ⟨em, p⟩
  by_cases hi : i < xs.length
  · have ha := hl i σ H (by omega) p
    refine .inr ⟨⟨hi, xs, xs[xs.length - 1 - i]'(by omega), SqL.of ha, List.getElem?_eq_getElem _⟩, Pv (i + 1), fun σ' H' p' => ⟨m - 1, by omega, by omega, p'⟩, ?_⟩
    rintro x H' ⟨rfl, f⟩
    exact hs i x σ H' hi (f xs (SqL.of ha)) p
  · have ei : i = xs.length := by omega
    subst ei
    exact .inl ⟨Nat.le_refl _, hd σ H p⟩
end
/-! ### a block cut in two -/
section
variable {X : Cx}
def tMid (t u : TS) : TS := fun D σ H => ∃ Mid : L2.St → Hp → Prop, t { D with nx := Mid } σ H ∧ ∀ σ' H', Mid σ' H' → u D σ' H'
theorem r_mid {t u : TS} {D : Ends} {σ : L2.St} {H : Hp} (Mid : L2.St → Hp → Prop) (h1 : t { D with nx := Mid } σ H) (h2 : ∀ σ' H', Mid σ' H' → u D σ' H') : tMid t u D σ H := ⟨Mid, h1, h2⟩
theorem pss_mid {st : Stmt} {rest : List Stmt} {t u : TS} (h1 : PS X st t) (h2 : PSs X rest u) : PSs X (st :: rest) (tMid t u) := by
  refine ⟨fun pins s σ H D I h => ?_⟩
  obtain ⟨Mid, hm, hu⟩ := h
  refine wpAny_execs_cons (thn (h1.run pins s σ H { D with nx := Mid } I hm) fun f s1 q => ?_)
  cases f with
  | next =>
    obtain ⟨σ', H', I', q⟩ := q
    exact h2.run pins s1 σ' H' D I' (hu σ' H' q)
  | ret v => exact q
  | brk => exact q
  | cont => exact q
end
/-! ### insert, index -/
def mInsert : V → List V → Hp → VK → Prop := fun x vs H Q => ∃ (l : Addr) (xs : List V) (i : Int) (y : V), x = .ref l ∧ vs = [.int i, y] ∧ H l = some (.lst xs) ∧ xs.length < sizeLine ∧ 0 ≤ i ∧ i < 2 ^ 63 ∧
    ∀ H', But l H H' → H' l = some (.lst (xs.take i.toNat ++ [y] ++ xs.drop i.toNat)) → Q .non H'
theorem mt_insertN {X : Cx} : MtR X "list.insert" mInsert := mtr_imp mt_insert fun x vs H Q ⟨l, xs, i, y, h1, h2, h3, h4, h5, h6, q⟩ => ⟨l, xs, i, y, h1, h2, h3, h4, h5, h6, q _ but_upd upd_same⟩
theorem r_ins0 {H : Hp} {Q : VK} {l : Addr} {xs : List V} {y : V} (h : H l = some (.lst xs)) (hl : xs.length < sizeLine) (q : ∀ H', But l H H' → H' l = some (.lst (y :: xs)) → Q .non H') : mInsert (.ref l) [.int 0, y] H Q :=
  ⟨l, xs, 0, y, rfl, rfl, h, hl, by decide, by decide, q⟩
def mIndex : V → List V → Hp → VK → Prop := fun x vs H Q => ∃ (a : Str) (c : Nat), x = .str a ∧ vs = [.str ⟨#[c]⟩] ∧ c ∈ a.cps.toList ∧ ∀ i : Nat, a.cps.toList[i]? = some c → Q (.int i) H
theorem mt_indexN {X : Cx} : MtR X "str.index" mIndex := mtr_imp mt_sindex fun x vs H Q ⟨a, c, h1, h2, h3, q⟩ => by
  have f := PySem.StrLaws.found_one a c
  rw [decide_eq_true h3] at f
  cases e : Builtin.Str.occurrences a ⟨#[c]⟩ 0 a.length 1 with
  | nil =>
    rw [e] at f
    cases f
  | cons i rest =>
    have sp := PySem.StrLaws.occ_spec a ⟨#[c]⟩ 0 a.length 1 i (by rw [e]; exact List.mem_cons_self)
    exact ⟨a, ⟨#[c]⟩, i, rest, h1, h2, e, q i ((PySem.StrLaws.subAt_one a c i).mp sp)⟩
end Z

/-! dicts whose keys are tuples of ints: displays, items, walks; is True -/
namespace Z
open PySem PySem.Spec PyProof.Rows L2
abbrev KTs := List (List Key × V)
/-! ### displays -/
def mergeT (kvs more : KTs) : KTs := more.foldl (fun acc kv => putK acc kv.1 kv.2) kvs
theorem length_mergeT : ∀ (more kvs : KTs), (mergeT kvs more).length ≤ kvs.length + more.length
  | [], kvs => by show kvs.length ≤ kvs.length + 0; omega
  | p :: r, kvs => by
    have h1 := length_mergeT r (putK kvs p.1 p.2)
    have h2 := length_putK kvs p.1 p.2
    show (mergeT (putK kvs p.1 p.2) r).length ≤ _
    rw [List.length_cons]; omega
theorem KT.merge {H : Hp} : ∀ {more : KTs} {rs xs : List (List Key × Addr × Value)} {kvs : KTs}, KT H more rs → KT H kvs xs → KT H (mergeT kvs more) (storedAllH xs rs) := by
  intro more rs xs kvs r
  unfold KT at r
  induction r generalizing kvs xs with
  | nil => intro q; exact q
  | @cons p q ps qs h t ih =>
    intro r0
    have e : KT H (putK kvs p.1 p.2) (storedH xs q.1 q.2.1 q.2.2) := by
      have := KT.put r0 p.1 (b := q.2.1) h.2.1 h.2.2
      rw [← h.1]; exact this
    exact ih e
/-- a display's pairs, their keys tuples that stand -/
theorem carriesT {P : Program} {w : World} {H : Hp} {h : Heap} (ok : HOk P w H h) : ∀ {kas : List (List Key × Addr × V)} {ws : List (Value × Value)}, (∀ q ∈ kas, H q.2.1 = some (.tup (q.1.map kV))) → VV (kas.map fun q => (V.ref q.2.1, q.2.2)) ws →
    ∃ rs, CarriesH (tupleKind (mixKind P w)) h ws rs ∧ KT H (kas.map fun q => (q.1, q.2.2)) rs
  | [], _, _, r => by rw [List.map_nil] at r; cases r; exact ⟨[], True.intro, .nil⟩
  | p :: kas, _, ht, r => by
    rw [List.map_cons] at r
    cases r with
    | @cons a b as bs h1 t =>
      obtain ⟨rs, c, q⟩ := carriesT ok (kas := kas) (fun q hq => ht q (List.mem_cons_of_mem _ hq)) t
      obtain ⟨b1, b2⟩ := b
      obtain ⟨e1, e2⟩ := h1
      have e1 : b1 = Value.ref p.2.1 := e1
      subst e1
      have hp := ht p List.mem_cons_self
      exact ⟨(p.1, p.2.1, b2) :: rs, ⟨rfl, rfl, key_of ok hp, c⟩, .cons ⟨rfl, hp, e2⟩ q⟩
def tDispT (trs : List (TE × TE)) : TE := fun σ H Q => ∀ p H0, H p = none → Same H H0 → H0 p = some (.dT []) → tPairs trs σ H0 fun ps H2 => H2 p = some (.dT []) ∧
  ∃ kas : List (List Key × Addr × V), ps = kas.map (fun q => (V.ref q.2.1, q.2.2)) ∧ (∀ q ∈ kas, H2 q.2.1 = some (.tup (q.1.map kV))) ∧ kas.length ≤ 15 ∧ ∀ H3, But p H2 H3 → H3 p = some (.dT (mergeT [] (kas.map fun q => (q.1, q.2.2)))) → Q (.ref p) H3
section
variable {X : Cx}
theorem pe_dispT {pos : Pos} {keys : List (Option Expr)} {values : List Expr} {trs : List (TE × TE)} (hu : X.A.units + 1 < cLine) (h : PPs X pos keys values trs)
    (hall : keys.all (·.isSome) = true) (hl : keys.length = values.length) (h0 : keys ≠ []) (h15 : keys.length ≤ 15) : PE X (.Dict keys values pos) (tDispT trs) := by
  refine ⟨fun pins s σ H Q I q => ?_⟩
  have hn := I.hok.fresh (Nat.le_refl s.heap.objs.size)
  have I1 := I.laid (a := s.heap.objs.size) (o := .dT []) (h' := s.heap.push { cls := .type "dict", data := .dict #[] }) (t' := s.toks) (fun _ _ q => Heap.get?_push_of_some _ q) (Nat.le_refl _) (dt_empty s.heap I.big)
  have hr := h.run pins _ σ _ _ I1 (q _ _ hn (same_new hn) upd_same)
  have hlen := pairTrees_length keys values X.env pos hall hl
  have hne : pairTrees keys values X.env pos ≠ [] := fun he => by
    rw [he] at hlen
    exact h0 (List.length_eq_zero_iff.mp hlen.symm)
  rw [arm_eval_Dict, zip_pairTrees keys values X.env pos hall hl, dictDisplay_pairs _ hne (by rw [hlen]; omega)]
  refine wpAny_bind (wpAny_standAt (wpAny_bind (wpAny_subDictH (knd := tupleKind (mixKind X.prog X.w)) (Q := fun d s' => wpAny (model X.prog X.w) X.A (pure (Value.ref d)) (EP X pins σ Q) X.xe s') (show X.A.units < cLine by omega) (by rw [hlen]; exact h15) (wpAny_mono hr (fun ws s2 hq => ?_) fun _ _ e => e))))
  obtain ⟨ps, H2, I2, rel, e, kas, ep, ht, lk, q2⟩ := hq
  subst ep
  obtain ⟨rs, c, rk⟩ := carriesT I2.hok ht rel
  obtain ⟨z, hd, vs0, r0, dd⟩ := dt_of I2.hok e
  cases r0
  refine ⟨rs, c, dd, fun h' tk dd' hs => wpAny_pure ?_⟩
  have km := KT.merge rk (KT.keeps (H' := H2) (H := H2) Paired.nil fun _ _ z => z)
  have hz : (mergeT [] (kas.map fun q => (q.1, q.2.2))).length ≤ sizeLine := by
    have h1 := length_mergeT (kas.map fun q => (q.1, q.2.2)) []
    rw [List.length_nil, List.length_map] at h1
    rw [sizeLine_eq]; omega
  obtain ⟨qo, es, ep, hq, h2, h3, h4, _, h5⟩ := dd'
  refine ⟨.ref s.heap.objs.size, upd H2 s.heap.objs.size (.dT (mergeT [] (kas.map fun q => (q.1, q.2.2)))), d_write (t' := tk) I2 (by rw [e]; exact True.intro) hs ⟨qo, hq⟩ ⟨hz, hd, _, km.keeps fun c ys ec => ?_, qo, es, ep, hq, h2, h3, h4, h5⟩, rfl, q2 _ but_upd upd_same⟩
  rw [upd_ne (ne_of ec e (fun z => nomatch z))]
  exact ec
end
/-! ### items -/
section
variable {σ : L2.St} {H : Hp} {Q : VK} {a b : Addr} {kvs : KTs} {k : List Key} {v : V} {td ty tv : TE} {nx bk ct : L2.St → Hp → Prop} {rt : VK} {s2 : TS}
theorem r_dispT {trs : List (TE × TE)} (q : ∀ p H0, H p = none → Same H H0 → H0 p = some (.dT []) → tPairs trs σ H0 fun ps H2 => H2 p = some (.dT []) ∧
  ∃ kas : List (List Key × Addr × V), ps = kas.map (fun q => (V.ref q.2.1, q.2.2)) ∧ (∀ q ∈ kas, H2 q.2.1 = some (.tup (q.1.map kV))) ∧ kas.length ≤ 15 ∧ ∀ H3, But p H2 H3 → H3 p = some (.dT (mergeT [] (kas.map fun q => (q.1, q.2.2)))) → Q (.ref p) H3) : tDispT trs σ H Q := q
theorem r_pairs {tk tv : TE} {r : List (TE × TE)} {Q : List (V × V) → Hp → Prop} (q : tk σ H fun x H1 => tv σ H1 fun y H2 => tPairs r σ H2 fun ps H3 => Q ((x, y) :: ps) H3) : tPairs ((tk, tv) :: r) σ H Q := q
theorem r_pairs0 {Q : List (V × V) → Hp → Prop} (q : Q [] H) : tPairs [] σ H Q := q
theorem r_dnewT (q : ∀ p H', H p = none → Same H H' → H' p = some (.dT []) → Q (.ref p) H') : tDNewT σ H Q := fun p n => q p _ n (same_new n) upd_same
theorem r_dget (q : td σ H fun x H1 => ty σ H1 fun y H2 => ∃ a v, x = .ref a ∧ DGet H2 a y (some v) ∧ Q v H2) : tDGet td ty σ H Q := q
theorem r_din (q : ty σ H fun y H1 => td σ H1 fun x H2 => ∃ a o, x = .ref a ∧ DGet H2 a y o ∧ Q (.bl o.isSome) H2) : tDIn ty td σ H Q := q
theorem r_dnotin (q : ty σ H fun y H1 => td σ H1 fun x H2 => ∃ a o, x = .ref a ∧ DGet H2 a y o ∧ Q (.bl (!o.isSome)) H2) : tDNotIn ty td σ H Q := q
theorem r_sdput (q : tv σ H fun v H1 => td σ H1 fun x H2 => ty σ H2 fun y H3 => ∃ a H4, x = .ref a ∧ DPut H3 a y v H4 ∧ s2 ⟨nx, rt, bk, ct⟩ σ H4) : tSeq (sDPut td ty tv) s2 ⟨nx, rt, bk, ct⟩ σ H := q
theorem r_dput (q : tv σ H fun v H1 => td σ H1 fun x H2 => ty σ H2 fun y H3 => ∃ a H4, x = .ref a ∧ DPut H3 a y v H4 ∧ nx σ H4) : sDPut td ty tv ⟨nx, rt, bk, ct⟩ σ H := q
theorem rd_dT (h : Rd H a (.dT kvs)) (hb : H b = some (.tup (k.map kV))) : DGet H a (.ref b) (valV kvs k) := .inr ⟨kvs, k, b, h, rfl, hb, rfl⟩
theorem r_getT {P : V → Prop} (h : Rd H a (.dT kvs)) (hb : H b = some (.tup (k.map kV))) (hv : valV kvs k = some v) (q : P v) : ∃ a' v', V.ref a = .ref a' ∧ DGet H a' (.ref b) (some v') ∧ P v' := ⟨a, v, rfl, hv ▸ rd_dT h hb, q⟩
theorem r_hasT {P : Option V → Prop} (h : Rd H a (.dT kvs)) (hb : H b = some (.tup (k.map kV))) (q : P (valV kvs k)) : ∃ a' o, V.ref a = .ref a' ∧ DGet H a' (.ref b) o ∧ P o := ⟨a, _, rfl, rd_dT h hb, q⟩
theorem r_putT {P : Hp → Prop} (h : H a = some (.dT kvs)) (hb : H b = some (.tup (k.map kV))) (hl : kvs.length < 100000) (q : ∀ H', But a H H' → H' a = some (.dT (putK kvs k v)) → P H') : ∃ a' H4, V.ref a = .ref a' ∧ DPut H a' (.ref b) v H4 ∧ P H4 :=
  ⟨a, _, rfl, DPut.t h hb (lt_size hl), q _ but_upd upd_same⟩
end
/-! ### walks of a dict's keys -/
section
variable {σ : L2.St} {H : Hp} {g : TG} {tb : TS} {nx bk ct : L2.St → Hp → Prop} {rt : VK}
/-- for k in d, the keys tuples, nothing leaves the loop: Pv i at the i-th key -/
theorem f_keysT {td : TE} {d : Addr} {kvs : KTs} (hd : H d = some (.dT kvs)) (htd : ∀ (H1 : Hp) (R : VK), R (.ref d) H1 → td σ H1 R) (Pv : Nat → L2.St → Hp → Prop) (h0 : ∀ od H1, But d H H1 → H1 d = some (.frz od (.dT kvs)) → Pv 0 σ H1)
    (hs : ∀ od i k v b σ H1 rtE bkE, kvs[i]? = some (k, v) → H1 b = some (.tup (k.map kV)) → H1 d = some (.frz od (.dT kvs)) → Pv i σ H1 → g (.ref b) σ H1 fun σ2 H2 => tb ⟨fun σ' H' => H' d = some (.frz od (.dT kvs)) ∧ Pv (i + 1) σ' H', rtE, bkE, fun σ' H' => H' d = some (.frz od (.dT kvs)) ∧ Pv (i + 1) σ' H'⟩ σ2 H2)
    (hd2 : ∀ od σ H1 H2, H1 d = some (.frz od (.dT kvs)) → Pv kvs.length σ H1 → But d H1 H2 → H2 d = some (.dT kvs) → nx σ H2) : tLock (tFor (iKeys td) g tb) ⟨nx, rt, bk, ct⟩ σ H := by
  refine ⟨d, .dT kvs, hd, True.intro, fun od => ?_⟩
  refine htd _ _ ⟨d, od, rfl, .inr ⟨kvs, upd_same, ?_⟩⟩
  refine ⟨fun i m σ H1 => i + m = kvs.length ∧ H1 d = some (.frz od (.dT kvs)) ∧ Pv i σ H1, ⟨kvs.length, Nat.zero_add _, upd_same, h0 od _ but_upd upd_same⟩, ?_⟩
  rintro i m σ1 H1 ⟨em, e1, p⟩
  by_cases hi : i < kvs.length
  · refine .inr ⟨⟨e1, hi⟩, fun σ' H' => H' d = some (.frz od (.dT kvs)) ∧ Pv (i + 1) σ' H', fun σ' H' z => ⟨m - 1, by omega, by omega, z.1, z.2⟩, ?_⟩
    rintro x H' ⟨rfl, k, v, b, hk, rfl, hb⟩
    exact hs od i k v b σ1 H' _ _ hk hb e1 p
  · have ei : i = kvs.length := by omega
    subst ei
    exact .inl ⟨⟨e1, Nat.le_refl _⟩, e1, hd2 od σ1 H1 _ e1 p but_upd upd_same⟩
end
/-! ### is of bools -/
theorem r_isB {H : Hp} {Q : VK} {a b : Bool} (q : Q (.bl (decide (a = b))) H) : rIsB (.bl a) (.bl b) H Q := ⟨a, b, rfl, rfl, q⟩
theorem r_notB {H : Hp} {Q : VK} {a b : Bool} (q : Q (.bl (!decide (a = b))) H) : rNotB (.bl a) (.bl b) H Q := ⟨a, b, rfl, rfl, q⟩
end Z

/-! comprehensions and loops over tuples, reversed(range(n)), sorted of two -/
namespace Z
open PySem PySem.Spec PyProof.Rows L2
section
variable {K : PySem.W.Frag} {σ : L2.St} {H : Hp} {Q : VK} {g : TG} {tt : TT} {te : TE} {vs : List Nat} {Qd : Addr → Hp → Prop}
theorem c_tup {a : Addr} {xs : List V} (L : Nat → List V) (ha : H a = some (.tup xs)) (hz : xs.length ≤ 100000) (h0 : L 0 = []) (hl : ∀ i, (L i).length ≤ i)
    (turn : ∀ i x H', xs[i]? = some x → Same H H' → Turn1 σ g tt te vs L i x H' H') (q : ∀ p H', H p = none → Same H H' → H' p = some (.lst (L xs.length)) → Qd p H') :
    ∃ a', V.ref a = .ref a' ∧ (∃ xs, SqT K H a' xs) ∧ ∀ D, H D = none → ∃ W : Nat → Nat → Hp → Prop, (∃ m, W 0 m (upd H D (.lst []))) ∧ ∀ i m H, W i m H →
      ((Itt K a').stop i H ∧ Qd D H) ∨ ((Itt K a').go i H ∧ ∃ Nx : Hp → Prop, (∀ H', Nx H' → ∃ m', m' < m ∧ W (i + 1) m' H') ∧ ∀ x_1 H', (Itt K a').yld i H x_1 H' → g x_1 (wipe σ vs) H' fun σ2 H2 => wipe σ2 vs = wipe σ vs ∧ tt σ2 H2 fun b H3 =>
        if b = true then te σ2 H3 fun y H4 => ∃ acc, H4 D = some (.lst acc) ∧ acc.length < sizeLine ∧ Nx (upd H4 D (.lst (acc ++ [y]))) else Nx H3) :=
  ⟨a, rfl, ⟨xs, SqT.of ha⟩, lc_any (Itt K a) xs.length L hz h0 hl (fun i H' hi s => ⟨xs, xs[i], SqT.of (s _ _ ha), List.getElem?_eq_getElem hi⟩) (fun H' s => ⟨xs, SqT.of (s _ _ ha), Nat.le_refl _⟩) (fun i x H' H1 hi s ⟨e1, f⟩ => by
    subst e1
    exact turn i x H1 (f xs (SqT.of (s _ _ ha))) s) q⟩
theorem r_iTup {tl : TE} {R : It → Hp → Prop} (q : tl σ H fun x H1 => ∃ a, x = .ref a ∧ (∃ xs, SqT K H1 a xs) ∧ R (Itt K a) H1) : iTup K tl σ H R := q
end
section
variable {K : PySem.W.Frag} {σ : L2.St} {H : Hp} {g : TG} {tb : TS} {nx : L2.St → Hp → Prop} {rt : VK}
theorem f_tup {a : Addr} {xs : List V} (h : H a = some (.tup xs)) (Pv : Nat → L2.St → Hp → Prop) (h0 : Pv 0 σ H) (hl : ∀ i σ H, i ≤ xs.length → Pv i σ H → H a = some (.tup xs))
    (hs : ∀ i x σ H, xs[i]? = some x → Pv i σ H → g x σ H fun σ2 H2 => tb ⟨Pv (i + 1), rt, nx, Pv (i + 1)⟩ σ2 H2) (hd : ∀ σ H, Pv xs.length σ H → nx σ H) :
    ∃ a', V.ref a = .ref a' ∧ (∃ xs, SqT K H a' xs) ∧ ∃ W : Nat → Nat → L2.St → Hp → Prop, (∃ m, W 0 m σ H) ∧ ∀ i m σ H, W i m σ H →
      ((Itt K a').stop i H ∧ nx σ H) ∨ ((Itt K a').go i H ∧ ∃ N : L2.St → Hp → Prop, (∀ σ' H', N σ' H' → ∃ m', m' < m ∧ W (i + 1) m' σ' H') ∧ ∀ x H', (Itt K a').yld i H x H' → g x σ H' fun σ2 H2 => tb ⟨N, rt, nx, N⟩ σ2 H2) :=
  ⟨a, rfl, ⟨xs, SqT.of h⟩, for_tup (K := K) (D := ⟨nx, rt, fun _ _ => False, fun _ _ => False⟩) Pv h0 (fun i σ H hi p => SqT.of (hl i σ H hi p)) hs hd⟩
theorem r_iRevR {tr : L2.St → Hp → (Int → Int → Hp → Prop) → Prop} {R : It → Hp → Prop} (q : tr σ H fun a b H1 => -(2 ^ 62) ≤ a ∧ a < 2 ^ 62 ∧ -(2 ^ 62) ≤ b ∧ b < 2 ^ 62 ∧ R (Itc (a + (((b - a).toNat : Nat) : Int) - 1) (-1) (b - a).toNat) H1) : iRevR tr σ H R := q
theorem r_rg1 {ta : TE} {Q : Int → Int → Hp → Prop} (q : ta σ H fun x H1 => ∃ n, x = .int n ∧ Q 0 n H1) : tRg1 ta σ H Q := q
/-- for i in reversed(range(n)): at turn j the number is n - 1 - j -/
theorem f_revR {n : Nat} (hn : n ≤ 1000000) (Pv : Nat → L2.St → Hp → Prop) (h0 : Pv 0 σ H)
    (hs : ∀ (j p : Nat) σ H, j < n → p = n - 1 - j → Pv j σ H → g (.int (p : Int)) σ H fun σ2 H2 => tb ⟨Pv (j + 1), rt, nx, Pv (j + 1)⟩ σ2 H2) (hd : ∀ σ H, Pv n σ H → nx σ H) :
    ∃ m : Int, V.int (n : Int) = .int m ∧ -(2 ^ 62) ≤ (0 : Int) ∧ (0 : Int) < 2 ^ 62 ∧ -(2 ^ 62) ≤ m ∧ m < 2 ^ 62 ∧ ∃ W : Nat → Nat → L2.St → Hp → Prop, (∃ k, W 0 k σ H) ∧ ∀ i k σ H, W i k σ H →
      ((Itc (0 + (((m - 0).toNat : Nat) : Int) - 1) (-1) (m - 0).toNat).stop i H ∧ nx σ H) ∨ ((Itc (0 + (((m - 0).toNat : Nat) : Int) - 1) (-1) (m - 0).toNat).go i H ∧ ∃ N : L2.St → Hp → Prop, (∀ σ' H', N σ' H' → ∃ k', k' < k ∧ W (i + 1) k' σ' H') ∧
        ∀ x H', (Itc (0 + (((m - 0).toNat : Nat) : Int) - 1) (-1) (m - 0).toNat).yld i H x H' → g x σ H' fun σ2 H2 => tb ⟨N, rt, nx, N⟩ σ2 H2) := by
  have e : ((n : Int) - 0).toNat = n := by omega
  refine ⟨n, rfl, by decide, by decide, by omega, by omega, ?_⟩
  rw [e]
  refine for_rangeC (lo := 0 + ((n : Nat) : Int) - 1) (c := -1) (n := n) (D := ⟨nx, rt, fun _ _ => False, fun _ _ => False⟩) Pv h0 (fun j σ' H' hj p => ?_) hd
  have e2 : (0 + ((n : Nat) : Int) - 1) + ((j : Nat) : Int) * (-1) = ((n - 1 - j : Nat) : Int) := by omega
  rw [e2]
  exact hs j _ σ' H' hj rfl p
/-- sorted([..]) of whole numbers -/
theorem r_sorted {Q : VK} {a : Addr} {ns : List Int} (h : H a = some (.lst (ns.map V.int))) (hl : ns.length < 64) (q : ∀ ns' : List Int, ns'.Perm ns → ns'.Pairwise (· ≤ ·) → NewL H (ns'.map V.int) Q) : bSorted K [.ref a] H Q := ⟨a, ns, rfl, SqL.of h, hl, q⟩
theorem sorted_one {ns' : List Int} {i : Int} (p : ns'.Perm [i]) : ns' = [i] := List.perm_singleton.mp p
theorem sorted_two {ns' : List Int} {i j : Int} (p : ns'.Perm [i, j]) (s : ns'.Pairwise (· ≤ ·)) (h : i ≤ j) : ns' = [i, j] :=
  p.eq_of_pairwise (le := fun a b => a ≤ b) (fun a b _ _ h1 h2 => Int.le_antisymm h1 h2) s (by simp [h])
end
end Z

/-! min of three ints -/
namespace Z
open PySem PySem.Spec PyProof.Rows L2
def bMin3 : List V → Hp → VK → Prop := fun xs H Q => ∃ i j k : Int, xs = [.int i, .int j, .int k] ∧ Q (.int (min (min i j) k)) H
theorem lt_min (i j : Int) : (if decide (j < i) = true then (V.int j) else V.int i) = V.int (min i j) := by
  by_cases h : j < i
  · rw [if_pos (decide_eq_true h)]
    congr 1
    omega
  · rw [if_neg (by rw [decide_eq_false h]; decide)]
    congr 1
    omega
theorem nu_min2 (i j : Int) : nuMin2 (.int i) (.int j) = some (.int (min i j)) := by
  have e : nuMin2 (.int i) (.int j) = some (if decide (j < i) = true then (V.int j) else V.int i) := rfl
  rw [e, lt_min]
theorem cr_min3I {X : Cx} (hc : X.calm = true := by rfl) : CallR X (.builtin "min") bMin3 := by
  intro pins s σ H xs us Q I r h
  obtain ⟨i, j, k, e, q⟩ := h
  refine call_min3Nu hc pins s σ H xs us Q I r ⟨.int i, .int j, .int k, .int (min (min i j) k), e, ?_, q⟩
  show (nuMin2 (.int i) (.int j)).bind (fun m => nuMin2 m (.int k)) = _
  rw [nu_min2]
  exact nu_min2 _ _
theorem r_min3 {H : Hp} {Q : VK} {i j k : Int} (q : Q (.int (min (min i j) k)) H) : bMin3 [.int i, .int j, .int k] H Q := ⟨i, j, k, rfl, q⟩
end Z

/-! min of lists by a key of their length and themselves -/
namespace Z
open PySem PySem.Spec PyProof.Rows L2
/-! ### tapes by their length, then as lists ascend -/
def lexN : List Nat → List Nat → Bool
  | [], [] => false
  | [], _ :: _ => true
  | _ :: _, [] => false
  | x :: xs, y :: ys => if x = y then lexN xs ys else decide (x < y)
def kLt (a b : List Nat) : Bool := if a.length = b.length then lexN a b else decide (a.length < b.length)
def kMin (a : List Nat) : List (List Nat) → List Nat
  | [] => a
  | b :: l => kMin (if kLt b a = true then b else a) l
def kLe (a b : List Nat) : Prop := kLt b a = false
theorem lexN_irr : ∀ a : List Nat, lexN a a = false
  | [] => rfl
  | x :: a => by rw [lexN, if_pos rfl]; exact lexN_irr a
theorem lexN_trans : ∀ {a b c : List Nat}, lexN b a = false → lexN c b = false → lexN c a = false
  | [], _, [], _, _ => rfl
  | [], _, _ :: _, _, _ => rfl
  | _ :: _, [], _, h, _ => by cases h
  | _ :: _, _ :: _, [], _, h => by cases h
  | x :: a, y :: b, z :: c, h1, h2 => by
    rw [lexN] at h1 h2 ⊢
    by_cases e1 : y = x
    · subst e1
      rw [if_pos rfl] at h1
      by_cases e2 : z = y
      · subst e2
        rw [if_pos rfl] at h2 ⊢
        exact lexN_trans h1 h2
      · rw [if_neg e2] at h2 ⊢
        exact h2
    · rw [if_neg e1] at h1
      have h1 := of_decide_eq_false h1
      by_cases e2 : z = y
      · subst e2
        rw [if_neg e1]
        exact decide_eq_false h1
      · rw [if_neg e2] at h2
        have h2 := of_decide_eq_false h2
        rw [if_neg (by omega)]
        exact decide_eq_false (by omega)
theorem lexN_tot : ∀ {a b : List Nat}, a.length = b.length → lexN a b = false → lexN b a = false → a = b
  | [], [], _, _, _ => rfl
  | [], _ :: _, h, _, _ => by cases h
  | _ :: _, [], h, _, _ => by cases h
  | x :: a, y :: b, h, h1, h2 => by
    rw [lexN] at h1 h2
    by_cases e : x = y
    · subst e
      rw [if_pos rfl] at h1 h2
      rw [lexN_tot (by simpa using h) h1 h2]
    · rw [if_neg e] at h1
      rw [if_neg (Ne.symm e)] at h2
      have h1 := of_decide_eq_false h1
      have h2 := of_decide_eq_false h2
      omega
theorem lexN_asym : ∀ {a b : List Nat}, lexN a b = true → lexN b a = false
  | [], [], h => by cases h
  | [], _ :: _, _ => rfl
  | _ :: _, [], h => by cases h
  | x :: a, y :: b, h => by
    rw [lexN] at h ⊢
    by_cases e : x = y
    · subst e
      rw [if_pos rfl] at h ⊢
      exact lexN_asym h
    · rw [if_neg e] at h
      rw [if_neg (Ne.symm e)]
      have h := of_decide_eq_true h
      exact decide_eq_false (by omega)
theorem kLe_refl (a : List Nat) : kLe a a := by
  unfold kLe kLt
  rw [if_pos rfl]
  exact lexN_irr a
theorem kLe_len {a b : List Nat} (h : kLe a b) : a.length ≤ b.length := by
  unfold kLe kLt at h
  by_cases e : b.length = a.length
  · omega
  · rw [if_neg e] at h
    have := of_decide_eq_false h
    omega
theorem kLe_lt {a b : List Nat} (h : a.length < b.length) : kLe a b := by
  unfold kLe kLt
  rw [if_neg (by omega)]
  exact decide_eq_false (by omega)
theorem kLe_trans {a b c : List Nat} (h1 : kLe a b) (h2 : kLe b c) : kLe a c := by
  have l1 := kLe_len h1
  have l2 := kLe_len h2
  by_cases e : a.length = c.length
  · unfold kLe kLt at h1 h2 ⊢
    rw [if_pos (by omega)] at h1 h2 ⊢
    exact lexN_trans h1 h2
  · exact kLe_lt (by omega)
theorem kLe_anti {a b : List Nat} (h1 : kLe a b) (h2 : kLe b a) : a = b := by
  have l1 := kLe_len h1
  have l2 := kLe_len h2
  unfold kLe kLt at h1 h2
  rw [if_pos (by omega)] at h1 h2
  exact lexN_tot (by omega) h2 h1
theorem kLt_le {a b : List Nat} (h : kLt a b = true) : kLe a b := by
  unfold kLe
  unfold kLt at h ⊢
  by_cases e : a.length = b.length
  · rw [if_pos e] at h
    rw [if_pos e.symm]
    exact lexN_asym h
  · rw [if_neg e] at h
    have h := of_decide_eq_true h
    rw [if_neg (by omega)]
    exact decide_eq_false (by omega)
theorem kLe_cons {a b : List Nat} (k : Nat) (h : kLe a b) : kLe (k :: a) (k :: b) := by
  unfold kLe kLt at h ⊢
  rw [List.length_cons, List.length_cons]
  by_cases e : b.length = a.length
  · rw [if_pos e] at h
    rw [if_pos (by omega), lexN, if_pos rfl]
    exact h
  · rw [if_neg e] at h
    have h := of_decide_eq_false h
    rw [if_neg (by omega)]
    exact decide_eq_false (by omega)
theorem kLe_first {a b : List Nat} {j k : Nat} (h : a.length ≤ b.length) (hk : j < k) : kLe (j :: a) (k :: b) := by
  unfold kLe kLt
  rw [List.length_cons, List.length_cons]
  by_cases e : b.length + 1 = a.length + 1
  · rw [if_pos e, lexN, if_neg (by omega)]
    exact decide_eq_false (by omega)
  · rw [if_neg e]
    exact decide_eq_false (by omega)
theorem kMin_spec : ∀ (l : List (List Nat)) (a : List Nat), (kMin a l = a ∨ kMin a l ∈ l) ∧ kLe (kMin a l) a ∧ ∀ b ∈ l, kLe (kMin a l) b
  | [], a => ⟨.inl rfl, kLe_refl a, fun b hb => (nomatch hb)⟩
  | b :: l, a => by
    rw [kMin]
    by_cases e : kLt b a = true
    · rw [if_pos e]
      obtain ⟨h1, h2, h3⟩ := kMin_spec l b
      refine ⟨.inr ?_, kLe_trans h2 (kLt_le e), fun c hc => ?_⟩
      · rcases h1 with z | z
        · rw [z]; exact List.mem_cons_self
        · exact List.mem_cons_of_mem _ z
      · rcases List.mem_cons.mp hc with z | z
        · rw [z]; exact h2
        · exact h3 c z
    · rw [if_neg e]
      obtain ⟨h1, h2, h3⟩ := kMin_spec l a
      refine ⟨?_, h2, fun c hc => ?_⟩
      · rcases h1 with z | z
        · exact .inl z
        · exact .inr (List.mem_cons_of_mem _ z)
      · rcases List.mem_cons.mp hc with z | z
        · rw [z]
          refine kLe_trans h2 ?_
          unfold kLe
          cases q : kLt b a
          · rfl
          · exact absurd q e
        · exact h3 c z
def kMinL : List (List Nat) → Option (List Nat)
  | [] => none
  | a :: l => some (kMin a l)
theorem kMinL_some {l : List (List Nat)} {a : List Nat} (h : kMinL l = some a) : a ∈ l ∧ ∀ b ∈ l, kLe a b := by
  cases l with
  | nil => cases h
  | cons x l =>
    obtain rfl := Option.some.inj h
    obtain ⟨h1, h2, h3⟩ := kMin_spec l x
    refine ⟨?_, fun b hb => ?_⟩
    · rcases h1 with z | z
      · rw [z]; exact List.mem_cons_self
      · exact List.mem_cons_of_mem _ z
    · rcases List.mem_cons.mp hb with z | z
      · rw [z]; exact h2
      · exact h3 b z
theorem kMinL_ne {l : List (List Nat)} (h : l ≠ []) : ∃ a, kMinL l = some a := by
  cases l with
  | nil => exact absurd rfl h
  | cons x l => exact ⟨_, rfl⟩
theorem kMinL_is {l : List (List Nat)} {a : List Nat} (h : a ∈ l) (hl : ∀ b ∈ l, kLe a b) : kMinL l = some a := by
  obtain ⟨b, hb⟩ := kMinL_ne (l := l) (fun z => by rw [z] at h; cases h)
  obtain ⟨h1, h2⟩ := kMinL_some hb
  rw [hb, kLe_anti (h2 a h) (hl b h1)]

def natsV (t : List Nat) : List V := t.map fun c => V.int ((c : Nat) : Int)
/-! ### a lambda of one parameter, called from within a built-in -/
section
variable {X : Cx} {pins : List (Addr × Obj)} {σ : L2.St} {H : Hp} {s : Shared}
theorem lam_call {x q : Str} {N : List Str} {params : Arguments} {body : Expr} {scope : Scope} {pm ctv u : Value} {f c' : Addr} {k : Nat} {tb : TE} {v : V} {Q : VK}
    (I : Inv X pins σ H s) (hf : s.heap.get? f = some (PySem.W.kla_obj "<lambda>" q params body scope [] pm c' ctv)) (hco : H c' = some (LamX.CodeO c' q)) (S : FnScope N [x] scope) (hr : Room (k + 1) X.A.in1)
    (hbind : bindArgs (PySem.W.kla_fn "<lambda>" q params body scope [] pm (.ref c') ctv) ⟨[u], []⟩ = pure [(x, u)])
    (hbody : ∀ (A : Around) (outer : List Env) (s : Shared) (H : Hp) (E : XK), Room k (A.deeper (envOfC q scope s.heap.objs.size f (.ref c'))) → PE (cxOf CX0 X.prog X.w X.K X.mg X.base N q scope f (.ref c') A outer s H E) body tb)
    (r : RelV v u) (h : tb (start N [v]) H Q) : wpAny (model X.prog X.w) X.A.in1 (call (.ref f) [u]) (EP X pins σ Q) (fun _ _ => False) s := by
  obtain ⟨⟨oc, vs, t, hoc, hdc, hvc⟩, _, _⟩ := (show ObjOk X.prog X.w H s.heap c' (LamX.CodeO c' q) from I.hok c' _ hco)
  have rc : codeAny (model X.prog X.w) X.A.in1 (.call (.ref f) ⟨[u], []⟩) (CR CX0 X.stack X.prog X.w H s Q E0) s := by
    refine PySem.W.kla_callFunE hr.depth hf rfl S.co S.gen rfl ⟨c', oc, vs, t, rfl, hoc, hdc, hvc⟩ ?_
    rw [hbind]
    refine wpAny_pure (wpAny_newFunctionEnv_cells S.kind (fun y hy => ?_) fun env he s1 x => ?_)
    · obtain rfl := List.mem_singleton.mp hy
      rcases S.par x (List.mem_singleton.mpr rfl) with z | z
      · exact .inl z
      · exact .inr ⟨z, PySem.W.cellsFrom_some _ _ _ (.inl z)⟩
    · subst he
      refine ⟨I.nolimit.keeps x.toInCall.keep, PySem.W.kla_codeExpr (wpAny_mono ((hbody X.A.in1 X.stack s H E0 (hr.deeper _)).run [] s1 (start N [v]) H _ (inv_start (us := [u]) S hr.hd I.env0.in1 rfl (.cons r .nil) x) h) (fun w s' hq => ?_) fun e s' hq => hq)⟩
      obtain ⟨w', H', J, rv, q⟩ := hq
      exact ⟨w', H', J.os, J.bare, J.base, J.hok, rv, q⟩
  refine wpAny_call (codeAny_mono rc fun r s' hq => ?_)
  cases r with
  | error e => exact (show False from hq).elim
  | ok fl =>
    cases fl with
    | ret u => exact I.after hq
    | next => exact False.elim hq
    | brk => exact False.elim hq
    | cont => exact False.elim hq
end
/-! ### the order of the keys -/
theorem eq_ints {A : Around} {s : Shared} (i j : Int) (t u : Tok) (hu : A.units < cLine) : SeqAt.EqAt A s (.int i t) (.int j u) (decide (i = j)) := by
  have := SeqAt.eqAt_reads (.int i) (.int j) A s (.int i t) (.int j u) _ _ (.int i t) (.int j u) rfl rfl (by show A.units + min 0 0 < cLine; simpa using hu)
  have e : PyData.eqv (.int i) (.int j) = decide (i = j) := by
    show (i == j) = _
    by_cases h : i = j
    · rw [decide_eq_true h, h]; simp
    · rw [decide_eq_false h]; simpa using h
  rw [← e]
  exact this
theorem first_lex : ∀ (m i : Nat) (a b : List Nat), m = min a.length b.length - i → i ≤ min a.length b.length →
    SeqAt.firstLt (fun j => decide (a.getD j 0 = b.getD j 0)) (fun j => decide (a.getD j 0 < b.getD j 0)) (decide (a.length < b.length)) (List.range' i m) = lexN (a.drop i) (b.drop i)
  | 0, i, a, b, hm, hi => by
    show decide (a.length < b.length) = _
    by_cases h : i < b.length
    · have ha : a.length ≤ i := by omega
      rw [List.drop_of_length_le ha, decide_eq_true (by omega)]
      cases e : b.drop i with
      | nil =>
        have := congrArg List.length e
        rw [List.length_drop] at this
        simp at this
        omega
      | cons _ _ => rfl
    · rw [List.drop_of_length_le (show b.length ≤ i by omega), decide_eq_false (by omega)]
      cases a.drop i <;> rfl
  | m + 1, i, a, b, hm, hi => by
    have h1 : i < a.length := by omega
    have h2 : i < b.length := by omega
    have ea : a.drop i = a.getD i 0 :: a.drop (i + 1) := by
      rw [List.getD_eq_getElem?_getD, List.getElem?_eq_getElem h1]
      exact (List.getElem_cons_drop h1).symm
    have eb : b.drop i = b.getD i 0 :: b.drop (i + 1) := by
      rw [List.getD_eq_getElem?_getD, List.getElem?_eq_getElem h2]
      exact (List.getElem_cons_drop h2).symm
    have ih := first_lex m (i + 1) a b (by omega) (by omega)
    rw [ea, eb, lexN, List.range'_succ]
    by_cases e : a.getD i 0 = b.getD i 0
    · rw [SeqAt.firstLt_yes (decide_eq_true e), if_pos e]
      exact ih
    · rw [SeqAt.firstLt_no (decide_eq_false e), if_neg e]
section
variable {X : Cx} {pins : List (Addr × Obj)} {σ : L2.St} {H : Hp} {s : Shared}
theorem nats_get {a : List Nat} {its : List Value} (r : Vals (natsV a) its) {j : Nat} (h : j < its.length) : ∃ t, its[j] = .int ((a.getD j 0 : Nat) : Int) t := by
  have hl := r.length
  unfold natsV at hl
  rw [List.length_map] at hl
  have hj : j < a.length := by omega
  obtain ⟨u, hu, ru⟩ := r.get (i := j) (x := V.int ((a.getD j 0 : Nat) : Int)) (by
    unfold natsV
    rw [List.getElem?_map, List.getD_eq_getElem?_getD, List.getElem?_eq_getElem hj]
    rfl)
  obtain ⟨t, rfl⟩ := ru
  exact ⟨t, by rw [List.getElem?_eq_getElem h] at hu; exact Option.some.inj hu⟩
theorem list_key {A : Around} {la lb : Addr} {a b : List Nat} (I : Inv X pins σ H s) (h1 : H la = some (.lst (natsV a))) (h2 : H lb = some (.lst (natsV b))) (hu : A.units + 8 < cLine) :
    SeqAt.EqAt A s (.ref la) (.ref lb) (decide (a = b)) ∧ SeqAt.RcLt A s (.ref la) (.ref lb) (lexN a b) := by
  obtain ⟨i1, r1, p1, z1⟩ := I.list (SqL.of h1)
  obtain ⟨i2, r2, p2, z2⟩ := I.list (SqL.of h2)
  have l1 : i1.length = a.length := by rw [← r1.length]; exact List.length_map _
  have l2 : i2.length = b.length := by rw [← r2.length]; exact List.length_map _
  refine ⟨?_, ?_⟩
  · have c1 : natsV a = (a.map fun c => ((c : Nat) : Int)).map V.int := by unfold natsV; rw [List.map_map]; rfl
    have c2 : natsV b = (b.map fun c => ((c : Nat) : Int)).map V.int := by unfold natsV; rw [List.map_map]; rfl
    rw [c1] at h1
    rw [c2] at h2
    obtain ⟨as, q1⟩ := Dp.reads I _ _ (.ref la) (dp_ints (K := X.K) h1) rfl
    obtain ⟨bs, q2⟩ := Dp.reads I _ _ (.ref lb) (dp_ints (K := X.K) h2) rfl
    have := SeqAt.eqAt_reads _ _ A s _ _ _ _ q1 q2 (can_ints _) (can_ints _) (by
      show A.units + min (PyData.depthAll _ + 1) (PyData.depthAll _ + 1) < cLine
      rw [depth_ints, depth_ints]
      show A.units + 1 < cLine
      omega)
    rw [eqv_ints] at this
    have e : decide ((a.map fun c => ((c : Nat) : Int)) = (b.map fun c => ((c : Nat) : Int))) = decide (a = b) := by
      have inj : (a.map fun c => ((c : Nat) : Int)) = (b.map fun c => ((c : Nat) : Int)) ↔ a = b := ⟨fun z => List.map_inj_right (fun x y h => by omega) |>.mp z, fun z => by rw [z]⟩
      by_cases h : a = b
      · rw [decide_eq_true h, decide_eq_true (inj.mpr h)]
      · rw [decide_eq_false h, decide_eq_false fun z => h (inj.mp z)]
    rw [← e]
    exact this
  · have := SeqAt.RcLt.lists (A := A) (s := s) (e := fun j => decide (a.getD j 0 = b.getD j 0)) (r := fun j => decide (a.getD j 0 < b.getD j 0)) p1.isList p2.isList (by omega)
      (fun j h1 h2 => by
        obtain ⟨t, e1⟩ := nats_get r1 (j := j) (by simpa using h1)
        obtain ⟨u, e2⟩ := nats_get r2 (j := j) (by simpa using h2)
        have := eq_ints (A := A.in1) (s := s) ((a.getD j 0 : Nat) : Int) ((b.getD j 0 : Nat) : Int) t u (by show A.units + 1 < _; omega)
        have e3 : decide (((a.getD j 0 : Nat) : Int) = ((b.getD j 0 : Nat) : Int)) = decide (a.getD j 0 = b.getD j 0) := by
          by_cases h : a.getD j 0 = b.getD j 0
          · rw [decide_eq_true h, decide_eq_true (by rw [h])]
          · rw [decide_eq_false h, decide_eq_false (by omega)]
        rw [e3] at this
        simpa [e1, e2] using this)
      (fun j h1 h2 _ => by
        obtain ⟨t, e1⟩ := nats_get r1 (j := j) (by simpa using h1)
        obtain ⟨u, e2⟩ := nats_get r2 (j := j) (by simpa using h2)
        have e3 : decide (((a.getD j 0 : Nat) : Int) < ((b.getD j 0 : Nat) : Int)) = decide (a.getD j 0 < b.getD j 0) := by
          by_cases h : a.getD j 0 < b.getD j 0
          · rw [decide_eq_true h, decide_eq_true (by omega)]
          · rw [decide_eq_false h, decide_eq_false (by omega)]
        intro prog w E Q hq
        have g1 : i1.toArray[j] = .int ((a.getD j 0 : Nat) : Int) t := by simpa using e1
        have g2 : i2.toArray[j] = .int ((b.getD j 0 : Nat) : Int) u := by simpa using e2
        rw [g1, g2]
        exact PyProof.Rows.lt_int (by rw [e3]; exact hq))
    have e4 := first_lex (min a.length b.length) 0 a b rfl (Nat.zero_le _)
    rw [List.drop_zero, List.drop_zero, ← List.range_eq_range'] at e4
    rw [← e4, ← l1, ← l2]
    simpa using this
/-- (len, list) < (len, list) -/
theorem key_lt {A : Around} {ka kb la lb : Addr} {a b : List Nat} (I : Inv X pins σ H s) (t1 : H ka = some (.tup [.int (a.length : Int), .ref la])) (t2 : H kb = some (.tup [.int (b.length : Int), .ref lb]))
    (h1 : H la = some (.lst (natsV a))) (h2 : H lb = some (.lst (natsV b))) (hu : A.units + 16 < cLine) : SeqAt.RcLt A s (.ref ka) (.ref kb) (kLt a b) := by
  obtain ⟨_, i1, r1, o1, g1, c1, n1, d1⟩ := (show ObjOk X.prog X.w H s.heap ka _ from I.hok ka _ t1)
  obtain ⟨_, i2, r2, o2, g2, c2, n2, d2⟩ := (show ObjOk X.prog X.w H s.heap kb _ from I.hok kb _ t2)
  obtain ⟨u1, w1, rfl, ⟨k1, rfl⟩, e1⟩ := vals2 r1
  obtain ⟨u2, w2, rfl, ⟨k2, rfl⟩, e2⟩ := vals2 r2
  obtain rfl : w1 = Value.ref la := e1
  obtain rfl : w2 = Value.ref lb := e2
  obtain ⟨le, ll⟩ := list_key (A := A.in1) I h1 h2 (by show A.units + 1 + 8 < _; omega)
  have := SeqAt.RcLt.tuples (A := A) (s := s) (l := ka) (b := kb) (e := fun j => if j = 0 then decide (a.length = b.length) else decide (a = b)) (r := fun j => if j = 0 then decide (a.length < b.length) else lexN a b) ⟨o1, g1, c1, n1, d1⟩ ⟨o2, g2, c2, n2, d2⟩ (by omega)
    (fun j h1 h2 => by
      match j, h1, h2 with
      | 0, _, _ =>
        have := eq_ints (A := A.in1) (s := s) (a.length : Int) (b.length : Int) k1 k2 (by show A.units + 1 < _; omega)
        have e3 : decide ((a.length : Int) = (b.length : Int)) = decide (a.length = b.length) := by
          by_cases h : a.length = b.length
          · rw [decide_eq_true h, decide_eq_true (by omega)]
          · rw [decide_eq_false h, decide_eq_false (by omega)]
        rw [e3] at this
        exact this
      | 1, _, _ => exact le)
    (fun j h1 h2 _ => by
      match j, h1, h2 with
      | 0, _, _ =>
        have e3 : decide ((a.length : Int) < (b.length : Int)) = decide (a.length < b.length) := by
          by_cases h : a.length < b.length
          · rw [decide_eq_true h, decide_eq_true (by omega)]
          · rw [decide_eq_false h, decide_eq_false (by omega)]
        intro prog w E Q hq
        exact PyProof.Rows.lt_int (by rw [e3]; exact hq)
      | 1, _, _ => exact ll)
  have e4 : SeqAt.firstLt (fun j => if j = 0 then decide (a.length = b.length) else decide (a = b)) (fun j => if j = 0 then decide (a.length < b.length) else lexN a b) (decide (2 < 2)) [0, 1] = kLt a b := by
    unfold kLt
    by_cases h : a.length = b.length
    · rw [SeqAt.firstLt_yes (by rw [if_pos rfl]; exact decide_eq_true h), if_pos h]
      by_cases h2 : a = b
      · rw [SeqAt.firstLt_yes (by rw [if_neg (by decide)]; exact decide_eq_true h2), h2]
        exact (lexN_irr b).symm
      · rw [SeqAt.firstLt_no (by rw [if_neg (by decide)]; exact decide_eq_false h2)]
        rfl
    · rw [SeqAt.firstLt_no (by rw [if_pos rfl]; exact decide_eq_false h), if_neg h]
      rfl
  rw [← e4]
  exact this
end
/-! ### the walk of min -/
section
variable {X : Cx} {pins : List (Addr × Obj)} {σ : L2.St} {H : Hp} {s : Shared}
theorem FpOk.to {b : Addr} {H1 : Hp} (h : FpOk X pins H b) (e : H1 b = none) : FpOk X pins H1 b := ⟨e, h.2⟩
theorem unpin {p : Addr × Obj} (I : Inv X (p :: pins) σ H s) : Inv X pins σ H s := I.pins_of fun q hq => I.pin q (List.mem_append_right _ (List.mem_cons_of_mem _ hq))
theorem pinned {b : Addr} {o : Obj} (I : Inv X pins σ H s) (e : s.heap.get? b = some o) (h : FpOk X pins H b) (hc : ∀ v, o.data ≠ .cell v) : Inv X ((b, o) :: pins) σ H s := I.pins_of fun q hq => by
  rcases List.mem_cons.mp hq with z | z
  · rw [z]
    exact ⟨e, h.1, h.2.1, h.2.2.1, hc⟩
  · exact I.pin q (List.mem_append_right _ z)
/-- an own object that is not told of has changed -/
theorem repin {b : Addr} {o o' : Obj} {h' : Heap} {tk : Nat} (I : Inv X ((b, o) :: pins) σ H s) (f : FpOk X pins H b) (k : ∀ c u, c ≠ b → s.heap.get? c = some u → h'.get? c = some u) (e : h'.get? b = some o') (hc : ∀ v, o'.data ≠ .cell v) :
    Inv X ((b, o') :: pins) σ H { s with heap := h', toks := tk } := by
  obtain ⟨f0, f1, f2, f3, f4, f5⟩ := f
  exact pinned ((unpin I).turned (t' := tk) k f0 f1 f3 f4 f5) e ⟨f0, f1, f2, f3, f4, f5⟩ hc
theorem unpinned {b : Addr} {o : Obj} {h' : Heap} {tk : Nat} (I : Inv X ((b, o) :: pins) σ H s) (f : FpOk X pins H b) (k : ∀ c u, c ≠ b → s.heap.get? c = some u → h'.get? c = some u) :
    Inv X pins σ H { s with heap := h', toks := tk } := by
  obtain ⟨f0, f1, f2, f3, f4, f5⟩ := f
  exact (unpin I).turned (t' := tk) k f0 f1 f3 f4 f5
theorem swap_pins {p q : Addr × Obj} (I : Inv X (p :: q :: pins) σ H s) : Inv X (q :: p :: pins) σ H s := I.pins_of fun r hr => I.pin r (List.mem_append_right _ (by
  rcases List.mem_cons.mp hr with z | z
  · rw [z]; exact List.mem_cons_of_mem _ List.mem_cons_self
  · rcases List.mem_cons.mp z with z | z
    · rw [z]; exact List.mem_cons_self
    · exact List.mem_cons_of_mem _ (List.mem_cons_of_mem _ z)))
/-- what the key's def does: the pair of the list's length and the list -/
def KeyF (X : Cx) (σ : L2.St) (f : Addr) (oF : Obj) (H0 : Hp) (ps : List (Addr × List Nat)) : Prop := ∀ (pins : List (Addr × Obj)) (s : Shared) (H1 : Hp) (p : Addr × List Nat), p ∈ ps → Inv X pins σ H1 s → s.heap.get? f = some oF → Same H0 H1 →
  wpAny (model X.prog X.w) X.A.in1 (call (.ref f) [.ref p.1]) (EP X pins σ fun v H2 => ∃ t, v = .ref t ∧ Same H1 H2 ∧ H2 t = some (.tup [.int (p.2.length : Int), .ref p.1])) (fun _ _ => False) s
abbrev itObj (a : Addr) (i : Nat) : Obj := { cls := .type "list_iterator", data := .fields #[.ref a, .int (i : Int) 0] }
variable {H0 : Hp} {f a It S : Addr} {oF : Obj} {ps : List (Addr × List Nat)} {res : List Nat} {kw : List (Str × Value)} {R : Result → Shared → Prop}
/-- the iterator's next -/
theorem min_turn {oS : Obj} {Q : Option Value → Shared → Prop} {E : Value → Shared → Prop} {done rest : List (Addr × List Nat)} {p : Addr × List Nat} {oI : Obj} (hh : X.A.handled = none) (ep : ps = done ++ p :: rest)
    (ha : H0 a = some (.lst (ps.map fun p => V.ref p.1))) (fI : FpOk X ((f, oF) :: pins) H0 It) (hSI : S ≠ It)
    (I : Inv X ((S, oS) :: (It, oI) :: (f, oF) :: pins) σ H s) (sH : Same H0 H) (hit : s.heap.IsListIter It a done.length)
    (go : ∀ (oI' : Obj) (h' : Heap) (tk : Nat), Inv X ((S, oS) :: (It, oI') :: (f, oF) :: pins) σ H { s with heap := h', toks := tk } → h'.IsListIter It a (done.length + 1) → Q (some (.ref p.1)) { s with heap := h', toks := tk }) :
    wpAny (model X.prog X.w) X.A.in1 (pyNext (.ref It)) Q E s := by
  obtain ⟨its, rv, pl, hz⟩ := I.list (SqL.of (sH _ _ ha))
  have ei : its = ps.map fun p => Value.ref p.1 := by
    have e1 : (ps.map fun p => V.ref p.1) = (ps.map (·.1)).map V.ref := by rw [List.map_map]; rfl
    rw [e1] at rv
    rw [refs_at rv, List.map_map]
    rfl
  have haI : a ≠ It := ne_of_none (sH _ _ ha) (I.pin _ (List.mem_append_right _ (List.mem_cons_of_mem _ List.mem_cons_self))).2.1
  have W := Walks.list (prog := X.prog) (w := X.w) (A := X.A.in1) hh It a haI its.toArray
  have hlt : done.length < its.toArray.size := by rw [ei, List.size_toArray, List.length_map, ep, List.length_append, List.length_cons]; omega
  refine W.item done.length s _ _ hlt ⟨hit, pl.isList⟩ fun v h' tk hv st k => ?_
  have ev : v = .ref p.1 := by
    rw [ei, List.getElem?_toArray, List.getElem?_map, ep, List.getElem?_append_right (Nat.le_refl _), Nat.sub_self] at hv
    exact (Option.some.inj hv).symm
  rw [ev]
  obtain ⟨oI', e', c', d'⟩ := id st.1
  have fI2 : FpOk X ((S, oS) :: (f, oF) :: pins) H It := by
    obtain ⟨g0, g1, g2, g3, g4, g5⟩ := fI
    refine ⟨(I.pin _ (List.mem_append_right _ (List.mem_cons_of_mem _ List.mem_cons_self))).2.1, g1, g2, g3, g4, fun q hq => ?_⟩
    rcases List.mem_append.mp hq with z | z
    · exact g5 q (List.mem_append_left _ z)
    · rcases List.mem_cons.mp z with z | z
      · rw [z]; exact hSI
      · exact g5 q (List.mem_append_right _ z)
  exact go oI' h' tk (swap_pins (repin (swap_pins I) fI2 (fun b o hb e => k b o (by simpa using hb) e) e' fun v z => by rw [d'] at z; cases z)) st.1
theorem min_stop {oS : Obj} {Q : Option Value → Shared → Prop} {E : Value → Shared → Prop} {oI : Obj} (hh : X.A.handled = none)
    (ha : H0 a = some (.lst (ps.map fun p => V.ref p.1))) (fI : FpOk X ((f, oF) :: pins) H0 It) (hSI : S ≠ It)
    (I : Inv X ((S, oS) :: (It, oI) :: (f, oF) :: pins) σ H s) (sH : Same H0 H) (hit : s.heap.IsListIter It a ps.length)
    (go : ∀ (h' : Heap) (tk : Nat), Inv X ((S, oS) :: pins) σ H { s with heap := h', toks := tk } → Q none { s with heap := h', toks := tk }) :
    wpAny (model X.prog X.w) X.A.in1 (pyNext (.ref It)) Q E s := by
  obtain ⟨its, rv, pl, hz⟩ := I.list (SqL.of (sH _ _ ha))
  have hl : its.toArray.size = ps.length := by rw [List.size_toArray, ← rv.length, List.length_map]
  have haI : a ≠ It := ne_of_none (sH _ _ ha) (I.pin _ (List.mem_append_right _ (List.mem_cons_of_mem _ List.mem_cons_self))).2.1
  have W := Walks.list (prog := X.prog) (w := X.w) (A := X.A.in1) hh It a haI its.toArray
  refine W.done s _ _ ⟨by rw [hl]; exact hit, pl.isList⟩ fun h' tk k => ?_
  have fI2 : FpOk X ((S, oS) :: (f, oF) :: pins) H It := by
    obtain ⟨g0, g1, g2, g3, g4, g5⟩ := fI
    refine ⟨(I.pin _ (List.mem_append_right _ (List.mem_cons_of_mem _ List.mem_cons_self))).2.1, g1, g2, g3, g4, fun q hq => ?_⟩
    rcases List.mem_append.mp hq with z | z
    · exact g5 q (List.mem_append_left _ z)
    · rcases List.mem_cons.mp z with z | z
      · rw [z]; exact hSI
      · exact g5 q (List.mem_append_right _ z)
  exact go h' tk (unpin (swap_pins (unpinned (swap_pins I) fI2 fun b o hb e => k b o (by simpa using hb) e)))
theorem min_name : (toString "min" ++ toString ".loop" : String) = "min.loop" := by decide
theorem pinOf {p : Addr × Obj} (I : Inv X (p :: pins) σ H s) : s.heap.get? p.1 = some p.2 ∧ H p.1 = none := ⟨(I.pin p (List.mem_append_right _ List.mem_cons_self)).1, (I.pin p (List.mem_append_right _ List.mem_cons_self)).2.1⟩
theorem min_loop (hh : X.A.handled = none) (hu : X.A.units + 40 < cLine) (kf : KeyF X σ f oF H0 ps) (hps : ∀ p ∈ ps, H0 p.1 = some (.lst (natsV p.2))) (ha : H0 a = some (.lst (ps.map fun p => V.ref p.1)))
    (fI : FpOk X ((f, oF) :: pins) H0 It) (fS : FpOk X ((f, oF) :: pins) H0 S) (hSI : S ≠ It) (hR : ∀ p H1 s', p ∈ ps → p.2 = res → Inv X pins σ H1 s' → Same H0 H1 → R (.ok (.ret (.ref p.1))) s') :
    ∀ (rest done : List (Addr × List Nat)) (p : Addr × List Nat) (H : Hp) (s : Shared) (kb : Addr) (oI : Obj) (nS : Nat), ps = done ++ rest → p ∈ ps → kMin p.2 (rest.map (·.2)) = res →
      Inv X ((S, seqObj "list" #[.ref p.1, .ref kb] nS) :: (It, oI) :: (f, oF) :: pins) σ H s → Same H0 H → H kb = some (.tup [.int (p.2.length : Int), .ref p.1]) → s.heap.IsListIter It a done.length →
      codeAny (model X.prog X.w) X.A (.builtin "min.loop" ⟨[.ref It, .ref f, .ref S], kw⟩) R s := by
  intro rest
  induction rest with
  | nil =>
    intro done p H s kb oI nS ep hp hres I sH hk hit
    rw [List.append_nil] at ep
    subst ep
    refine codeAny_builtin PySem.F.entry_min_loop (?_ : wpAny _ _ _ _ _ s)
    rw [Around.under_plainId PySem.F.plain_min_loop ⟨[.ref It, .ref f, .ref S], kw⟩]
    show wpAny _ X.A.in1 (seqItems? (.ref S) >>= _) _ _ s
    refine wpAny_bind (wpAny_seqItems (pinOf I).1 rfl (?_ : wpAny _ _ _ _ _ s))
    show wpAny _ X.A.in1 (tryCatch (pyNext (.ref It)) _ >>= _) _ _ _
    refine wpAny_bind (wpAny_tryCatch (min_stop hh ha fI hSI I sH hit fun h' tk I' => ?_))
    obtain ⟨eS, nS'⟩ := pinOf I'
    show wpAny _ X.A.in1 (updateSeq S (fun _ => #[]) >>= _) _ _ _
    refine wpAny_bind (wpAny_updateSeq eS rfl (wpAny_bind (wpAny_letGo (wpAny_pure ?_))))
    have sb := Heap.SameBut.update h' S (Obj.mapSeq fun _ => (#[] : Array Value))
    exact hR p H _ hp hres (unpinned (s := { s with heap := h', toks := tk }) (tk := tk) I' ⟨nS', fS.2.1, fS.2.2.1, fS.2.2.2.1, fS.2.2.2.2.1, fun q hq => fS.2.2.2.2.2 q (by
      rcases List.mem_append.mp hq with z | z
      · exact List.mem_append_left _ z
      · exact List.mem_append_right _ (List.mem_cons_of_mem _ z))⟩ fun b o hb e => (sb.2 b hb).trans e) sH
  | cons x rest ih =>
    intro done p H s kb oI nS ep hp hres I sH hk hit
    have hx : x ∈ ps := by rw [ep]; exact List.mem_append_right _ List.mem_cons_self
    refine codeAny_builtin PySem.F.entry_min_loop (?_ : wpAny _ _ _ _ _ s)
    rw [Around.under_plainId PySem.F.plain_min_loop ⟨[.ref It, .ref f, .ref S], kw⟩]
    show wpAny _ X.A.in1 (seqItems? (.ref S) >>= _) _ _ s
    refine wpAny_bind (wpAny_seqItems (pinOf I).1 rfl (?_ : wpAny _ _ _ _ _ s))
    show wpAny _ X.A.in1 (tryCatch (pyNext (.ref It)) _ >>= _) _ _ _
    refine wpAny_bind (wpAny_tryCatch (min_turn hh ep ha fI hSI I sH hit fun oI' h' tk I1 hit1 => ?_))
    have gf1 : h'.get? f = some oF := (pinOf (unpin (unpin I1))).1
    show wpAny _ X.A.in1 (tryCatch (holding [.ref x.1] (call (.ref f) [.ref x.1])) _ >>= _) _ _ _
    refine wpAny_bind (wpAny_tryCatch (wpAny_holding (wpAny_mono (kf _ _ H x hx I1 gf1 sH) (fun u s2 he => ?_) fun _ _ hF => hF.elim)))
    obtain ⟨v, H2, I2, rv, t, rfl, s12, ht⟩ := he
    obtain rfl : u = Value.ref t := rv
    have sH2 := sH.trans s12
    have hk2 := s12 _ _ hk
    obtain ⟨oI2, eI2, cI2, dI2⟩ := id hit1
    have hit2 : s2.heap.IsListIter It a (done.length + 1) := by
      have e1 := (pinOf (unpin I1)).1
      rw [e1] at eI2
      cases eI2
      exact ⟨oI', (pinOf (unpin I2)).1, cI2, dI2⟩
    have lt := key_lt (A := X.A.in1) I2 ht hk2 (sH2 _ _ (hps x hx)) (sH2 _ _ (hps p hp)) (by show X.A.units + 1 + 16 < _; omega)
    show wpAny _ X.A.in1 (tryCatch (holding [.ref x.1, .ref t] (richCompare .Lt (.ref t) (.ref kb) >>= _)) _ >>= _) _ _ _
    refine wpAny_bind (wpAny_tryCatch (wpAny_holding (wpAny_bind (lt _ _ _ _ (wpAny_bind (wpAny_holding (wpAny_truthy_bool (wpAny_bind (wpAny_letGo (wpAny_pure ?_))))))))))
    rw [List.map_cons, kMin] at hres
    by_cases hb : kLt x.2 p.2 = true
    · rw [if_pos hb] at hres
      rw [hb, if_pos rfl]
      obtain ⟨eS, nS'⟩ := pinOf I2
      have sb := Heap.SameBut.update s2.heap S (Obj.mapSeq fun _ => #[.ref x.1, .ref t])
      obtain ⟨c2, hc2⟩ : ∃ c2, (s2.heap.update S (Obj.mapSeq fun _ => #[.ref x.1, .ref t])).get? S = some (seqObj "list" #[.ref x.1, .ref t] c2) := ⟨_, get?_update_seq eS fun _ => #[.ref x.1, .ref t]⟩
      refine wpAny_bind (wpAny_updateSeq eS rfl (wpAny_bind (wpAny_letGo ?_)))
      rw [min_name]
      have fS2 : FpOk X ((It, oI') :: (f, oF) :: pins) H2 S := by
        obtain ⟨g0, g1, g2, g3, g4, g5⟩ := fS
        refine ⟨nS', g1, g2, g3, g4, fun q hq => ?_⟩
        rcases List.mem_append.mp hq with z | z
        · exact g5 q (List.mem_append_left _ z)
        · rcases List.mem_cons.mp z with z | z
          · rw [z]; exact hSI.symm
          · exact g5 q (List.mem_append_right _ z)
      refine wpAny_pure ⟨plainId_quiet PySem.F.plain_min_loop _, ih (done ++ [x]) x H2 _ t oI' c2 (by rw [List.append_assoc]; exact ep) hx hres (repin (tk := s2.toks) I2 fS2 (fun b o hb e => (sb.2 b hb).trans e) hc2 fun v z => by cases z) sH2 ht ?_⟩
      rw [List.length_append]
      exact ⟨oI', (sb.2 It (Ne.symm hSI)).trans (pinOf (unpin I2)).1, by obtain ⟨o, e, c, d⟩ := hit2; rw [(pinOf (unpin I2)).1] at e; cases e; exact ⟨c, d⟩⟩
    · have hb' : kLt x.2 p.2 = false := by cases e : kLt x.2 p.2 <;> first | rfl | exact absurd e hb
      rw [if_neg hb] at hres
      rw [hb', if_neg Bool.false_ne_true]
      refine wpAny_bind (wpAny_letGo ?_)
      rw [min_name]
      refine wpAny_pure ⟨plainId_quiet PySem.F.plain_min_loop _, ih (done ++ [x]) p H2 _ kb oI' nS (by rw [List.append_assoc]; exact ep) hp hres I2 sH2 hk2 ?_⟩
      rw [List.length_append]
      exact hit2
theorem fp_more {b c : Addr} {o : Obj} {H1 : Hp} (h : FpOk X pins H1 b) (e : c ≠ b) : FpOk X ((c, o) :: pins) H1 b := by
  obtain ⟨g0, g1, g2, g3, g4, g5⟩ := h
  refine ⟨g0, g1, g2, g3, g4, fun q hq => ?_⟩
  rcases List.mem_append.mp hq with z | z
  · exact g5 q (List.mem_append_left _ z)
  · rcases List.mem_cons.mp z with z | z
    · rw [z]; exact e
    · exact g5 q (List.mem_append_right _ z)
theorem min_args2 (a v d : Value) : argsOk "min" ⟨[a], [(Str.ofString "key", v), (Str.ofString "default", d)]⟩ := by unfold argsOk; kernel_rfl
/-- min(xs, key=f), min(xs, key=f, default=None) -/
theorem min_run {pins : List (Addr × Obj)} {Q : VK} {dv : Option Value} (hh : X.A.handled = none) (hu : X.A.units + 40 < cLine) (kf : KeyF X σ f oF H0 ps) (hps : ∀ p ∈ ps, H0 p.1 = some (.lst (natsV p.2))) (ha : H0 a = some (.lst (ps.map fun p => V.ref p.1)))
    (I : Inv X ((f, oF) :: pins) σ H0 s) (hkw : kw = [(Str.ofString "key", .ref f)] ∧ dv = none ∧ ps ≠ [] ∨ kw = [(Str.ofString "key", .ref f), (Str.ofString "default", .none)] ∧ dv = some .none)
    (q0 : ps = [] → ∀ H1, Same H0 H1 → Q .non H1) (q1 : ∀ p ∈ ps, kMinL (ps.map (·.2)) = some p.2 → ∀ H1, Same H0 H1 → Q (.ref p.1) H1) :
    wpAny (model X.prog X.w) X.A (call (.builtin "min") [.ref a] kw) (EP X pins σ Q) X.xe s := by
  have args : argsOk "min" ⟨[.ref a], kw⟩ := by
    rcases hkw with ⟨rfl, _⟩ | ⟨rfl, _⟩
    · exact PyProof.Rows.kmk_min_key (.ref a) (.ref f)
    · exact min_args2 (.ref a) (.ref f) .none
  have bp : Builtin.Builtins.bindParams "min" ["key", "default"] 0 ⟨[], kw⟩ = pure [some (.ref f), dv] := by
    rcases hkw with ⟨rfl, rfl, _⟩ | ⟨rfl, rfl⟩ <;> rfl
  refine PyProof.Rows.kmk_tree PySem.F.kind_min PySem.F.plain_min PySem.F.entry_min args (?_ : wpAny _ _ _ _ _ s)
  show wpAny _ X.A.in1 (Builtin.Builtins.bindParams "min" ["key", "default"] 0 ⟨[], kw⟩ >>= _) _ _ s
  refine wpAny_bind (wpAny_of_eq bp ?_)
  obtain ⟨its, rv, pl, hz⟩ := I.list (SqL.of ha)
  refine wpAny_bind (wpAny_pure (wpAny_bind (wpAny_pyIter_list pl.isList (wpAny_bind (wpAny_newList ?_ (Nat.zero_le _))))))
  rw [min_name]
  refine wpAny_pure ⟨plainId_quiet PySem.F.plain_min_loop _, ?_⟩
  have hl : its.length = ps.length := by rw [← rv.length, List.length_map]
  obtain ⟨It, hIt⟩ : ∃ It, It = s.heap.objs.size := ⟨_, rfl⟩
  obtain ⟨S, hS⟩ : ∃ S, S = (s.heap.push (itObj a 0)).objs.size := ⟨_, rfl⟩
  have hS1 : S = It + 1 := by rw [hS, hIt]; exact size_push' ..
  have hSI : S ≠ It := by omega
  obtain ⟨h2, eh2⟩ : ∃ h2, h2 = (s.heap.push (itObj a 0)).push (seqObj "list" #[] 0) := ⟨_, rfl⟩
  have gI : h2.get? It = some (itObj a 0) := by rw [eh2, hIt]; exact Heap.get?_push_of_some _ (Heap.get?_push_size _ rfl)
  have gS : h2.get? S = some (seqObj "list" #[] 0) := by rw [eh2, hS]; exact Heap.get?_push_size _ rfl
  have kept : ∀ b o, s.heap.get? b = some o → h2.get? b = some o := fun b o e => by rw [eh2]; exact Heap.get?_push_of_some _ (Heap.get?_push_of_some _ e)
  have fI : FpOk X ((f, oF) :: pins) H0 It := I.fpOk (by omega) (I.hok.fresh (by omega))
  have fS : FpOk X ((f, oF) :: pins) H0 S := I.fpOk (by omega) (I.hok.fresh (by omega))
  have I2 : Inv X ((S, seqObj "list" #[] 0) :: (It, itObj a 0) :: (f, oF) :: pins) σ H0 { s with heap := h2 } :=
    pinned (s := { s with heap := h2 }) (pinned (s := { s with heap := h2 }) (I.kept (t' := s.toks) kept) gI fI fun v z => by cases z) gS (fp_more fS (Ne.symm hSI)) fun v z => by cases z
  have hit : h2.IsListIter It a 0 := ⟨_, gI, rfl, rfl⟩
  suffices hc : codeAny (model X.prog X.w) X.A (.builtin "min.loop" ⟨[.ref It, .ref f, .ref S], dv.toList.map fun d => ("default", d)⟩)
      (fun r s' => match r with | .ok (.ret v) => EP X pins σ Q v s' | .ok _ => False | .error e => X.xe e s') { s with heap := h2 } by
    rw [hIt, hS, eh2] at hc
    exact hc
  cases ps with
  | nil =>
    have edv : dv = some .none := by
      rcases hkw with ⟨_, _, z⟩ | ⟨_, z⟩
      · exact absurd rfl z
      · exact z
    subst edv
    refine codeAny_builtin PySem.F.entry_min_loop (?_ : wpAny _ _ _ _ _ { s with heap := h2 })
    rw [Around.under_plainId PySem.F.plain_min_loop ⟨[.ref It, .ref f, .ref S], (some Value.none).toList.map fun d => ("default", d)⟩]
    show wpAny _ X.A.in1 (seqItems? (.ref S) >>= _) _ _ { s with heap := h2 }
    refine wpAny_bind (wpAny_seqItems gS rfl (?_ : wpAny _ _ _ _ _ { s with heap := h2 }))
    show wpAny _ X.A.in1 (tryCatch (pyNext (.ref It)) _ >>= _) _ _ { s with heap := h2 }
    refine wpAny_bind (wpAny_tryCatch (min_stop hh ha fI hSI I2 (Same.refl _) hit fun h' tk I' => ?_))
    refine wpAny_bind (wpAny_rule (wpAny_pure ?_))
    exact ⟨.non, H0, unpin I', rfl, q0 rfl H0 (Same.refl _)⟩
  | cons x rest =>
    have hx : x ∈ x :: rest := List.mem_cons_self
    refine codeAny_builtin PySem.F.entry_min_loop (?_ : wpAny _ _ _ _ _ { s with heap := h2 })
    rw [Around.under_plainId PySem.F.plain_min_loop ⟨[.ref It, .ref f, .ref S], dv.toList.map fun d => ("default", d)⟩]
    show wpAny _ X.A.in1 (seqItems? (.ref S) >>= _) _ _ { s with heap := h2 }
    refine wpAny_bind (wpAny_seqItems gS rfl (?_ : wpAny _ _ _ _ _ { s with heap := h2 }))
    show wpAny _ X.A.in1 (tryCatch (pyNext (.ref It)) _ >>= _) _ _ { s with heap := h2 }
    refine wpAny_bind (wpAny_tryCatch (min_turn (done := []) hh rfl ha fI hSI I2 (Same.refl _) hit fun oI' h' tk I1 hit1 => ?_))
    have gf1 : h'.get? f = some oF := (pinOf (unpin (unpin I1))).1
    show wpAny _ X.A.in1 (tryCatch (holding [.ref x.1] (call (.ref f) [.ref x.1])) _ >>= _) _ _ _
    refine wpAny_bind (wpAny_tryCatch (wpAny_holding (wpAny_mono (kf _ _ H0 x hx I1 gf1 (Same.refl _)) (fun u s2 he => ?_) fun _ _ hF => hF.elim)))
    obtain ⟨v, H2, I3, rv, t, rfl, s12, ht⟩ := he
    obtain rfl : u = Value.ref t := rv
    obtain ⟨oI2, eI2, cI2, dI2⟩ := id hit1
    have hit2 : s2.heap.IsListIter It a 1 := by
      have e1 := (pinOf (unpin I1)).1
      rw [e1] at eI2
      cases eI2
      exact ⟨oI', (pinOf (unpin I3)).1, cI2, dI2⟩
    obtain ⟨eS, nS'⟩ := pinOf I3
    have sb := Heap.SameBut.update s2.heap S (Obj.mapSeq fun _ => #[.ref x.1, .ref t])
    obtain ⟨c2, hc2⟩ : ∃ c2, (s2.heap.update S (Obj.mapSeq fun _ => #[.ref x.1, .ref t])).get? S = some (seqObj "list" #[.ref x.1, .ref t] c2) := ⟨_, get?_update_seq eS fun _ => #[.ref x.1, .ref t]⟩
    show wpAny _ X.A.in1 (updateSeq S (fun _ => #[.ref x.1, .ref t]) >>= _) _ _ _
    refine wpAny_bind (wpAny_updateSeq eS rfl ?_)
    rw [min_name]
    refine wpAny_pure ⟨plainId_quiet PySem.F.plain_min_loop _, ?_⟩
    refine min_loop (H0 := H0) (ps := x :: rest) (res := kMin x.2 (rest.map (·.2))) hh hu kf hps ha fI fS hSI (fun p H1 s' hp e I' sH => ?_) rest [x] x H2 _ t oI' c2 rfl hx rfl (repin (tk := s2.toks) I3 (fp_more (⟨nS', fS.2⟩ : FpOk X ((f, oF) :: pins) H2 S) (Ne.symm hSI)) (fun b o hb e => (sb.2 b hb).trans e) hc2 fun v z => by cases z) s12 ht ?_
    · exact ⟨.ref p.1, H1, I', rfl, q1 p hp (by rw [e]; rfl) H1 sH⟩
    · exact ⟨oI', (sb.2 It (Ne.symm hSI)).trans (pinOf (unpin I3)).1, by obtain ⟨o, e, c, d⟩ := hit2; rw [(pinOf (unpin I3)).1] at e; cases e; exact ⟨c, d⟩⟩
end
end Z

/-! lambdas: defs that make them, their tables; min(xs, key=lambda x: (len(x), x)) -/
namespace Z
open PySem PySem.Spec PyProof.Rows L2 LamX
/-! ### heaps of which the tables grow -/
theorem ext_same {H H' : Hp} (s : Same H H') : ExtN H H' := fun b o e _ => s b o e
theorem ext_at {H H' : Hp} {b : Addr} {o : HO} (s : ExtN H H') (e : H b = some o) (n : ∀ ps, o ≠ .tbl ps) : H' b = some o := s b o e n
theorem ext_lst {H H' : Hp} {b : Addr} {xs : List V} (s : ExtN H H') (e : H b = some (.lst xs)) : H' b = some (.lst xs) := s b _ e fun _ z => nomatch z
theorem ext_tup {H H' : Hp} {b : Addr} {xs : List V} (s : ExtN H H') (e : H b = some (.tup xs)) : H' b = some (.tup xs) := s b _ e fun _ z => nomatch z
theorem ext_dT {H H' : Hp} {b : Addr} {xs : KTs} (s : ExtN H H') (e : H b = some (.dT xs)) : H' b = some (.dT xs) := s b _ e fun _ z => nomatch z
/-- all but the things at l, and the tables, stays -/
def ButL (l : List Addr) (H H' : Hp) : Prop := ∀ b o, b ∉ l → H b = some o → (∀ ps, o ≠ .tbl ps) → H' b = some o
namespace ButL
variable {l : List Addr} {H H1 H2 : Hp} {x : Addr}
theorem refl (l : List Addr) (H : Hp) : ButL l H H := fun _ _ _ e _ => e
theorem of_same (s : Same H H1) : ButL l H H1 := fun b o _ e _ => s b o e
theorem of_ext (s : ExtN H H1) : ButL l H H1 := fun b o _ e n => s b o e n
theorem trans (h : ButL l H H1) (k : ButL l H1 H2) : ButL l H H2 := fun b o hb e n => k b o hb (h b o hb e n) n
theorem same (h : ButL l H H1) (s : Same H1 H2) : ButL l H H2 := h.trans (of_same s)
theorem ext (h : ButL l H H1) (s : ExtN H1 H2) : ButL l H H2 := h.trans (of_ext s)
theorem but (h : ButL l H H1) (k : But x H1 H2) (hx : x ∈ l) : ButL l H H2 := fun b o hb e n => k b o (fun z => hb (z ▸ hx)) (h b o hb e n)
theorem butN (h : ButL l H H1) (k : But x H1 H2) (hx : H x = none) : ButL l H H2 := fun b o hb e n => k b o (ne_of_none e hx) (h b o hb e n)
theorem lst {xs : List V} {b : Addr} (h : ButL l H H1) (e : H b = some (.lst xs)) (hb : b ∉ l := by simp) : H1 b = some (.lst xs) := h b _ hb e fun _ z => nomatch z
theorem tup {xs : List V} {b : Addr} (h : ButL l H H1) (e : H b = some (.tup xs)) (hb : b ∉ l := by simp) : H1 b = some (.tup xs) := h b _ hb e fun _ z => nomatch z
theorem dT {xs : KTs} {b : Addr} (h : ButL l H H1) (e : H b = some (.dT xs)) (hb : b ∉ l := by simp) : H1 b = some (.dT xs) := h b _ hb e fun _ z => nomatch z
theorem mono {l' : List Addr} (h : ButL l H H1) (s : ∀ b ∈ l, b ∈ l') : ButL l' H H1 := fun b o hb e n => h b o (fun z => hb (s b z)) e n
theorem newL {H3 : Hp} (h : ButL l H H1) (s : Same H1 H2) (k : ButL [x] H2 H3) (hx : H1 x = none) : ButL l H H3 := fun b o hb e n => by
  have e1 := h b o hb e n
  exact k b o (by simpa using ne_of_none e1 hx) (s _ _ e1) n
end ButL
/-- nothing stood there, or a table -/
def Fresh (H : Hp) (a : Addr) : Prop := ∀ o, H a = some o → ∃ ps, o = .tbl ps
theorem fresh_of {l : List Addr} {H H' : Hp} {a : Addr} (h : ButL l H H') (e : H' a = none) (hl : ∀ b ∈ l, H' b ≠ none) : Fresh H a := fun o ho => by
  refine Classical.byContradiction fun n => ?_
  have := h a o (fun z => hl a z e) ho fun ps z => n ⟨ps, z⟩
  rw [e] at this
  cases this
theorem fresh_ne {H : Hp} {a b : Addr} {o : HO} (h : Fresh H a) (e : H b = some o) (n : ∀ ps, o ≠ .tbl ps) : b ≠ a := fun z => by
  obtain ⟨ps, hp⟩ := h o (z ▸ e)
  exact n ps hp
theorem fresh_back {H H' : Hp} {a : Addr} (h : ExtN H H') (f : Fresh H' a) : Fresh H a := fun o e => by
  refine Classical.byContradiction fun n => ?_
  exact n (f o (h a o e fun ps z => n ⟨ps, z⟩))
theorem ext_of_nil {H H' : Hp} (h : ButL [] H H') : ExtN H H' := fun b o e n => h b o (by simp) e n
theorem tabs_but {T : List (Addr × Str)} {H H' : Hp} {x : Addr} {o : HO} (t : Tabs T H) (k : But x H H') (e : H x = some o) (n : ∀ ps, o ≠ .tbl ps) (n2 : ∀ q, o ≠ CodeO x q) : Tabs T H' := fun p hp => by
  obtain ⟨ps, h1, h2, h3⟩ := t p hp
  refine ⟨ps, k _ _ (ne_of h1 e (n ps).symm) h1, h2, fun pos cv hc => ?_⟩
  obtain ⟨c, e1, e2⟩ := h3 pos cv hc
  refine ⟨c, e1, k _ _ (fun z => ?_) e2⟩
  rw [z, e] at e2
  exact n2 p.2 (Option.some.inj e2)
theorem tabs_same {T : List (Addr × Str)} {H H' : Hp} (t : Tabs T H) (s : Same H H') : Tabs T H' := t.ext s
/-- a def of the module that makes lambdas: its code's table is P -/
structure DfT (K : PySem.W.Frag) (mg : Str → Option Value) (base : Heap) (x : Str) (st : Stmt) (ps : List Str) (P : Addr) : Prop where
  ex : ∃ (f c : Addr) (oc : Value) (od : Option Addr) (kV doc pm : Value) (an : Option Addr) (ct : Value) (osl : Array (Option Value)), K.lookup f = some ⟨oc, od, .func (PySem.W.fnOf x x (defArgs st) (defBody st) (defScope st) .none kV doc pm an (.ref c) ct), osl⟩ ∧
    PySem.W.codeIn K (.ref c) x = true ∧ PySem.W.keepIn K (.ref f) = true ∧ mg x = some (.ref f) ∧ Binds K (PySem.W.fnOf x x (defArgs st) (defBody st) (defScope st) .none kV doc pm an (.ref c) ct) ps [] ∧ TabB base mg c P
section
variable {P : Program} {w : World} {K : PySem.W.Frag} {mg : Str → Option Value} {base : Heap}
theorem DfT.ok {x : Str} {st : Stmt} {N ps : List Str} {k : Nat} {sp : Sp} {PT : Addr} (F : DfT K mg base x st ps PT) (S : FnScope N ps (defScope st)) (len : ∀ vs H Q E, sp vs H Q E → vs.length = ps.length)
    (hbody : ∀ (f c : Addr) (A : Around) (outer : List Env) (s : Shared) (H : Hp) (vs : List V) (Q : VK) (E : XK), TabB base mg c PT → Room k (A.deeper (envOfC x (defScope st) s.heap.objs.size f (.ref c))) → sp vs H Q E →
      ∃ t, PSs (cxOf CX0 P w K mg base N x (defScope st) f (.ref c) A outer s H E).nox (defBody st) t ∧ t { nx := fun _ H' => Q .non H', rt := Q } (start N vs) H) : OkAt P w K mg base x (k + 1) ps sp := by
  obtain ⟨f, c, oc, od, kV, doc, pm, an, ct, osl, lk, hcd, kp, m, b, TB⟩ := F.ex
  exact ⟨f, _, fn_of lk hcd S len fun A outer s H vs Q E hr hsp => by
    obtain ⟨t, h, q⟩ := hbody f c A outer s H vs Q E TB hr hsp
    exact ⟨t, h.nox, q⟩, b, m, kp⟩
end
/-! ### min(xs, key=lambda x: (len(x), x)) -/
def tKey (K : PySem.W.Frag) : TE := tTupN (tCons (tCB (bLen K) (tCons (tVar 0) tNil)) (tCons (tVar 0) tNil))
def tMinK (T : List (Addr × Str)) (te : TE) : TE := fun σ H Q => te σ H fun v H1 => ∃ (a : Addr) (ps : List (Addr × List Nat)), v = .ref a ∧ ps ≠ [] ∧ H1 a = some (.lst (ps.map fun p => V.ref p.1)) ∧ (∀ p ∈ ps, H1 p.1 = some (.lst (natsV p.2)) ∧ p.2.length ≤ 10000) ∧ Tabs T H1 ∧
  ∀ p ∈ ps, kMinL (ps.map (·.2)) = some p.2 → ∀ H2, ExtN H1 H2 → Tabs T H2 → Q (.ref p.1) H2
def tMinKD (T : List (Addr × Str)) (te : TE) : TE := fun σ H Q => te σ H fun v H1 => ∃ (a : Addr) (ps : List (Addr × List Nat)), v = .ref a ∧ H1 a = some (.lst (ps.map fun p => V.ref p.1)) ∧ (∀ p ∈ ps, H1 p.1 = some (.lst (natsV p.2)) ∧ p.2.length ≤ 10000) ∧ Tabs T H1 ∧
  (ps = [] → ∀ H2, ExtN H1 H2 → Tabs T H2 → Q .non H2) ∧ ∀ p ∈ ps, kMinL (ps.map (·.2)) = some p.2 → ∀ H2, ExtN H1 H2 → Tabs T H2 → Q (.ref p.1) H2
theorem r_minK {T : List (Addr × Str)} {te : TE} {σ : L2.St} {H : Hp} {Q : VK} (q : te σ H fun v H1 => ∃ (a : Addr) (ps : List (Addr × List Nat)), v = .ref a ∧ ps ≠ [] ∧ H1 a = some (.lst (ps.map fun p => V.ref p.1)) ∧ (∀ p ∈ ps, H1 p.1 = some (.lst (natsV p.2)) ∧ p.2.length ≤ 10000) ∧ Tabs T H1 ∧
  ∀ p ∈ ps, kMinL (ps.map (·.2)) = some p.2 → ∀ H2, ExtN H1 H2 → Tabs T H2 → Q (.ref p.1) H2) : tMinK T te σ H Q := q
theorem r_minKD {T : List (Addr × Str)} {te : TE} {σ : L2.St} {H : Hp} {Q : VK} (q : te σ H fun v H1 => ∃ (a : Addr) (ps : List (Addr × List Nat)), v = .ref a ∧ H1 a = some (.lst (ps.map fun p => V.ref p.1)) ∧ (∀ p ∈ ps, H1 p.1 = some (.lst (natsV p.2)) ∧ p.2.length ≤ 10000) ∧ Tabs T H1 ∧
  (ps = [] → ∀ H2, ExtN H1 H2 → Tabs T H2 → Q .non H2) ∧ ∀ p ∈ ps, kMinL (ps.map (·.2)) = some p.2 → ∀ H2, ExtN H1 H2 → Tabs T H2 → Q (.ref p.1) H2) : tMinKD T te σ H Q := q
section
variable {X : Cx} {pins : List (Addr × Obj)} {σ : L2.St} {H : Hp} {s : Shared}
theorem key_run {K : PySem.W.Frag} {H1 : Hp} {l : Addr} {t : List Nat} (h : H1 l = some (.lst (natsV t))) : tKey K (start ["x"] [.ref l]) H1 fun v H2 => ∃ q, v = .ref q ∧ Same H1 H2 ∧ H2 q = some (.tup [.int (t.length : Int), .ref l]) := by
  have e : (natsV t).length = t.length := List.length_map _
  refine r_tup (r_cons (r_cb (r_cons (r_var rfl (r_nil (r_lenL h (r_cons (r_var rfl (r_nil ⟨le_size (by show 2 ≤ 100000; decide), fun p H2 n s e2 => ⟨p, rfl, s, ?_⟩⟩)))))))))
  rw [e2, e]
/-- the lambda that a def makes: its function as an object of ours, for min's key -/
theorem lam_key {x : Str} {params : Arguments} {body : Expr} {scope : Scope} {pm ctv : Value} {f c' : Addr} {k : Nat} {q : Str} {ps : List (Addr × List Nat)}
    (hco : H c' = some (CodeO c' q)) (S : FnScope [x] [x] scope) (hr : Room (k + 1) X.A.in1)
    (hbind : ∀ u, bindArgs (PySem.W.kla_fn "<lambda>" q params body scope [] pm (.ref c') ctv) ⟨[u], []⟩ = pure [(x, u)])
    (hbody : ∀ (A : Around) (outer : List Env) (s : Shared) (H : Hp) (E : XK), Room k (A.deeper (envOfC q scope s.heap.objs.size f (.ref c'))) → PE (cxOf CX0 X.prog X.w X.K X.mg X.base [x] q scope f (.ref c') A outer s H E) body (tKey X.K))
    (hps : ∀ p ∈ ps, H p.1 = some (.lst (natsV p.2))) : KeyF X σ f (PySem.W.kla_obj "<lambda>" q params body scope [] pm c' ctv) H ps := fun pins s H1 p hp I hf sH => by
  have h := key_run (K := X.K) (sH _ _ (hps p hp))
  exact lam_call (N := [x]) (v := .ref p.1) I hf (sH _ _ hco) S hr (hbind _) hbody rfl h
theorem lam_min {lpos : Pos} {params : Arguments} {body : Expr} {scope : Scope} {x : Str} {c PT : Addr} {k : Nat} {T : List (Addr × Str)} {kw : Value → List (Str × Value)} {dv : Option Value} {Q : VK} {a : Addr} {ps : List (Addr × List Nat)} {R : Value → Shared → Prop}
    (hcalm : X.calm = true) (TB : TabB X.base X.mg c PT) (hcode : X.env.code = .ref c) (hm : (PT, X.env.qual ++ "<lambda>") ∈ T) (hu : ∀ p ∈ T, p.1 = PT → p.2 = X.env.qual ++ "<lambda>") (hdef : defaultsOf params X.env = ([], []))
    (hclo : cloFrom X.env.cells scope.names [] = []) (hfree : ∀ y ∈ scope.names, y.2 = .free → ∃ c, X.env.cells.lookup y.1 = some c) (S : FnScope [x] [x] scope) (hr : Room (k + 1) X.A.in1)
    (hbind : ∀ (q : Str) (pm cv ctv u : Value), bindArgs (PySem.W.kla_fn "<lambda>" q params body scope [] pm cv ctv) ⟨[u], []⟩ = pure [(x, u)])
    (hbody : ∀ (f c' : Addr) (A : Around) (outer : List Env) (s : Shared) (H : Hp) (E : XK), Room k (A.deeper (envOfC (X.env.qual ++ "<lambda>") scope s.heap.objs.size f (.ref c'))) → PE (cxOf CX0 X.prog X.w X.K X.mg X.base [x] (X.env.qual ++ "<lambda>") scope f (.ref c') A outer s H E) body (tKey X.K))
    (I : Inv X pins σ H s) (hkw : ∀ f, kw f = [(Str.ofString "key", f)] ∧ dv = none ∧ ps ≠ [] ∨ kw f = [(Str.ofString "key", f), (Str.ofString "default", .none)] ∧ dv = some .none)
    (ha : H a = some (.lst (ps.map fun p => V.ref p.1))) (hps : ∀ p ∈ ps, H p.1 = some (.lst (natsV p.2)) ∧ p.2.length ≤ 10000) (hT : Tabs T H)
    (q0 : ps = [] → ∀ H2, ExtN H H2 → Tabs T H2 → Q .non H2) (q1 : ∀ p ∈ ps, kMinL (ps.map (·.2)) = some p.2 → ∀ H2, ExtN H H2 → Tabs T H2 → Q (.ref p.1) H2)
    (hrest : ∀ f s', wpAny (model X.prog X.w) X.A (call (.builtin "min") [.ref a] (kw f)) (EP X pins σ Q) X.xe s' → R f s') :
    wpAny (model X.prog X.w) X.A (eval (.Lambda params body scope lpos) X.env) R X.xe s := by
  refine (lam_make2 I TB hcode hm hu hT hdef hfree fun f c' pm ctv H1 s' I1 xn T1 hf hfn hfr hco => hrest _ s' ?_)
  rw [hclo] at hf
  have hnl : f ≠ X.env.locals := fun z => by
    obtain ⟨m, ⟨o, es, ep, e, d, _⟩, _⟩ := I1.loc
    rw [← z, hf] at e
    cases e
    cases d
  have hnf : f ∉ X.fs := fun z => by
    rcases I1.ok.stk with e | ⟨e, _⟩
    · exact hfr (by rw [e]; exact z)
    · refine hfr ?_
      rw [e]
      show f ∈ frs (X.env :: X.outer)
      unfold frs
      rw [List.filterMap_cons]
      split
      · exact z
      · exact List.mem_cons_of_mem _ z
  have I2 : Inv X ((f, PySem.W.kla_obj "<lambda>" (X.env.qual ++ "<lambda>") params body scope [] pm c' ctv) :: pins) σ H1 s' := I1.pins_of fun r hr => by
    rcases List.mem_cons.mp hr with z | z
    · rw [z]
      exact ⟨hf, hfn, hnl, hnf, fun v z => by cases z⟩
    · exact I1.pin r (List.mem_append_right _ z)
  have hps1 : ∀ p ∈ ps, H1 p.1 = some (.lst (natsV p.2)) := fun p hp => ext_lst xn (hps p hp).1
  exact min_run (dv := dv) (hr.hd) (by have := hr.un; show X.A.units + 40 < _; have : X.A.in1.units = X.A.units + 1 := rfl; omega) (lam_key hco S hr (hbind _ _ _ _) (hbody f c') hps1) hps1 (ext_lst xn ha) I2 (hkw _)
    (fun e H2 s2 => q0 e H2 (xn.trans (ext_same s2)) (T1.ext s2)) (fun p hp e H2 s2 => q1 p hp e H2 (xn.trans (ext_same s2)) (T1.ext s2))
/-- min(xs, key=lambda x: (len(x), x)) -/
theorem pe_minK (K : PySem.W.Frag) {e : Expr} {te : TE} {p pos lpos k1 : Pos} {params : Arguments} {body : Expr} {scope : Scope} {x : Str} {c PT : Addr} {k : Nat} {T : List (Addr × Str)} (ha : PA X [e] (tCons te tNil)) (hg : Gl X "min") (hmg : X.mg "min" = none) (TB : TabB X.base X.mg c PT) (hm : (PT, X.env.qual ++ "<lambda>") ∈ T) (hu : ∀ p ∈ T, p.1 = PT → p.2 = X.env.qual ++ "<lambda>")
    (hr : Room (k + 2) X.A) (S : FnScope [x] [x] scope)
    (hbody : ∀ (f c' : Addr) (A : Around) (outer : List Env) (s : Shared) (H : Hp) (E : XK), Room k (A.deeper (envOfC (X.env.qual ++ "<lambda>") scope s.heap.objs.size f (.ref c'))) → PE (cxOf CX0 X.prog X.w X.K X.mg X.base [x] (X.env.qual ++ "<lambda>") scope f (.ref c') A outer s H E) body (tKey K))
    (hbind : ∀ (q : Str) (pm cv ctv u : Value), bindArgs (PySem.W.kla_fn "<lambda>" q params body scope [] pm cv ctv) ⟨[u], []⟩ = pure [(x, u)] := by intros; rfl)
    (hk : X.K = K := by rfl) (hcalm : X.calm = true := by rfl) (hcode : X.env.code = .ref c := by rfl) (hdef : defaultsOf params X.env = ([], []) := by rfl) (hclo : cloFrom X.env.cells scope.names [] = [] := by rfl) (hfree : ∀ y ∈ scope.names, y.2 ≠ .free := by decide +kernel)
    (hst : backTo pos (starEach [e] X.env) = (false, eval e X.env) :: backTo pos (starEach [] X.env) := by rfl) (hpl : (backTo pos (starEach [e] X.env)).any (·.1) = false := by rfl) :
    PE X (.Call (.Name "min" p) [e] [⟨some "key", .Lambda params body scope lpos, k1⟩] pos) (tMinK T te) := by
  subst hk
  refine ⟨fun pins s σ H Q I h => ?_⟩
  refine wpAny_Call_Name_kw (ld_blt I hg hmg (show bootBuiltins "min" = some (.builtin "min") by decide +kernel) (PyProof.Rows.callWith_kw (thn (ha.run pos pins s σ H (fun vs H1 => match vs with
    | [v] => ∃ (a : Addr) (ps : List (Addr × List Nat)), v = .ref a ∧ ps ≠ [] ∧ H1 a = some (.lst (ps.map fun p => V.ref p.1)) ∧ (∀ p ∈ ps, H1 p.1 = some (.lst (natsV p.2)) ∧ p.2.length ≤ 10000) ∧ Tabs T H1 ∧ ∀ p ∈ ps, kMinL (ps.map (·.2)) = some p.2 → ∀ H2, ExtN H1 H2 → Tabs T H2 → Q (.ref p.1) H2
    | _ => False) I h) fun us s1 hq => ?_) hst hpl (by rfl) (by rfl)))
  obtain ⟨vs, H1, I1, r, hq⟩ := hq
  match vs, r, hq with
  | [v], r, hq =>
    obtain ⟨a, ps, rfl, hne, ha, hps, hT, q⟩ := hq
    obtain rfl := Vals.ref1 r
    show wpAny _ _ (evalAll [do let v ← eval (.Lambda params body scope lpos) X.env; standAt pos; pure v]) _ _ s1
    refine wpAny_evalAll_cons (wpAny_bind (lam_min (kw := fun f => [(Str.ofString "key", f)]) (dv := none) hcalm TB hcode hm hu hdef hclo (fun y hy z => absurd z (hfree y hy)) S hr.in1 hbind hbody I1 (fun f => .inl ⟨rfl, rfl, hne⟩) ha hps hT (fun z => absurd z hne) q fun f s' hw => wpAny_bind (wpAny_standAt (wpAny_pure ?_))))
    exact wpAny_evalAll_nil hw
/-- min(xs, key=lambda x: (len(x), x), default=None) -/
theorem pe_minKD (K : PySem.W.Frag) {e : Expr} {te : TE} {p pos lpos k1 k2 cpos : Pos} {j : Nat} {params : Arguments} {body : Expr} {scope : Scope} {x : Str} {c PT : Addr} {k : Nat} {T : List (Addr × Str)} (ha : PA X [e] (tCons te tNil)) (hg : Gl X "min") (hmg : X.mg "min" = none) (TB : TabB X.base X.mg c PT) (hm : (PT, X.env.qual ++ "<lambda>") ∈ T) (hu : ∀ p ∈ T, p.1 = PT → p.2 = X.env.qual ++ "<lambda>")
    (hr : Room (k + 2) X.A) (S : FnScope [x] [x] scope)
    (hbody : ∀ (f c' : Addr) (A : Around) (outer : List Env) (s : Shared) (H : Hp) (E : XK), Room k (A.deeper (envOfC (X.env.qual ++ "<lambda>") scope s.heap.objs.size f (.ref c'))) → PE (cxOf CX0 X.prog X.w X.K X.mg X.base [x] (X.env.qual ++ "<lambda>") scope f (.ref c') A outer s H E) body (tKey K))
    (hbind : ∀ (q : Str) (pm cv ctv u : Value), bindArgs (PySem.W.kla_fn "<lambda>" q params body scope [] pm cv ctv) ⟨[u], []⟩ = pure [(x, u)] := by intros; rfl)
    (hk : X.K = K := by rfl) (hcalm : X.calm = true := by rfl) (hcode : X.env.code = .ref c := by rfl) (hdef : defaultsOf params X.env = ([], []) := by rfl) (hclo : cloFrom X.env.cells scope.names [] = [] := by rfl) (hfree : ∀ y ∈ scope.names, y.2 ≠ .free := by decide +kernel)
    (hst : backTo pos (starEach [e] X.env) = (false, eval e X.env) :: backTo pos (starEach [] X.env) := by rfl) (hpl : (backTo pos (starEach [e] X.env)).any (·.1) = false := by rfl) :
    PE X (.Call (.Name "min" p) [e] [⟨some "key", .Lambda params body scope lpos, k1⟩, ⟨some "default", .Constant .none j cpos, k2⟩] pos) (tMinKD T te) := by
  subst hk
  refine ⟨fun pins s σ H Q I h => ?_⟩
  refine wpAny_Call_Name_kw (ld_blt I hg hmg (show bootBuiltins "min" = some (.builtin "min") by decide +kernel) (PyProof.Rows.callWith_kw (thn (ha.run pos pins s σ H (fun vs H1 => match vs with
    | [v] => ∃ (a : Addr) (ps : List (Addr × List Nat)), v = .ref a ∧ H1 a = some (.lst (ps.map fun p => V.ref p.1)) ∧ (∀ p ∈ ps, H1 p.1 = some (.lst (natsV p.2)) ∧ p.2.length ≤ 10000) ∧ Tabs T H1 ∧ (ps = [] → ∀ H2, ExtN H1 H2 → Tabs T H2 → Q .non H2) ∧ ∀ p ∈ ps, kMinL (ps.map (·.2)) = some p.2 → ∀ H2, ExtN H1 H2 → Tabs T H2 → Q (.ref p.1) H2
    | _ => False) I h) fun us s1 hq => ?_) hst hpl (by rfl) (by rfl)))
  obtain ⟨vs, H1, I1, r, hq⟩ := hq
  match vs, r, hq with
  | [v], r, hq =>
    obtain ⟨a, ps, rfl, ha, hps, hT, q0, q⟩ := hq
    obtain rfl := Vals.ref1 r
    show wpAny _ _ (evalAll [do let v ← eval (.Lambda params body scope lpos) X.env; standAt pos; pure v, do let v ← eval (.Constant .none j cpos) X.env; standAt pos; pure v]) _ _ s1
    refine wpAny_evalAll_cons (wpAny_bind (lam_min (kw := fun f => [(Str.ofString "key", f), (Str.ofString "default", .none)]) (dv := (some .none)) hcalm TB hcode hm hu hdef hclo (fun y hy z => absurd z (hfree y hy)) S hr.in1 hbind hbody I1 (fun f => .inr ⟨rfl, rfl⟩) ha hps hT q0 q fun f s' hw => wpAny_bind (wpAny_standAt (wpAny_pure ?_))))
    exact wpAny_evalAll_cons (wpAny_bind (Constant_none (wpAny_bind (wpAny_standAt (wpAny_pure (wpAny_evalAll_nil hw))))))
end
/-- what the head leaves of the tables of the defs named xs -/
def TabsOf (K : PySem.W.Frag) (xs : List Str) (h : Heap) : Prop := ∀ y ∈ xs, ∀ c PT, PySem.W.tabIn K y = some (c, PT) → PySem.W.CodeHd h c PT ∧ h.get? PT = some { cls := .none, data := .fields #[] }
/-- the end of a law whose callees make lambdas -/
theorem walk_tabs {l : PySem.W.OpenLaw} {m lev : Nat} {q : Program} {loose : List Str} {XP : (Str → Option Value) → Heap → Prop} {YP : World → Heap → Prop} {d : DefRec} {KP : Params → PySem.W.Frag} {par : Str} (xs : List Str)
    (most : l.most = some m) (fits : m ≤ sizeLine) (plain : d.params.defaults = []) (room : Room lev callerA)
    (recs : (xs.all fun y => ((recsOf q).find? fun e => e.name == y).isSome) = true) (part : ∀ (w : World) (h : Heap), YP w h → (KP w.params).In h)
    (at_ : ∀ (w : World) (mg : Str → Option Value) (fa : Addr) (h : Heap), (KP w.params).In h → h.Ns mainGlobals mg → mg d.name = some (.ref fa) → TabsOf (KP w.params) xs h → LawAtS l w (KP w.params) CX0 lev m par mg fa h) :
    PySem.W.WalkO q loose XP YP l.row.toRowW d [] (fun f vs => PySem.call f vs) :=
  Att.attach_callB most plain fun w s₀ s₁ mg mb fa o pm cd doc a vs ns Gr Y _ _ _ named held nums short bits still => by
    have inK := part w _ Y
    have tabs : TabsOf (KP w.params) xs s₁.heap := fun y hy c PT ht => by
      have hd := List.all_eq_true.mp recs y hy
      obtain ⟨dr, hdr⟩ := Option.isSome_iff_exists.mp hd
      exact PySem.W.tab_of Gr.T inK hdr ht
    obtain ⟨fd, cs, sp, tEmpty, tFree, heads, binds, says, runs⟩ := at_ w mg fa _ inK Gr.T.g named tabs
    exact law_callTs inK Gr.T.g Gr.T.b Gr.T.builtins Gr.T.nolimit still tEmpty tFree heads Gr.T.bmain held nums (Nat.le_trans short fits) room runs binds
      (fun H hH hS => says H a ns short bits hH hS) fun _ _ _ z => z
/-- where a def's code and its table stand, from the lookups -/
theorem tab_in {K : PySem.W.Frag} {x : Str} {f c PT : Addr} {oc : Value} {od : Option Addr} {fd : FuncData} {osl : Array (Option Value)} {oc2 : Value} {od2 : Option Addr} {vs : Array Value} {osl2 : Array (Option Value)} (a : PySem.W.nsIn K mainGlobals x = some (some (.ref f)))
    (e1 : K.lookup f = some ⟨oc, od, .func fd, osl⟩) (e2 : fd.code = .ref c) (e3 : K.lookup c = some ⟨oc2, od2, .fields vs, osl2⟩) (e4 : (vs[11]? : Option Value) = some (.ref PT)) : PySem.W.tabIn K x = some (c, PT) := by
  unfold PySem.W.tabIn
  rw [a]
  dsimp only
  rw [e1]
  dsimp only
  rw [e2]
  dsimp only
  rw [e3]
  dsimp only
  rw [e4]
end Z

/-! exceptions: defs that raise, own classes with an __init__ of two statements, defs called in a suite with the exception in hand -/
namespace Z
open PySem PySem.Spec PyProof.Rows L2

/-! ### defs that raise -/
structure OkX (P : Program) (w : World) (K : PySem.W.Frag) (mg : Str → Option Value) (base : Heap) (x : Str) (k : Nat) (ps : List Str) (sp : Sp) : Prop where
  ex : ∃ (f : Addr) (fd : FuncData), FnOk P w K mg base (L2.CX P w) k f fd ps sp ∧ Binds K fd ps [] ∧ mg x = some (.ref f) ∧ PySem.W.keepIn K (.ref f) = true
section
variable {P : Program} {w : World} {K : PySem.W.Frag} {mg : Str → Option Value} {base : Heap}
/-- THE RULE for a def that may raise -/
theorem Df.okX {x : Str} {st : Stmt} {N ps : List Str} {k : Nat} {sp : Sp} (F : Df K mg x st ps) (S : FnScope N ps (defScope st)) (len : ∀ vs H Q E, sp vs H Q E → vs.length = ps.length)
    (hbody : ∀ (f : Addr) (cdv : Value) (A : Around) (outer : List Env) (s : Shared) (H : Hp) (vs : List V) (Q : VK) (E : XK), Room k (A.deeper (envOfC x (defScope st) s.heap.objs.size f cdv)) → sp vs H Q E →
      ∃ t, PSs (cxOf (L2.CX P w) P w K mg base N x (defScope st) f cdv A outer s H E) (defBody st) t ∧ t { nx := fun _ H' => Q .non H', rt := Q } (start N vs) H) : OkX P w K mg base x (k + 1) ps sp := by
  obtain ⟨f, fd, F, b, m⟩ := F.ex
  exact ⟨f, fd, F.okX S len fun cdv A outer s H vs Q E hr h => hbody f cdv A outer s H vs Q E hr h, b, m, F.kp⟩
theorem OkX.mono {x : Str} {ps : List Str} {j k : Nat} {sp : Sp} (o : OkX P w K mg base x j ps sp) (h : j ≤ k) : OkX P w K mg base x k ps sp := by
  obtain ⟨f, fd, F, b, m, kp⟩ := o.ex
  exact ⟨f, fd, F.mono h, b, m, kp⟩
end
def tClX (sp : Sp) (W : WX) (t : TA) : TE := fun σ H Q => t σ H fun vs H1 => sp vs H1 Q fun cls d H' => W cls d σ H'
theorem pe_clX {X : Cx} {x : Str} {ps : List Str} {k : Nat} {sp : Sp} {W : WX} {e : Expr} {es : List Expr} {t : TA} {p pos : Pos} (o : OkX X.prog X.w X.K X.mg X.base x k ps sp) (hr : Room k X.A) (tk : Takes X W) (hg : Gl X x) (ha : PA X (e :: es) t)
    (hdb : (x == ("__debug__" : Str)) = false := by decide) (he : starEach (e :: es) X.env = (false, eval e X.env) :: starEach es X.env := by rfl) (hpl : (backTo pos (starEach es X.env)).any (·.1) = false := by rfl) :
    PE X (.Call (.Name x p) (e :: es) [] pos) (tClX sp W t) := by
  obtain ⟨f, fd, F, b, m, kp⟩ := o.ex
  exact pe_callS F hr hg m kp b (fun σ => passAt tk σ) ha hdb he hpl
theorem r_clX {sp : Sp} {W : WX} {t : TA} {σ : L2.St} {H : Hp} {Q : VK} (q : t σ H fun vs H1 => sp vs H1 Q fun cls d H' => W cls d σ H') : tClX sp W t σ H Q := q
/-- what a def lets out -/
abbrev wDef (E : XK) : WX := fun cls d _ H => E cls d H

/-! ### raise of a class without an own __init__ -/
def tRaiseP (C : Addr) (W : WX) : TS := fun _ σ H => W (.ref C) none σ H
theorem ps_raiseP {X : Cx} {W : WX} {C : Addr} {x m : Str} {j : Nat} {p p2 pos pos2 : Pos} (hc : X.calm = true) (tk : Takes X W) (q : PySem.W.excIn X.K C [.type "ValueError", .type "Exception", .type "BaseException", .type "object"] "ValueError.__new__" = true) (gC : X.mg x = some (.ref C)) (kC : PySem.W.keepIn X.K (.ref C) = true)
    (h1 : PySem.W.subIn X.K (.ref C) (.type "BaseException") = some true) (h2 : PySem.W.typeIn X.K (.ref C) = some (.type "type")) (hg : Gl X x) (hdb : (x == ("__debug__" : Str)) = false := by decide) :
    PS X (.Raise (some (.Call (.Name x p) [.Constant (.str m) j p2] [] pos)) none pos2) (tRaiseP C W) :=
  ps_raise hc tk (pmk_own PySem.F.excBase_ValueError q gC kC (raises_own h1 h2) hg hdb)
theorem r_raiseP {C : Addr} {W : WX} {D : Ends} {σ : L2.St} {H : Hp} (q : W (.ref C) none σ H) : tRaiseP C W D σ H := q

/-! ### a class whose __init__ calls its base's, then stores one field -/
/-- the base's __init__, read off the class -/
structure BaseI (K : PySem.W.Frag) (C : Addr) : Prop where
  rd : PySem.W.readsIn K C (.type "type") = true
  ga : PySem.W.specialIn K (.ref C) "__getattribute__" = some (some (.builtin "type.__getattribute__"))
  at_ : PySem.W.findCls K (.ref C) (.type "type") "__init__" = some (.val (.builtin "ValueError.__init__"))
/-- Base.__init__(self, ..) -/
theorem pe_bini {X : Cx} {C0 : Addr} {n : Str} {e : Expr} {es : List Expr} {ta : TA} {p1 p2 pos : Pos} {pl : Sem Bool} (T : BaseI X.K C0) (hg : Gl X n) (hm : X.mg n = some (.ref C0)) (ha : PA X (e :: es) ta) (hdb : (n == ("__debug__" : Str)) = false := by decide)
    (hc : eval (.Call (.Attribute (.Name n p1) "__init__" p2) (e :: es) [] pos) X.env = (do
      let ov ← eval (.Name n p1) X.env
      standAt p2.atName
      let (f, first) ← holding [ov] (getMethod ov "__init__" pl)
      callWith pos f first (backTo pos (starEach (e :: es) X.env)) (backToKw pos (keywordEach [] X.env))) := by rfl)
    (he : starEach (e :: es) X.env = (false, eval e X.env) :: starEach es X.env := by rfl) (hpl : (backTo pos (starEach es X.env)).any (·.1) = false := by rfl) :
    PE X (.Call (.Attribute (.Name n p1) "__init__" p2) (e :: es) [] pos) (tVeI X.K ta) := by
  refine ⟨fun pins s σ H Q I h => ?_⟩
  refine PySem.W.methodCall_KW (ld_glob I hg hm ?_ hdb) hc
  refine PySem.W.method_cls I.kIn T.ga (PySem.W.cls_value I.kIn T.rd T.at_ (by decide +kernel) ?_)
  show wpAny _ _ (callWith pos (Value.builtin "ValueError.__init__") [] (backTo pos (starEach (e :: es) X.env)) []) _ _ _
  refine PyProof.Rows.callWith_method1 (thn (ha.run pos pins _ σ H _ (I.tok _) h) fun us s1 ⟨vs, H1, I1, r1, a, C, ws, ev, hl, T, ea, q⟩ => ?_) he hpl
  subst ev
  cases r1 with
  | @cons _ u0 _ ur ra rw' =>
    obtain rfl : u0 = Value.ref a := ra
    have hlen : ur.length ≤ sizeLine := by
      rw [← Paired.length rw', sizeLine_eq]
      omega
    exact oinit_ok T I1 ea hlen fun s' J => ⟨.non, H1, J, rfl, q⟩
/-- what such an __init__ promises -/
def spInit (K : PySem.W.Frag) (C : Addr) (f : Str) : Sp := fun vs H Q _ => ∃ (a : Addr) (v : V), vs = [.ref a, v] ∧ H a = some (exo a C none) ∧ ∀ dx, H dx = none → dx ≠ a → Q .non (upd (upd H dx (exd dx [(f, v)])) a (exo a C (some dx)))
/-- the def of such an __init__, as it stands -/
theorem ok_init {P : Program} {w : World} {K : PySem.W.Frag} {mg : Str → Option Value} {base : Heap} {C fI : Addr} {fd : FuncData} {q f : Str} {st : Stmt} {N ps : List Str} {k : Nat} {m : Str} (F : Fun K "__init__" q st fI fd) (S : FnScope N ps (defScope st))
    (hN : N = [("self" : Str), f]) (hp : ps = [("self" : Str), f])
    (T : OexC K C) (hno : PySem.W.findIn K (.ref C) f = some none)
    (hbody : ∀ (A : Around) (outer : List Env) (s : Shared) (H : Hp) (E : XK) (cdv : Value), PSs (cxOf CX0 P w K mg base N q (defScope st) fI cdv A outer s H E).nox (defBody st) (tSeq (tDrop (tVeI K (tCons (tVar 0) (tCons (tC (.str m)) tNil)))) (tOst K f (tVar 0) (tVar 1)))) :
    FnOk P w K mg base CX0 (k + 1) fI fd ps (spInit K C f) := by
  refine F.ok S (fun vs H Q E h => ?_) (fun cdv A outer s H vs Q E hr h => ?_)
  · obtain ⟨a, v, rfl, _⟩ := h
    rw [hp]
    rfl
  · obtain ⟨a, v, rfl, ha, h⟩ := h
    refine ⟨_, hbody A outer s H E cdv, ?_⟩
    subst hN
    exact ⟨_, rfl, a, C, [.str m], rfl, (show 1 ≤ 1000 by decide), T, ha, _, rfl, _, rfl, a, C, rfl, T, hno, .inl ⟨ha, fun dx n ne => h dx n ne⟩⟩
def tRaiseO (K : PySem.W.Frag) (C : Addr) (f : Str) (W : WX) (ta : TA) : TS := fun _ σ H => tMkO C (spInit K C f) [] ta σ H fun cls d H' => W cls d σ H'
theorem ps_raiseO (K : PySem.W.Frag) {X : Cx} {W : WX} {C fI : Addr} {fd : FuncData} {x f : Str} {ps : List Str} {k : Nat} {e : Expr} {ta : TA} {p pos pos2 : Pos} (hc : X.calm = true) (tk : Takes X W) (T : OexC K C) (iC : PySem.W.findIn K (.ref C) "__init__" = some (some (.ref fI))) (tI : PySem.W.typeIn K (.ref fI) = some (.type "function"))
    (F1 : FnOk X.prog X.w X.K X.mg X.base CX0 k fI fd ps (spInit K C f)) (hr : Room (k + 1) X.A) (hb : Binds X.K fd ps []) (hm : X.mg x = some (.ref C)) (hg : Gl X x) (ha : PA X [e] ta) (hk : X.K = K := by rfl)
    (hdb : (x == ("__debug__" : Str)) = false := by decide) (he : starEach (e :: []) X.env = (false, eval e X.env) :: starEach [] X.env := by rfl) (hpl : (backTo pos (starEach [] X.env)).any (·.1) = false := by rfl) :
    PS X (.Raise (some (.Call (.Name x p) [e] [] pos)) none pos2) (tRaiseO K C f W ta) := by
  subst hk
  exact ps_raise hc tk (pmk_oex T iC tI F1 hr hb .nil pass0 hg hm ha hdb he hpl)
theorem r_raiseO {K : PySem.W.Frag} {C : Addr} {f : Str} {W : WX} {ta : TA} {D : Ends} {σ : L2.St} {H : Hp} (q : ta σ H fun vs H1 => ∃ v, vs = [v] ∧ ∀ d H2, H1 d = none → Same H1 H2 → H2 d = some (.xd [(f, v)]) → W (.ref C) (some d) σ H2)
    (mono : ∀ q1 q2 : List V → Hp → Prop, (∀ vs H1, q1 vs H1 → q2 vs H1) → ta σ H q1 → ta σ H q2) : tRaiseO K C f W ta D σ H := by
  refine mono _ _ (fun vs H1 ⟨v, ev, h⟩ => ?_) q
  subst ev
  refine ⟨by show 1 ≤ 1000; decide, fun a na => ⟨a, v, rfl, upd_same, fun dx nd ne => ⟨rfl, dx, [(f, v)], upd_same, by rw [upd_ne ne, upd_same], ?_, ?_⟩⟩⟩
  · rw [upd_ne ne] at nd
    exact nd
  · have nd' : H1 dx = none := by
      rw [upd_ne ne] at nd
      exact nd
    refine h dx _ nd' (fun b o e => ?_) upd_same
    rw [upd_ne (ne_of_none e nd'), del_ne (ne_of_none e na), upd_ne (ne_of_none e na), upd_ne (ne_of_none e nd'), upd_ne (ne_of_none e na)]
    exact e
/-- one argument, a name or a number of which the reading is plain -/
theorem r_raiseO1 {K : PySem.W.Frag} {C : Addr} {f : Str} {W : WX} {te : TE} {D : Ends} {σ : L2.St} {H : Hp} (mono : ∀ q1 q2 : VK, (∀ v H1, q1 v H1 → q2 v H1) → te σ H q1 → te σ H q2) (q : te σ H fun v H1 => ∀ d H2, H1 d = none → Same H1 H2 → H2 d = some (.xd [(f, v)]) → W (.ref C) (some d) σ H2) : tRaiseO K C f W (tCons te tNil) D σ H :=
  r_raiseO (mono _ _ (fun v H1 h => ⟨v, rfl, h⟩) q) fun q1 q2 h z => mono _ _ (fun v H1 y => h _ _ y) z

/-- C's own __init__ keeps its promise -/
structure InitOk (P : Program) (w : World) (K : PySem.W.Frag) (mg : Str → Option Value) (base : Heap) (C : Addr) (f : Str) (k : Nat) : Prop where
  ex : ∃ (j : Nat) (fI : Addr) (fd : FuncData) (ps : List Str), j + 1 ≤ k ∧ PySem.W.findIn K (.ref C) "__init__" = some (some (.ref fI)) ∧ PySem.W.typeIn K (.ref fI) = some (.type "function") ∧ FnOk P w K mg base CX0 j fI fd ps (spInit K C f) ∧ Binds K fd ps []
theorem InitOk.mono {P : Program} {w : World} {K : PySem.W.Frag} {mg : Str → Option Value} {base : Heap} {C : Addr} {f : Str} {j k : Nat} (i : InitOk P w K mg base C f j) (h : j ≤ k) : InitOk P w K mg base C f k := by
  obtain ⟨l, fI, fd, ps, hl, a, b, F, c⟩ := i.ex
  exact ⟨l, fI, fd, ps, Nat.le_trans hl h, a, b, F, c⟩
theorem ps_raiseI (K : PySem.W.Frag) {X : Cx} {W : WX} {C : Addr} {x f : Str} {k : Nat} {e : Expr} {ta : TA} {p pos pos2 : Pos} (hc : X.calm = true) (tk : Takes X W) (T : OexC K C) (i : InitOk X.prog X.w K X.mg X.base C f k) (hr : Room k X.A) (hm : X.mg x = some (.ref C)) (hg : Gl X x) (ha : PA X [e] ta) (hk : X.K = K := by rfl)
    (hdb : (x == ("__debug__" : Str)) = false := by decide) (he : starEach (e :: []) X.env = (false, eval e X.env) :: starEach [] X.env := by rfl) (hpl : (backTo pos (starEach [] X.env)).any (·.1) = false := by rfl) :
    PS X (.Raise (some (.Call (.Name x p) [e] [] pos)) none pos2) (tRaiseO K C f W ta) := by
  subst hk
  obtain ⟨l, fI, fd, ps, hl, a, b, F, c⟩ := i.ex
  exact ps_raiseO X.K hc tk T a b F (hr.mono hl) c hm hg ha rfl hdb he hpl
/-- e.f, e the exception that the suite holds -/
def tXfA (K : PySem.W.Frag) (a : Addr) (cls : Value) (d : Option Addr) (f : Str) (te : TE) : TE := fun σ H Q => te σ H fun x H1 => x = .ref a ∧ ∃ (C : Addr), cls = .ref C ∧ XfC K C ∧ PySem.W.findIn K (.ref C) f = some none ∧ ∃ (dd : Addr) (fs : List (Str × V)) (v : V), d = some dd ∧ H1 dd = some (.xd fs) ∧ fs.lookup f = some v ∧ Q v H1
theorem pe_xfA (K : PySem.W.Frag) {X : Cx} {a : Addr} {oe : Obj} {cls : Value} {d : Option Addr} {pn : List (Addr × Obj)} {e : Expr} {te : TE} {pos : Pos} {n : Str} (hz : Zc cls d oe) (hf : ∃ vs, oe.data = .fields vs) (he : PE (X.suite a ((a, oe) :: pn)) e te) (hk : X.K = K := by rfl) (hb : attributeBase e n X.env (eval e X.env) = eval e X.env := by rfl) :
    PE (X.suite a ((a, oe) :: pn)) (.Attribute e n pos) (tXfA K a cls d n te) := by
  subst hk
  refine ⟨fun pins s σ H Q I h => ?_⟩
  refine attr_of hb (thn (he.run pins s σ H _ I h) fun u s1 hh => ?_)
  obtain ⟨x, H1, I1, rx, ex, C, ec, T, hno, dd, fs, v, ed, ea, l, q⟩ := hh
  subst ex
  obtain rfl : u = Value.ref a := rx
  subst ec
  subst ed
  obtain ⟨ha, _⟩ := I1.pin (a, oe) (List.mem_append_left _ List.mem_cons_self)
  obtain ⟨vs, hd⟩ := hf
  have hx : ObjOk X.prog X.w H1 s1.heap dd (.xd fs) := I1.hok dd _ ea
  obtain ⟨mA, hns, hr⟩ := hx
  obtain ⟨od, ho, hl⟩ := lookIn_ns hns
  obtain ⟨u, hu, ru⟩ := RelO.some_of (v := v) (o := mA n) (by rw [← l]; exact hr n)
  have J : PySem.W.InstAt s1.heap a oe C (some od) := ⟨ha, hz.1, by unfold PySem.W.notCls; rw [hd] <;> rfl, by rw [hz.2]; exact ho⟩
  exact HandSPX.exc_get I1.kIn J T.ga T.gg T.exC (PySem.W.findObj_own T.hdC hno rfl (by rw [hl, hu])) (handed_of ru) ⟨v, H1, I1.tok _, ru, q⟩
theorem r_xfA {K : PySem.W.Frag} {a : Addr} {cls : Value} {d : Option Addr} {f : Str} {te : TE} {σ : L2.St} {H : Hp} {Q : VK} (q : te σ H fun x H1 => x = .ref a ∧ ∃ (C : Addr), cls = .ref C ∧ XfC K C ∧ PySem.W.findIn K (.ref C) f = some none ∧ ∃ (dd : Addr) (fs : List (Str × V)) (v : V), d = some dd ∧ H1 dd = some (.xd fs) ∧ fs.lookup f = some v ∧ Q v H1) : tXfA K a cls d f te σ H Q := q
theorem units_of {k : Nat} {A : Around} (r : L2H.RoomH k A) : A.units + 64 < cLine := by have := r.un; omega

/-! ### the exception in hand, as an object -/
theorem isP_of {X : Cx} {a D : Addr} {oe : Obj} {d : Option Addr} (C : L2.ExcC X.K D) (hm : (a, oe) ∈ X.pn) (hz : Zc (.ref D) d oe) (hf : ∃ vs, oe.data = .fields vs) {c : V} {cv : Value} {b : Bool} (hcv : ∀ u, RelV c u → u = cv) (e : PySem.W.kitOne X.K (.ref D) cv = some b)
    {fs : List (Str × V)} {pins : List (Addr × Obj)} {σ : L2.St} {H : Hp} {s : Shared} {us : List Value} {Q : VK} (I : Inv X pins σ H s) (hd : ∀ dd, d = some dd → H dd = some (.xd fs)) (r : Vals [.ref a, c] us) (q : Q (.bl b) H) : wpAny (model X.prog X.w) X.A (call (.builtin "isinstance") us) (EP X pins σ Q) X.xe s := by
  cases r with
  | cons rx rr =>
    cases rr with
    | cons rt rr =>
      cases rr
      cases rx
      have ec := hcv _ rt
      subst ec
      obtain ⟨hget, _⟩ := I.pin (a, oe) (List.mem_append.mpr (.inl hm))
      obtain ⟨vs, hv⟩ := hf
      have J : ∃ od, PySem.W.InstAt s.heap a oe D od := by
        cases d with
        | none =>
          refine ⟨none, hget, hz.1, by unfold PySem.W.notCls; rw [hv] <;> rfl, ?_⟩
          rw [hz.2]
          trivial
        | some dd =>
          have hx : ObjOk X.prog X.w H s.heap dd (.xd fs) := I.hok dd _ (hd dd rfl)
          obtain ⟨mA, hns, hr⟩ := hx
          obtain ⟨od, ho, hl⟩ := lookIn_ns hns
          exact ⟨some od, hget, hz.1, by unfold PySem.W.notCls; rw [hv] <;> rfl, by rw [hz.2]; exact ho⟩
      obtain ⟨od, J⟩ := J
      obtain ⟨cd, hcd, _⟩ := PySem.W.any_some C.hd
      exact PySem.W.kia_one (PySem.W.kitx_exc (od := od) (by rw [hcd]; rfl) C.hg C.hk C.hs C.ha C.hn C.ht C.hm) I.kIn J e (fun z => nomatch z) fun tk => ⟨.bl b, H, I.kept (t' := tk) fun _ _ z => z, rfl, q⟩
/-- isinstance(e, c), e the pinned exception -/
def bIsP (K : PySem.W.Frag) (D a : Addr) (d : Option Addr) : List V → Hp → VK → Prop := fun xs H Q => ∃ (c : V) (cv : Value) (b : Bool) (fs : List (Str × V)), xs = [.ref a, c] ∧ (∀ u, RelV c u → u = cv) ∧ PySem.W.kitOne K (.ref D) cv = some b ∧ (∀ dd, d = some dd → H dd = some (.xd fs)) ∧ Q (.bl b) H
theorem cr_isP (K : PySem.W.Frag) {X : Cx} {a D : Addr} {oe : Obj} {d : Option Addr} (C : L2.ExcC K D) (hm : (a, oe) ∈ X.pn) (hz : Zc (.ref D) d oe) (hf : ∃ vs, oe.data = .fields vs) (hk : X.K = K := by rfl) : CallR X (.builtin "isinstance") (bIsP K D a d) := by
  subst hk
  intro pins s σ H xs us Q I r h
  obtain ⟨c, cv, b, fs, rfl, hcv, e, hd, q⟩ := h
  exact isP_of C hm hz hf hcv e I hd r q
theorem r_isPC {K : PySem.W.Frag} {D a C : Addr} {d : Option Addr} {fs : List (Str × V)} {H : Hp} {Q : VK} {b : Bool} (e : PySem.W.kitOne K (.ref D) (.ref C) = some b) (hd : ∀ dd, d = some dd → H dd = some (.xd fs)) (q : Q (.bl b) H) : bIsP K D a d [.ref a, .ref C] H Q :=
  ⟨.ref C, .ref C, b, fs, rfl, fun u r => r, e, hd, q⟩
theorem r_isPT {K : PySem.W.Frag} {D a : Addr} {T : String} {d : Option Addr} {fs : List (Str × V)} {H : Hp} {Q : VK} {b : Bool} (e : PySem.W.kitOne K (.ref D) (.type T) = some b) (hd : ∀ dd, d = some dd → H dd = some (.xd fs)) (q : Q (.bl b) H) : bIsP K D a d [.ref a, .ty T] H Q :=
  ⟨.ty T, .type T, b, fs, rfl, fun u r => r, e, hd, q⟩

/-! ### a def called in a suite, the exception in hand handed to it -/
structure OkP (P : Program) (w : World) (K : PySem.W.Frag) (mg : Str → Option Value) (base : Heap) (x : Str) (k : Nat) (ps : List Str) (sp : Addr → Value → Option Addr → Sp) : Prop where
  ex : ∃ (f : Addr) (fd : FuncData), (∀ a cls d vs H Q E, sp a cls d vs H Q E → vs.length = ps.length) ∧
    (∀ (A : Around) (outer : List Env) (s : Shared) (H : Hp) (args : Args) (us : List Value) (vs : List V) (Q : VK) (E : XK) (p : Addr × Obj) (cls : Value) (d : Option Addr), L2H.RoomH k A → Zc cls d p.2 → (∃ vs, p.2.data = .fields vs) → L2H.PinOk outer H s p → Env0 P w K mg base A outer s H → BindsTo s fd args (ps.zip us) → Vals vs us → sp p.1 cls d vs H Q E →
      codeAny (model P w) A (.call (.ref f) args) (CR CX0 outer P w H s Q E) s) ∧ Binds K fd ps [] ∧ mg x = some (.ref f) ∧ PySem.W.keepIn K (.ref f) = true
section
variable {P : Program} {w : World} {K : PySem.W.Frag} {mg : Str → Option Value} {base : Heap}
theorem Df.okP {x : Str} {st : Stmt} {N ps : List Str} {k : Nat} {sp : Addr → Value → Option Addr → Sp} (F : Df K mg x st ps) (S : FnScope N ps (defScope st)) (len : ∀ a cls d vs H Q E, sp a cls d vs H Q E → vs.length = ps.length)
    (hbody : ∀ (f : Addr) (cdv : Value) (A : Around) (outer : List Env) (s : Shared) (H : Hp) (vs : List V) (Q : VK) (E : XK) (p : Addr × Obj) (cls : Value) (d : Option Addr), Zc cls d p.2 → (∃ vs, p.2.data = .fields vs) → L2H.RoomH k (A.deeper (envOfC x (defScope st) s.heap.objs.size f cdv)) → sp p.1 cls d vs H Q E →
      ∃ t, PSs (L2H.cxH CX0 P w K mg base N x (defScope st) f cdv A outer s H E p).nox (defBody st) t ∧ t { nx := fun _ H' => Q .non H', rt := Q } (L2.start N vs) H) : OkP P w K mg base x (k + 1) ps sp := by
  obtain ⟨f, fd, F, b, m⟩ := F.ex
  obtain ⟨oc, od, kV, doc, pm, an, cdv, ct, osl, rfl, lk, hcd⟩ := F.ex
  refine ⟨f, _, len, fun A outer s H args us vs Q E p cls d hr hz hf hpin e0 hb r hsp => ?_, b, m, F.kp⟩
  have hl := len _ _ _ _ _ _ _ hsp
  have KX : K.In s.heap := e0.mod.kin.keeps fun b o e => (e0.bs b o e).1
  have lim : s.heap.NoLimit := e0.mod.nolimit.keeps fun b o e => (e0.bs b o e).1
  have hkind : ∀ y ∈ ps.zip us, (defScope st).names.lookup y.1 = some .local ∨ ((defScope st).names.lookup y.1 = some .cell ∧ ((cellsFrom (s.heap.objs.size + 1) (defScope st).names []).lookup y.1).isSome = true) := fun ⟨n, v⟩ hy => by
    rcases S.par n (List.of_mem_zip hy).1 with q | q
    · exact .inl q
    · exact .inr ⟨q, PySem.W.cellsFrom_some _ _ _ (.inl q)⟩
  refine codeAny_call_function hr.depth (KX _ _ lk) rfl S.co S.gen rfl (PySem.W.codeRec_of KX hcd) (hb _ _ _ _ ?_)
  refine wpAny_newFunctionEnv_cells S.kind hkind fun env he s1 xc => ?_
  subst he
  refine ⟨lim.keeps xc.toInCall.keep, codeAny_func ?_⟩
  obtain ⟨t, ht, hq⟩ := hbody f cdv A outer s H vs Q E p cls d hz hf (hr.deeper _) hsp
  have I := L2H.inv_startH (CX := CX0) (E := E) S hpin e0 hl r xc
  refine wpAny_mono (ht.run [] s1 (L2.start N vs) H _ (I.wish _) hq) (fun fl s' hs => ?_) fun e s' hs => (show False from hs).elim
  have fin : ∀ {σ' : L2.St} {H' : Hp} {v : V} {u : Value}, Inv (L2H.cxH CX0 P w K mg base N x (defScope st) f cdv A outer s H E p).nox [] σ' H' s' → RelV v u → Q v H' → CE outer P w H s Q u s' :=
    fun {σ' H' v u} J rv q => ⟨v, H', J.os, J.bare, J.base, J.hok, rv, q⟩
  cases fl with
  | ret u =>
    obtain ⟨v, σ', H', J, rv, q⟩ := hs
    exact fin J rv q
  | next =>
    obtain ⟨σ', H', J, q⟩ := hs
    exact fin (v := V.non) (u := Value.none) J rfl q
  | brk =>
    obtain ⟨_, _, _, q⟩ := hs
    exact False.elim q
  | cont =>
    obtain ⟨_, _, _, q⟩ := hs
    exact False.elim q
theorem OkP.mono {x : Str} {ps : List Str} {j k : Nat} {sp : Addr → Value → Option Addr → Sp} (o : OkP P w K mg base x j ps sp) (h : j ≤ k) : OkP P w K mg base x k ps sp := by
  obtain ⟨f, fd, len, F, b, m, kp⟩ := o.ex
  exact ⟨f, fd, len, fun A outer s H args us vs Q E p cls d hr => F A outer s H args us vs Q E p cls d (hr.mono h), b, m, kp⟩
end
theorem pe_clP {X : Cx} {x : Str} {ps : List Str} {k : Nat} {sp : Addr → Value → Option Addr → Sp} {a : Addr} {oe : Obj} {cls : Value} {d : Option Addr} {pn : List (Addr × Obj)} {e : Expr} {es : List Expr} {t : TA} {p pos : Pos} (o : OkP X.prog X.w X.K X.mg X.base x k ps sp) (hr : L2H.RoomH k X.A)
    (hz : Zc cls d oe) (hf : ∃ vs, oe.data = .fields vs) (hg : Gl X x) (ha : PA (X.suite a ((a, oe) :: pn)) (e :: es) t)
    (hdb : (x == ("__debug__" : Str)) = false := by decide) (he : starEach (e :: es) X.env = (false, eval e X.env) :: starEach es X.env := by rfl) (hpl : (backTo pos (starEach es X.env)).any (·.1) = false := by rfl) :
    PE (X.suite a ((a, oe) :: pn)) (.Call (.Name x p) (e :: es) [] pos) (tCl (sp a cls d) t) := by
  obtain ⟨f, fd, len, F, b, m, kp⟩ := o.ex
  refine ⟨fun pins s σ H Q I h => ?_⟩
  refine wpAny_Call_Name_kw (ld_glob I hg m ?_ hdb)
  refine PySem.W.callWith_K (h₀ := X.base) I.ok.mod.kin kp (thn (ha.run pos pins s σ H _ I h) fun us s1 ⟨vs, H1, I1, r, q⟩ => ⟨I1.kIn, ?_⟩) he hpl
  have hl : us.length = ps.length := by rw [← r.length]; exact len _ _ _ _ _ _ _ q
  have b' := b s1 us I1.kIn (by rw [List.append_nil]; exact hl)
  rw [List.append_nil] at b'
  have P1 := I1.pin (a, oe) (List.mem_append_left _ List.mem_cons_self)
  have hpin : L2H.PinOk X.stack H1 s1 (a, oe) := ⟨P1.1, P1.2.1, fun hm => (List.mem_cons.mp (I1.stkSub a hm)).elim P1.2.2.1 P1.2.2.2.1, P1.2.2.2.2⟩
  refine wpAny_call (codeAny_mono (F (X.suite a ((a, oe) :: pn)).A X.stack s1 H1 ⟨us, []⟩ us vs Q E0 (a, oe) cls d ⟨hr.dp, hr.un⟩ hz hf hpin I1.env0 b' r q) fun r s' hq => ?_)
  cases r with
  | error e => exact (show False from hq).elim
  | ok fl =>
    cases fl with
    | ret u => exact I1.after hq
    | next => exact False.elim hq
    | brk => exact False.elim hq
    | cont => exact False.elim hq

/-! ### xs.count(True), xs.index(True), of True and False -/
def mCountB (K : PySem.W.Frag) : V → List V → Hp → VK → Prop := fun x xs H Q => ∃ (p : Addr) (bs : List Bool) (b : Bool), x = .ref p ∧ xs = [.bl b] ∧ SqL K H p (bs.map V.bl) ∧ Q (.int (bs.count b : Nat)) H
theorem flat_bls (bs : List Bool) : (bs.map V.bl).all flatV = true := by
  rw [List.all_map]
  exact List.all_eq_true.mpr fun _ _ => rfl
theorem countP_eqU {b : Bool} : ∀ {bs : List Bool} {us : List Value}, Vals (bs.map V.bl) us → us.countP (eqU (.bl b)) = bs.count b
  | [], _, r => by cases r; rfl
  | c :: bs, _, r => by
    rw [List.map_cons] at r
    cases r with
    | cons h t =>
      rw [List.countP_cons, countP_eqU t, eqU_of h rfl, List.count_cons]
      have : eqV (V.bl c) (V.bl b) = (c == b) := by cases c <;> cases b <;> rfl
      rw [this]
theorem mt_countB (K : PySem.W.Frag) {X : Cx} (hk : X.K = K := by rfl) : MtR X "list.count" (mCountB K) := by
  subst hk
  intro pins s σ H x xs v us Q I rx rxs h
  obtain ⟨p, bs, b, rfl, rfl, hs, q⟩ := h
  cases rx
  cases rxs with
  | cons ry rt =>
    rename_i uy ut
    cases rt
    obtain ⟨its, rv, ⟨⟨cls, dd, data, sl⟩, n, ho, hc, hdn, hd⟩, hlen⟩ := I.list hs
    simp only at hc hd
    subst hc hd
    refine call_meets PySem.F.slot_list_count ⟨_, ho, rfl⟩ PySem.F.entry_list_count (PySem.F.args_list_count_2 _ _)
      (SeqAt.list_countAt p its.toArray n dd sl uy (eqU (.bl b))) ⟨ho, fun u' hu' => mem_eqAt ry rfl rv (flat_bls bs) u' (by simpa using hu'), ?_⟩
    refine ⟨.int (bs.count b : Nat), H, I.tok _, ⟨s.toks, ?_⟩, q⟩
    show Value.int ((its.toArray.toList.countP (eqU (.bl b)) : Nat) : Int) s.toks = Value.int ((bs.count b : Nat) : Int) s.toks
    rw [show its.toArray.toList = its from rfl, countP_eqU rv]
def mIndexB (K : PySem.W.Frag) : V → List V → Hp → VK → Prop := rIndex K
theorem mt_indexB (K : PySem.W.Frag) {X : Cx} (hk : X.K = K := by rfl) : MtR X "list.index" (mIndexB K) := by
  subst hk
  exact mt_index
theorem r_countB {K : PySem.W.Frag} {H : Hp} {Q : VK} {p : Addr} {bs : List Bool} {b : Bool} (h : H p = some (.lst (bs.map V.bl))) (q : Q (.int (bs.count b : Nat)) H) : mCountB K (.ref p) [.bl b] H Q := ⟨p, bs, b, rfl, rfl, SqL.of h, q⟩
theorem r_indexB {K : PySem.W.Frag} {H : Hp} {Q : VK} {p : Addr} {bs : List Bool} {j : Nat} (h : H p = some (.lst (bs.map V.bl))) (hj : bs[j]? = some true) (hno : ∀ m, m < j → bs[m]? = some false) (q : Q (.int (j : Nat)) H) : mIndexB K (.ref p) [.bl true] H Q := by
  refine ⟨p, bs.map V.bl, .bl true, j, .bl true, rfl, rfl, SqL.of h, rfl, flat_bls bs, by rw [List.getElem?_map, hj]; rfl, rfl, fun m z' hm hz => ?_, q⟩
  rw [List.getElem?_map, hno m hm] at hz
  cases hz
  rfl
/-! ### a, b, c = x, y, z -/
theorem r_spar3 {i j l : Nat} {ta : TA} {s2 : TS} {nx bk ct : L2.St → Hp → Prop} {rt : VK} {σ : L2.St} {H : Hp} (q : ta σ H fun vs H1 => ∃ u v w, vs = [u, v, w] ∧ s2 ⟨nx, rt, bk, ct⟩ (((σ.set i (some u)).set j (some v)).set l (some w)) H1) : tSeq (tPar3 i j l ta) s2 ⟨nx, rt, bk, ct⟩ σ H := q
theorem r_par3 {i j l : Nat} {ta : TA} {nx bk ct : L2.St → Hp → Prop} {rt : VK} {σ : L2.St} {H : Hp} (q : ta σ H fun vs H1 => ∃ u v w, vs = [u, v, w] ∧ nx (((σ.set i (some u)).set j (some v)).set l (some w)) H1) : tPar3 i j l ta ⟨nx, rt, bk, ct⟩ σ H := q
theorem r_three {u v w : V} {P : V → V → V → Prop} (q : P u v w) : ∃ u' v' w', [u, v, w] = [u', v', w'] ∧ P u' v' w' := ⟨u, v, w, rfl, q⟩
end Z

/-! lambdas that outlive the statement that makes them: their objects and cells, known for ever -/
namespace Z
open PySem PySem.Spec PyProof.Rows L2 LamX
/-! ### things that never change -/
/-- the object at a is o for ever -/
def FrzO (o : Obj) : HO := .frz o (.ext fun _ => True)
section
variable {P : Program} {w : World} {H H' : Hp} {h h' B : Heap} {a : Addr} {o : Obj}
theorem frzO_ok (e : h.get? a = some o) : ObjOk P w H h a (FrzO o) := ⟨e, True.intro, ⟨o, e⟩, fun _ _ _ _ => True.intro⟩
theorem frzO_at (ok : HOk P w H h) (e : H a = some (FrzO o)) : h.get? a = some o := (show ObjOk P w H h a (FrzO o) from ok a _ e).1
/-- H without the things at l; H' with those of H there -/
def hidA (l : List Addr) (H : Hp) : Hp := fun b => if b ∈ l then none else H b
def bakA (l : List Addr) (H H' : Hp) : Hp := fun b => if b ∈ l then H b else H' b
theorem hidA_in {l : List Addr} {b : Addr} (h : b ∈ l) : hidA l H b = none := if_pos h
theorem hidA_no {l : List Addr} {b : Addr} (h : b ∉ l) : hidA l H b = H b := if_neg h
theorem bakA_in {l : List Addr} {b : Addr} (h : b ∈ l) : bakA l H H' b = H b := if_pos h
theorem bakA_no {l : List Addr} {b : Addr} (h : b ∉ l) : bakA l H H' b = H' b := if_neg h
theorem hidA_some {l : List Addr} {b : Addr} {u : HO} (e : hidA l H b = some u) : b ∉ l ∧ H b = some u := by
  by_cases hb : b ∈ l
  · rw [hidA_in hb] at e; cases e
  · rw [hidA_no hb] at e; exact ⟨hb, e⟩
theorem hidA_none {l : List Addr} {b : Addr} (e : H b = none) : hidA l H b = none := by
  by_cases hb : b ∈ l
  · exact hidA_in hb
  · rw [hidA_no hb]; exact e
/-- what stands at l are things that never change -/
def FrzA (l : List Addr) (H : Hp) : Prop := ∀ c ∈ l, ∃ o, H c = some (FrzO o)
theorem frzL_ne {l : List Addr} (f : FrzA l H) {b : Addr} {u : HO} (e : H b = some u) (n : ∀ o, u ≠ FrzO o) : b ∉ l := fun hb => by
  obtain ⟨o, ho⟩ := f b hb
  rw [ho] at e
  exact n o (Option.some.inj e).symm
theorem hok_hid {l : List Addr} (f : FrzA l H) (ok : HOk P w H h) : HOk P w (hidA l H) h := fun b u e => by
  obtain ⟨hb, e⟩ := hidA_some e
  refine (ok b u e).stay (fun _ _ _ q => q) (fun c q => ?_) fun c xs q => ?_
  · rw [hidA_no (frzL_ne f q fun _ z => nomatch z)]; exact q
  · rw [hidA_no (frzL_ne f q fun _ z => nomatch z)]; exact q
section
variable {fs : List Addr} {l : List Addr} (f : FrzA l H) (ok : HOk P w H h) (nf : ∀ c ∈ l, c ∉ fs) (u : Un fs [] (hidA l H) H' h h')
include f ok nf u
theorem un_bak : Un fs [] H (bakA l H H') h h' := by
  have nl : ∀ b, H b = none → b ∉ l := fun b n hb => by
    obtain ⟨o, ho⟩ := f b hb
    rw [n] at ho
    cases ho
  refine ⟨fun b o e n hb hx => u.keep b o e (by rw [hidA_no (nl b n)]; exact n) hb hx, fun b o e n hb hx => u.slot b o e (by rw [hidA_no (nl b n)]; exact n) hb hx, fun b o e n hx => ?_, u.there, fun b xs e => ?_, fun b o v e => ?_, fun b ps e => ?_⟩
  · rw [bakA_no (nl b n)]
    exact u.free b o e (by rw [hidA_no (nl b n)]; exact n) hx
  · have hb := frzL_ne f e fun _ z => nomatch z
    rw [bakA_no hb]
    exact u.tups b xs (by rw [hidA_no hb]; exact e)
  · by_cases hb : b ∈ l
    · rw [bakA_in hb]; exact e
    · rw [bakA_no hb]
      exact u.frzs b o v (by rw [hidA_no hb]; exact e)
  · have hb := frzL_ne f e fun _ z => nomatch z
    rw [bakA_no hb]
    exact u.tbls b ps (by rw [hidA_no hb]; exact e)
theorem hok_bak (ok' : HOk P w H' h') : HOk P w (bakA l H H') h' := fun b v e => by
  have gone : ∀ c, c ∈ l → H' c = none := fun c hc => by
    obtain ⟨o, ho⟩ := f c hc
    exact u.free c o (frzO_at ok ho) (hidA_in hc) (by simp)
  by_cases hb : b ∈ l
  · rw [bakA_in hb] at e
    obtain ⟨o, ho⟩ := f b hb
    rw [ho] at e
    cases e
    exact frzO_ok (u.keep b o (frzO_at ok ho) (hidA_in hb) (nf b hb) (by simp))
  · rw [bakA_no hb] at e
    have st : ∀ c v, H' c = some v → bakA l H H' c = some v := fun c v q => by
      rw [bakA_no fun hc => by rw [gone c hc] at q; cases q]
      exact q
    exact (ok' b v e).stay (fun _ _ _ q => q) (fun c q => st c _ q) fun c xs q => st c _ q
end
section
variable {fs : List Addr} {l : List Addr} (f : FrzA l H) (ok : HOk P w H h) (nf : ∀ c ∈ l, c ∉ fs) (u : UB fs (hidA l H) H' h B h')
include f ok nf u
theorem ub_bak : UB fs H (bakA l H H') h B h' := by
  have nl : ∀ b, H b = none → b ∉ l := fun b n hb => by
    obtain ⟨o, ho⟩ := f b hb
    rw [n] at ho
    cases ho
  refine ⟨fun b o e n hb => u.keep b o e (by rw [hidA_no (nl b n)]; exact n) hb, u.slot, fun b o e n => ?_, u.there, fun b xs e => ?_, fun b o v e => ?_, fun b ps e => ?_⟩
  · rw [bakA_no (nl b n)]
    exact u.free b o e (by rw [hidA_no (nl b n)]; exact n)
  · have hb := frzL_ne f e fun _ z => nomatch z
    rw [bakA_no hb]
    exact u.tups b xs (by rw [hidA_no hb]; exact e)
  · by_cases hb : b ∈ l
    · rw [bakA_in hb]; exact e
    · rw [bakA_no hb]
      exact u.frzs b o v (by rw [hidA_no hb]; exact e)
  · have hb := frzL_ne f e fun _ z => nomatch z
    rw [bakA_no hb]
    exact u.tbls b ps (by rw [hidA_no hb]; exact e)
theorem hok_bakB (ok' : HOk P w H' B) : HOk P w (bakA l H H') B := fun b v e => by
  have gone : ∀ c, c ∈ l → H' c = none := fun c hc => by
    obtain ⟨o, ho⟩ := f c hc
    exact u.free c o (frzO_at ok ho) (hidA_in hc)
  by_cases hb : b ∈ l
  · rw [bakA_in hb] at e
    obtain ⟨o, ho⟩ := f b hb
    rw [ho] at e
    cases e
    exact frzO_ok (u.keep b o (frzO_at ok ho) (hidA_in hb) (nf b hb))
  · rw [bakA_no hb] at e
    have st : ∀ c v, H' c = some v → bakA l H H' c = some v := fun c v q => by
      rw [bakA_no fun hc => by rw [gone c hc] at q; cases q]
      exact q
    exact (ok' b v e).stay (fun _ _ _ q => q) (fun c q => st c _ q) fun c xs q => st c _ q
end
end
/-- a call's end, the hidden things back -/
theorem cr_bak {P : Program} {w : World} {outer : List Env} {H : Hp} {s : Shared} {l : List Addr} {Q : VK} {E : XK} {r : Result} {s' : Shared} (f : FrzA l H) (ok : HOk P w H s.heap) (nf : ∀ c ∈ l, c ∉ frs outer)
    (h : CR (L2.CX P w) outer P w (hidA l H) s (fun v H' => (∀ c ∈ l, H' c = none) → Q v (bakA l H H')) (fun cls d H' => (∀ c ∈ l, H' c = none) → E cls d (bakA l H H')) r s') : CR (L2.CX P w) outer P w H s Q E r s' := by
  cases r with
  | error e =>
    obtain ⟨a, B, H', cls, d, e1, fl, hok, ub, na, os, ag, q⟩ := h
    have nl : a ∉ l := fun ha => by
      obtain ⟨o, ho⟩ := f a ha
      have := ub.keep a o (frzO_at ok ho) (hidA_in ha) (nf a ha)
      rw [fl.2.1] at this
      cases this
    exact ⟨a, B, bakA l H H', cls, d, e1, fl, hok_bakB f ok nf ub hok, ub_bak f ok nf ub, by rw [bakA_no nl]; exact na, os, ag, q fun c hc => by
      obtain ⟨o, ho⟩ := f c hc
      exact ub.free c o (frzO_at ok ho) (hidA_in hc)⟩
  | ok fl =>
    cases fl with
    | ret u =>
      obtain ⟨v, H', os, bare, un, hok, rv, q⟩ := h
      exact ⟨v, bakA l H H', os, bare, un_bak f ok nf un, hok_bak f ok nf un hok, rv, q fun c hc => by
        obtain ⟨o, ho⟩ := f c hc
        exact un.free c o (frzO_at ok ho) (hidA_in hc) (by simp)⟩
    | next => exact h
    | brk => exact h
    | cont => exact h
/-! ### the lambda's object -/
/-- the closure: each free name has a cell, no two the same -/
structure CloOk (scope : Scope) (cl : List (Str × Addr)) : Prop where
  keys : ∀ x c, cl.lookup x = some c → (x, NameKind.free) ∈ scope.names
  has : ∀ x, (x, NameKind.free) ∈ scope.names → ∃ c, cl.lookup x = some c
  inj : ∀ x y c, cl.lookup x = some c → cl.lookup y = some c → x = y
/-- the defaults: none, or 0 -/
def DflO (H : Hp) (params : Arguments) (dV : Value) : Prop := (params.defaults = [] ∧ dV = .none) ∨ (params.defaults ≠ [] ∧ ∃ (t : Addr) (tk : Tok), dV = .ref t ∧ H t = some (FrzO (PySem.W.kdv_tup [.int 0 tk])))
/-- at f stands this lambda -/
def LamAt (H : Hp) (f : Addr) (q : Str) (params : Arguments) (body : Expr) (scope : Scope) (cl : List (Str × Addr)) : Prop :=
  ∃ (c' : Addr) (dV doc pm ctv : Value), H f = some (FrzO (PySem.W.kdv_obj "<lambda>" q params (.expr body) scope cl dV doc pm c' ctv)) ∧ H c' = some (CodeO c' q) ∧ DflO H params dV ∧ CloOk scope cl
theorem codeO_frz {c : Addr} {q : Str} {o : Obj} : CodeO c q ≠ FrzO o := fun z => nomatch z
theorem ext_lamAt {H H' : Hp} {f : Addr} {q : Str} {params : Arguments} {body : Expr} {scope : Scope} {cl : List (Str × Addr)} (e : ExtN H H') (h : LamAt H f q params body scope cl) : LamAt H' f q params body scope cl := by
  obtain ⟨c', dV, doc, pm, ctv, h1, h2, h3, h4⟩ := h
  refine ⟨c', dV, doc, pm, ctv, e _ _ h1 (fun _ z => nomatch z), e _ _ h2 codeO_ne, ?_, h4⟩
  rcases h3 with z | ⟨z, t, tk, z1, z2⟩
  · exact .inl z
  · exact .inr ⟨z, t, tk, z1, e _ _ z2 (fun _ z => nomatch z)⟩
section
variable {X : Cx} {pins : List (Addr × Obj)} {σ : L2.St} {H : Hp} {s : Shared}
theorem inv_frz {o : Obj} {t' : Nat} (I : Inv X pins σ H s) (hfr : o.isFreed = false := by rfl) : Inv X pins σ (upd H s.heap.objs.size (FrzO o)) { s with heap := s.heap.push o, toks := t' } :=
  I.laid (a := s.heap.objs.size) (fun b u e => Heap.get?_push_of_some _ e) (Nat.le_refl _) (frzO_ok (Heap.get?_push_size _ hfr))
theorem lam_tail {T : List (Addr × Str)} {c P : Addr} {params : Arguments} {body : Expr} {scope : Scope} {pos : Pos} {dV : Value} {E : Value → Shared → Prop} {Q : Value → Shared → Prop} (I : Inv X pins σ H s) (TB : TabB X.base X.mg c P) (hcode : X.env.code = .ref c)
    (hm : (P, X.env.qual ++ "<lambda>") ∈ T) (hu : ∀ p ∈ T, p.1 = P → p.2 = X.env.qual ++ "<lambda>") (hT : Tabs T H) (hfree : ∀ y ∈ scope.names, y.2 = .free → ∃ c, X.env.cells.lookup y.1 = some c)
    (h : ∀ (f c' : Addr) (doc pm ctv : Value) (H1 : Hp) (s' : Shared), Inv X pins σ H1 s' → ExtN H H1 → Tabs T H1 → H f = none → H1 f = some (FrzO (PySem.W.kdv_obj "<lambda>" (X.env.qual ++ "<lambda>") params (.expr body) scope (cloFrom X.env.cells scope.names []) dV doc pm c' ctv)) →
      H1 c' = some (CodeO c' (X.env.qual ++ "<lambda>")) → Q (.ref f) s') :
    wpAny (model X.prog X.w) X.A (makeTail "<lambda>" (X.env.qual ++ "<lambda>") params (.expr body) scope X.env dV .none none pos pos.line) Q E s := by
  obtain ⟨ps, hP, ht, ha⟩ := hT _ hm
  have bP : s.heap.BuiltinsAt X.mg P := TB.bm.keeps I.bk
  have hP' : s.heap.get? P = some { cls := .none, data := .fields ps } := I.hok P _ hP
  cases hc : codeAmong pos ps.toList with
  | none =>
    refine PySem.W.kdv_makeTail (mg := X.mg) (c := c) (P := P) (ps := ps) (closure_ok hfree) I.ok.glob (I.mod.glob.keeps I.bk) hcode (TB.code.keeps I.bk) hP' ht hc TB.gP bP fun c' ctv doc h' tk hx hge hlt hrec htb => ?_
    obtain ⟨c2, oc, vs, t, e2, hoc, hd, hv⟩ := hrec
    cases e2
    have nC : H c' = none := I.hok.fresh hge
    have I1 := inv_table (t' := tk) (more := #[rawInt pos.line, rawInt pos.col, .ref c']) (h' := h') I hP (fun b o hb e => hx b o hb e) htb hge ⟨oc, vs, t, hoc, hd, hv⟩
    have hE : ExtN H (upd (upd H P (.tbl (ps ++ #[rawInt pos.line, rawInt pos.col, .ref c']))) c' (CodeO c' (X.env.qual ++ "<lambda>"))) := fun b o e n => by
      rw [upd_ne (ne_of_none e nC), upd_ne (fun z => n ps (Option.some.inj (e.symm.trans (by rw [z]; exact hP))))]
      exact e
    have eL : (ps ++ #[rawInt pos.line, rawInt pos.col, .ref c']).toList = ps.toList ++ [rawInt pos.line, rawInt pos.col, .ref c'] := by simp
    have T1 : Tabs T (upd (upd H P (.tbl (ps ++ #[rawInt pos.line, rawInt pos.col, .ref c']))) c' (CodeO c' (X.env.qual ++ "<lambda>"))) := fun p hp => by
      by_cases hb : p.1 = P
      · rw [hu p hp hb, hb]
        refine ⟨_, by rw [upd_ne (ne_of_none hP nC), upd_same], by rw [eL]; exact PySem.TriplesOk_snoc _ _ _ _ ht, fun p' cv hcv => ?_⟩
        rw [eL] at hcv
        rcases among_app _ ht hcv with z | z
        · obtain ⟨c0, e1, e2⟩ := ha p' cv z
          exact ⟨c0, e1, hE _ _ e2 codeO_ne⟩
        · exact ⟨c', z, upd_same⟩
      · obtain ⟨ps', a1, a2, a3⟩ := hT p hp
        refine ⟨ps', by rw [upd_ne (ne_of_none a1 nC), upd_ne hb]; exact a1, a2, fun p' cv hcv => ?_⟩
        obtain ⟨c0, e1, e2⟩ := a3 p' cv hcv
        exact ⟨c0, e1, hE _ _ e2 codeO_ne⟩
    have nF := I1.hok.fresh (Nat.le_refl _)
    have I2 := inv_frz (t' := tk) (o := PySem.W.kdv_obj "<lambda>" (X.env.qual ++ "<lambda>") params (.expr body) scope (cloFrom X.env.cells scope.names []) dV doc ((X.mg "__name__").getD .none) c' ctv) I1
    refine h h'.objs.size c' _ _ _ _ _ I2 (fun b o e n => ?_) (T1.ext fun b o e => ?_) (I.hok.fresh (Nat.le_trans hge (Nat.le_of_lt hlt))) upd_same ?_
    · have e1 := hE b o e n
      exact (upd_ne (ne_of_none e1 nF)).trans e1
    · exact (upd_ne (ne_of_none e nF)).trans e
    · exact (upd_ne (Nat.ne_of_lt hlt)).trans upd_same
  | some cv =>
    obtain ⟨c', e, hco⟩ := ha pos cv hc
    subst e
    refine PySem.W.kdv_makeTailHit (mg := X.mg) (c := c) (P := P) (ps := ps) (closure_ok hfree) I.ok.glob (I.mod.glob.keeps I.bk) hcode (TB.code.keeps I.bk) hP' ht hc bP fun ctv doc h' tk hx hsz => ?_
    have I1 : Inv X pins σ H { s with heap := h', toks := tk } := I.kept hx
    have nF : H h'.objs.size = none := I1.hok.fresh (Nat.le_refl _)
    have I2 := inv_frz (t' := tk) (o := PySem.W.kdv_obj "<lambda>" (X.env.qual ++ "<lambda>") params (.expr body) scope (cloFrom X.env.cells scope.names []) dV doc ((X.mg "__name__").getD .none) c' ctv) I1
    refine h h'.objs.size c' _ _ _ _ _ I2 (fun b o e n => ?_) (hT.ext fun b o e => ?_) nF upd_same ?_
    · exact (upd_ne (ne_of_none e nF)).trans e
    · exact (upd_ne (ne_of_none e nF)).trans e
    · exact (upd_ne (ne_of_none hco nF)).trans hco
/-- the names that the lambda captures are cells of the maker -/
def FreeS (sc scope : Scope) : Prop := ∀ y ∈ scope.names, y.2 = .free → sc.names.lookup y.1 = some .cell ∨ sc.names.lookup y.1 = some .free
theorem FreeS.has {X : Cx} {scope : Scope} (L : FreeS X.env.scope scope) (ok : X.Ok) : ∀ y ∈ scope.names, y.2 = .free → ∃ c, X.env.cells.lookup y.1 = some c := fun y hy e => by
  rcases L y hy e with k | k
  · exact ok.has _ (.inl k)
  · exact ok.has _ (.inr k)
theorem cloOk {X : Cx} {scope : Scope} (L : FreeS X.env.scope scope) (ok : X.Ok) : CloOk scope (cloFrom X.env.cells scope.names []) := by
  have hfree := L.has ok
  have cm : ∀ {y c}, (cloFrom X.env.cells scope.names []).lookup y = some c → X.env.cells.lookup y = some c ∧ (y, NameKind.free) ∈ scope.names := fun {y c} e => by
    rcases cloFrom_mem (PySem.mem_of_lookup e) with hm | ⟨h1, h2⟩
    · cases hm
    · obtain ⟨c1, hc⟩ := hfree _ h1 rfl
      have hc : X.env.cells.lookup y = some c1 := hc
      have e2 : c = c1 := by
        rw [h2, hc] <;> rfl
      rw [e2]
      exact ⟨hc, h1⟩
  exact ⟨fun x c e => (cm e).2, fun x hx => mem_lookup (cloFrom_has (cells := X.env.cells) (acc := []) hx), fun x y c h1 h2 => ok.inj x y c (cm h1).1 (cm h2).1⟩
def tLamV (T : List (Addr × Str)) (q : Str) (params : Arguments) (body : Expr) (scope : Scope) (cl : List (Str × Addr)) : TE := fun _ H Q => Tabs T H ∧ ∀ f H1, H f = none → ExtN H H1 → Tabs T H1 → LamAt H1 f q params body scope cl → Q (.ref f) H1
theorem pe_lamV0 {T : List (Addr × Str)} {c P : Addr} {params : Arguments} {body : Expr} {scope : Scope} {pos : Pos} (TB : TabB X.base X.mg c P) (hcode : X.env.code = .ref c) (hm : (P, X.env.qual ++ "<lambda>") ∈ T) (hu : ∀ p ∈ T, p.1 = P → p.2 = X.env.qual ++ "<lambda>")
    (L : FreeS X.env.scope scope) (hd : params.defaults = []) (hdef : defaultsOf params X.env = ([], [])) : PE X (.Lambda params body scope pos) (tLamV T (X.env.qual ++ "<lambda>") params body scope (cloFrom X.env.cells scope.names [])) := by
  refine ⟨fun pins s σ H Q I h => ?_⟩
  obtain ⟨hT, h⟩ := h
  refine PySem.W.kla_eval hdef ?_
  rw [makeFunction_eq]
  simp only [List.zip_nil_right, List.filterMap_nil, List.isEmpty_nil, if_true, pure_bind]
  refine lam_tail I TB hcode hm hu hT (L.has I.ok) fun f c' doc pm ctv H1 s' I1 eN T1 hf h1 h2 => ?_
  exact ⟨.ref f, H1, I1, rfl, h f H1 hf eN T1 ⟨c', .none, doc, pm, ctv, h1, h2, .inl ⟨hd, rfl⟩, cloOk L I.ok⟩⟩
theorem pe_lamV1 {T : List (Addr × Str)} {c P : Addr} {params : Arguments} {body : Expr} {scope : Scope} {pos p0 : Pos} {j : Nat} (TB : TabB X.base X.mg c P) (hcode : X.env.code = .ref c) (hm : (P, X.env.qual ++ "<lambda>") ∈ T) (hu : ∀ p ∈ T, p.1 = P → p.2 = X.env.qual ++ "<lambda>")
    (L : FreeS X.env.scope scope) (hd : params.defaults = [.Constant (.int 0) j p0]) (hk : params.kw_defaults = []) : PE X (.Lambda params body scope pos) (tLamV T (X.env.qual ++ "<lambda>") params body scope (cloFrom X.env.cells scope.names [])) := by
  refine ⟨fun pins s σ H Q I h => ?_⟩
  obtain ⟨hT, h⟩ := h
  refine PySem.W.kdv_lam (by rw [hd]; rfl) hk ?_
  rw [hd]
  refine PySem.W.kdv_all1 (wpAny_Constant_int (PySem.W.kdv_all0 ?_))
  rw [makeFunction_eq]
  simp only [List.zip_nil_right, List.filterMap_nil, List.isEmpty_nil, List.isEmpty_cons, if_true, pure_bind, Bool.false_eq_true, if_false]
  refine wpAny_bind (wpAny_newTextTuple ?_)
  have I0 : Inv X pins σ H { s with toks := s.toks + 1 } := I.tok _
  have nt := I.hok.fresh (Nat.le_refl s.heap.objs.size)
  have I1 := inv_frz (o := PySem.W.kdv_tup [.int 0 s.toks]) (t' := s.toks + 1) I0
  have sm : Same H (upd H s.heap.objs.size (FrzO (PySem.W.kdv_tup [.int 0 s.toks]))) := same_new nt
  refine lam_tail I1 TB hcode hm hu (hT.ext sm) (L.has I.ok) fun f c' doc pm ctv H1 s' I2 eN T1 hf h1 h2 => ?_
  refine ⟨.ref f, H1, I2, rfl, h f H1 ?_ ((ext_same sm).trans eN) T1 ⟨c', .ref s.heap.objs.size, doc, pm, ctv, h1, h2, .inr ⟨by rw [hd]; exact List.cons_ne_nil _ _, s.heap.objs.size, s.toks, rfl, eN _ _ upd_same (fun _ z => nomatch z)⟩, cloOk L I.ok⟩⟩
  exact NdefX.upd_none hf
end
/-! ### a lambda runs -/
structure LamSc (scope : Scope) : Prop where
  kind : scope.kind = .function
  co : scope.isCoroutine = false
  gen : scope.isGenerator = false
  nocell : ∀ y ∈ scope.names, y.2 ≠ .cell
/-- the cell of the free name x holds v for ever -/
def FreeAt (H : Hp) (cl : List (Str × Addr)) (x : Str) (v : V) : Prop := ∃ (c : Addr) (oc : Obj) (u : Value), cl.lookup x = some c ∧ H c = some (FrzO oc) ∧ oc.data = .cell (some u) ∧ RelV v u
theorem ext_freeAt {H H' : Hp} {cl : List (Str × Addr)} {x : Str} {v : V} (e : ExtN H H') (h : FreeAt H cl x v) : FreeAt H' cl x v := by
  obtain ⟨c, oc, u, h1, h2, h3⟩ := h
  exact ⟨c, oc, u, h1, e _ _ h2 (fun _ z => nomatch z), h3⟩
abbrev lamEnvV (q : Str) (scope : Scope) (L f c' : Addr) (cl : List (Str × Addr)) : Env := PySem.W.envX (q) scope L f (.ref c') cl
def lamCxV (P : Program) (w : World) (K : PySem.W.Frag) (mg : Str → Option Value) (base : Heap) (N : List Str) (q : Str) (scope : Scope) (f c' : Addr) (cl : List (Str × Addr)) (A : Around) (outer : List Env) (s : Shared) (H : Hp) (E : XK) : Cx where
  prog := P
  w := w
  K := K
  mg := mg
  base := base
  A := A.deeper (lamEnvV q scope s.heap.objs.size f c' cl)
  N := N
  s_0 := s
  H_0 := H
  env := lamEnvV q scope s.heap.objs.size f c' cl
  outer := outer
  stack := lamEnvV q scope s.heap.objs.size f c' cl :: outer
  ex := []
  fn := fun _ => false
  calm := true
  pn := []
  xe := fun e s' => wpAny (model P w) (A.deeper (lamEnvV q scope s.heap.objs.size f c' cl)) (leaving (lamEnvV q scope s.heap.objs.size f c' cl) e) (fun _ s'' => L2.CX P w outer H s E e s'') (fun e' s'' => L2.CX P w outer H s E e' s'') s'
section
variable {P : Program} {w : World} {K : PySem.W.Frag} {mg : Str → Option Value} {base : Heap}
theorem lam_startV {N : List Str} {q : Str} {scope : Scope} {f c' : Addr} {cl : List (Str × Addr)} {A : Around} {outer : List Env} {s : Shared} {H : Hp} {E : XK} {σ : L2.St} {h₁ : Heap} {tk : Nat} {m : Str → Option Value} (S : LamSc scope) (clo : CloOk scope cl)
    (e0 : Env0 P w K mg base A outer s H) (hd : A.handled = none) (hl : σ.length = N.length)
    (hN : ∀ (i : Nat) (x : Str) (v : V), N[i]? = some x → σ[i]? = some (some v) → ∃ (c : Addr) (oc : Obj) (u : Value), scope.names.lookup x = some .free ∧ cl.lookup x = some c ∧ s.heap.get? c = some oc ∧ oc.data = .cell (some u) ∧ RelV v u)
    (hc : ∀ x c, cl.lookup x = some c → H c = none ∧ ∃ oc v, s.heap.get? c = some oc ∧ oc.data = .cell v) (hns : h₁.Ns s.heap.objs.size m) (kp : ∀ b o, s.heap.get? b = some o → h₁.get? b = some o) :
    Inv (lamCxV P w K mg base N q scope f c' cl A outer s H E) [] σ H { s with heap := h₁, toks := tk } := by
  have noA : ∀ b : Addr, b ∉ (lamCxV P w K mg base N q scope f c' cl A outer s H E).ex := fun b z => absurd (show b ∈ ([] : List Addr) from z) (by simp)
  refine ⟨⟨e0.mod, S.kind, rfl, rfl, Nat.le_refl _, clo.inj, fun y hy => ?_, fun y c z _ => ?_, fun _ => hd, Around.frames_deeper e0.frames, .inr ⟨rfl, rfl⟩, fun b z => absurd z (noA b), e0.bs, e0.bsz, fun b _ _ => noA b,
      fun b z => absurd z (noA b), e0.funs, e0.frf⟩,
    rfl, e0.bare, Un.kept kp, ⟨_, hns, fun i y v e1 e2 e3 => ?_⟩, fun y c e => ?_, e0.hok.fresh (Nat.le_refl _), fun y c e => (hc y c e).1, fun q hq => absurd (show q ∈ ([] : List (Addr × Obj)) ++ [] from hq) (by simp), e0.hok.kept kp, hl⟩
  · have hy : scope.names.lookup y = some .cell ∨ scope.names.lookup y = some .free := hy
    rcases hy with hy | hy
    · exact absurd rfl (S.nocell _ (PySem.mem_of_lookup hy))
    · exact clo.has y (PySem.mem_of_lookup hy)
  · have z : false = true := z
    cases z
  · obtain ⟨c, oc, u, h1, h2, h3, h4, h5⟩ := hN i y v e1 e2
    exact ⟨u, h5, .inr ⟨.inr h1, c, h2, oc, kp _ _ h3, h4⟩⟩
  · obtain ⟨_, oc, v, h1, h2⟩ := hc y c e
    exact ⟨v, oc, kp _ _ h1, h2⟩
/-- the cells of the captured names -/
def cellsOf (N : List Str) (cl : List (Str × Addr)) : List Addr := N.filterMap fun x => cl.lookup x
/-- how it is bound: nothing is handed in -/
def LamB (q : Str) (params : Arguments) (body : Expr) (scope : Scope) : Prop := ∀ (H : Hp) (s : Shared) (cl : List (Str × Addr)) (c' : Addr) (dV doc pm ctv : Value), HOk P w H s.heap → DflO H params dV →
  ∃ binds : List (Str × Value), (∀ y ∈ binds, scope.names.lookup y.1 = some .local) ∧ BindsTo s (PySem.W.kdv_fn "<lambda>" q params (.expr body) scope cl dV doc pm (.ref c') ctv) ⟨[], []⟩ binds
theorem lam_run {N : List Str} {q : Str} {params : Arguments} {body : Expr} {scope : Scope} {f : Addr} {cl : List (Str × Addr)} {A : Around} {outer : List Env} {s : Shared} {H : Hp} {Q : VK} {E : XK} {σ : L2.St} {tb : TE} {k : Nat} (hr : Room (k + 1) A) (e0 : Env0 P w K mg base A outer s H)
    (La : LamAt H f q params body scope cl) (S : LamSc scope) (hb : LamB (P := P) (w := w) q params body scope) (hN : ∀ x ∈ N, scope.names.lookup x = some .free) (all : ∀ x, (x, NameKind.free) ∈ scope.names → x ∈ N) (hl : σ.length = N.length)
    (vals : ∀ (i : Nat) (x : Str), N[i]? = some x → ∃ v, σ[i]? = some (some v) ∧ FreeAt H cl x v)
    (hbody : ∀ c', Room k (A.deeper (lamEnvV q scope s.heap.objs.size f c' cl)) → PE (lamCxV P w K mg base N q scope f c' cl A outer s (hidA (cellsOf N cl) H) (fun cls d H' => (∀ c ∈ cellsOf N cl, H' c = none) → E cls d (bakA (cellsOf N cl) H H'))) body tb)
    (ht : tb σ (hidA (cellsOf N cl) H) fun v H' => (∀ c ∈ cellsOf N cl, H' c = none) → Q v (bakA (cellsOf N cl) H H')) : codeAny (model P w) A (.call (.ref f) ⟨[], []⟩) (CR (L2.CX P w) outer P w H s Q E) s := by
  obtain ⟨c', dV, doc, pm, ctv, h1, h2, h3, clo⟩ := La
  have inN : ∀ {x : Str}, x ∈ N → ∃ (i : Nat) (v : V), N[i]? = some x ∧ σ[i]? = some (some v) ∧ FreeAt H cl x v := fun {x} hx => by
    obtain ⟨i, hi⟩ := List.getElem?_of_mem hx
    obtain ⟨v, h⟩ := vals i x hi
    exact ⟨i, v, hi, h⟩
  have fz : FrzA (cellsOf N cl) H := fun c hc => by
    obtain ⟨x, hx, e⟩ := List.mem_filterMap.mp hc
    obtain ⟨i, v, _, _, c2, oc, u, a1, a2, _⟩ := inN hx
    rw [e] at a1
    cases a1
    exact ⟨oc, a2⟩
  have nf : ∀ c ∈ cellsOf N cl, c ∉ frs outer := fun c hc hf => by
    obtain ⟨o, ho⟩ := fz c hc
    rw [e0.frf c hf] at ho
    cases ho
  have e1 : Env0 P w K mg base A outer s (hidA (cellsOf N cl) H) := ⟨e0.frames, e0.mod, fun b o e => ⟨(e0.bs b o e).1, hidA_none (e0.bs b o e).2⟩, e0.bsz, e0.funs, fun b hb => hidA_none (e0.frf b hb), hok_hid fz e0.hok, e0.bare⟩
  refine codeAny_mono ?_ fun r s' hq => cr_bak fz e0.hok nf hq
  have of1 := frzO_at e0.hok h1
  obtain ⟨binds, hloc, hbd⟩ := hb H s cl c' dV doc pm ctv e0.hok h3
  have lim : s.heap.NoLimit := e0.mod.nolimit.keeps fun b o e => (e0.bs b o e).1
  refine PySem.W.kla_callFunE hr.depth of1 rfl S.co S.gen rfl (NdefX.codeO_at e0.hok h2) (hbd _ _ _ _ ?_)
  refine wpAny_newFunctionEnv S.nocell hloc (fun h₁ hns hsb => ⟨lim.fresh _ hsb, ?_⟩) S.kind
  show codeAny _ _ (.expr body (lamEnvV q scope s.heap.objs.size f c' cl)) _ _
  have kp : ∀ b o, s.heap.get? b = some o → h₁.get? b = some o := fun b o e => hsb.extBut b o (Nat.ne_of_lt (Heap.lt_size e)) (Heap.get?_push_of_some _ e)
  have J : Inv (lamCxV P w K mg base N q scope f c' cl A outer s (hidA (cellsOf N cl) H) (fun cls d H' => (∀ c ∈ cellsOf N cl, H' c = none) → E cls d (bakA (cellsOf N cl) H H'))) [] σ (hidA (cellsOf N cl) H) { s with heap := h₁, toks := s.toks + binds.length } := by
    refine lam_startV S clo e1 hr.hd hl (fun i x v hi hv => ?_) (fun x c e => ?_) hns kp
    · obtain ⟨v2, hv2, c, oc, u, a1, a2, a3, a4⟩ := vals i x hi
      rw [hv] at hv2
      cases hv2
      exact ⟨c, oc, u, hN x (List.mem_of_getElem? hi), a1, frzO_at e0.hok a2, a3, a4⟩
    · have hx := all x (clo.keys x c e)
      obtain ⟨i, v, _, _, c2, oc, u, a1, a2, a3, _⟩ := inN hx
      rw [e] at a1
      cases a1
      exact ⟨hidA_in (List.mem_filterMap.mpr ⟨x, hx, e⟩), oc, some u, frzO_at e0.hok a2, a3⟩
  refine PySem.W.kla_codeExpr (wpAny_mono ((hbody c' (hr.deeper _)).run [] _ _ _ _ J ht) (fun v s' hq => ?_) fun e s' hq => hq)
  obtain ⟨w', H', J', rv, qq⟩ := hq
  exact ⟨w', H', J'.os, J'.bare, J'.base, J'.hok, rv, qq⟩
end
/-! ### cells lent -/
def IsC (cells : List (Str × Addr)) (b : Addr) : Prop := ∃ x, cells.lookup x = some b
/-- H2: H and the cells, known for ever, each with the value that its name has -/
structure Lent (N : List Str) (cells : List (Str × Addr)) (σ : L2.St) (H H2 : Hp) : Prop where
  rest : ∀ b, ¬ IsC cells b → H2 b = H b
  none : ∀ b, IsC cells b → H b = Option.none
  cell : ∀ x c, cells.lookup x = some c → ∃ oc, H2 c = some (FrzO oc) ∧ ∀ (i : Nat) v, N[i]? = some x → σ[i]? = some (some v) → ∃ u, oc.data = .cell (some u) ∧ RelV v u
theorem Lent.same {N : List Str} {cells : List (Str × Addr)} {σ : L2.St} {H H2 : Hp} (l : Lent N cells σ H H2) : Same H H2 := fun b o e => by
  rw [l.rest b fun z => by rw [l.none b z] at e; cases e]
  exact e
theorem Lent.free {N : List Str} {cells cl : List (Str × Addr)} {σ : L2.St} {H H2 : Hp} (l : Lent N cells σ H H2) {x : Str} {i : Nat} {v : V} (hx : ∃ c, cl.lookup x = some c ∧ cells.lookup x = some c) (hi : N[i]? = some x) (hv : σ[i]? = some (some v)) : FreeAt H2 cl x v := by
  obtain ⟨c, h1, h2⟩ := hx
  obtain ⟨oc, h3, h4⟩ := l.cell x c h2
  obtain ⟨u, h5, h6⟩ := h4 i v hi hv
  exact ⟨c, oc, u, h1, h3, h5, h6⟩
noncomputable def addC (cells : List (Str × Addr)) (h : Heap) (H : Hp) : Hp := fun b => @ite _ (IsC cells b) (Classical.propDecidable _) ((h.get? b).map FrzO) (H b)
theorem addC_yes {cells : List (Str × Addr)} {h : Heap} {H : Hp} {b : Addr} {o : Obj} (z : IsC cells b) (e : h.get? b = some o) : addC cells h H b = some (FrzO o) := by
  unfold addC
  rw [if_pos z, e]
  rfl
theorem addC_no {cells : List (Str × Addr)} {h : Heap} {H : Hp} {b : Addr} (z : ¬ IsC cells b) : addC cells h H b = H b := if_neg z
section
variable {X : Cx} {pins : List (Addr × Obj)} {σ : L2.St} {H : Hp} {s : Shared}
theorem lent_of (I : Inv X pins σ H s) (hk : ∀ x c, X.env.cells.lookup x = some c → X.env.kindOf x ≠ some .local) (hv : ∀ x c, X.env.cells.lookup x = some c → Vis X.env.scope x) : Lent X.N X.env.cells σ H (addC X.env.cells s.heap H) ∧ HOk X.prog X.w (addC X.env.cells s.heap H) s.heap := by
  refine ⟨⟨fun b z => addC_no z, fun b ⟨x, z⟩ => I.freeC x b z, fun x c e => ?_⟩, fun b u e => ?_⟩
  · obtain ⟨v0, oc, ho, hd⟩ := I.cell x c e
    refine ⟨oc, addC_yes ⟨x, e⟩ ho, fun i v hi hs => ?_⟩
    obtain ⟨m, hn, hl⟩ := I.loc
    obtain ⟨u, r, q⟩ := hl i x v hi hs (hv x c e)
    refine ⟨u, ?_, r⟩
    rcases q with ⟨q, _⟩ | ⟨_, c2, e2, o2, ho2, hd2⟩
    · exact absurd q (hk x c e)
    · rw [e] at e2
      cases e2
      rw [ho] at ho2
      cases ho2
      exact hd2
  · by_cases hb : IsC X.env.cells b
    · obtain ⟨x, hx⟩ := hb
      obtain ⟨v0, oc, ho, hd⟩ := I.cell x b hx
      rw [addC_yes ⟨x, hx⟩ ho] at e
      cases e
      exact frzO_ok ho
    · rw [addC_no hb] at e
      have st : ∀ c v, H c = some v → addC X.env.cells s.heap H c = some v := fun c v q => by
        rw [addC_no fun ⟨x, z⟩ => by rw [I.freeC x c z] at q; cases q]
        exact q
      exact (I.hok b u e).stay (fun _ _ _ q => q) (fun c q => st c _ q) fun c xs q => st c _ q
end
theorem cells_mem {y : Str} {c : Addr} : ∀ (names : List (Str × NameKind)) (n : Nat) (acc : List (Str × Addr)), (y, c) ∈ cellsFrom n names acc → (y, c) ∈ acc ∨ (y, NameKind.cell) ∈ names
  | [], _, _, h => .inl h
  | (z, k) :: r, n, acc, h => by
    unfold cellsFrom at h
    split at h
    · rename_i hk
      rcases cells_mem r _ _ h with q | q
      · rcases List.mem_cons.mp q with q | q
        · cases q
          exact .inr (by rw [show k = NameKind.cell from eq_of_beq hk]; exact List.mem_cons_self)
        · exact .inl q
      · exact .inr (List.mem_cons_of_mem _ q)
    · rcases cells_mem r _ _ h with q | q
      · exact .inl q
      · exact .inr (List.mem_cons_of_mem _ q)
/-- a name that is a cell is so wherever it stands -/
def CellU (sc : Scope) : Prop := ∀ y ∈ sc.names, y.2 = .cell → sc.names.lookup y.1 = some .cell
theorem cells_kind {sc : Scope} {n : Nat} {x : Str} {c : Addr} (u : CellU sc) (e : (cellsFrom n sc.names []).lookup x = some c) : sc.names.lookup x = some .cell := by
  rcases cells_mem _ _ _ (PySem.mem_of_lookup e) with q | q
  · cases q
  · exact u _ q rfl
/-- what a lent heap bears of an unlent one -/
theorem un_lent {X : Cx} {pins : List (Addr × Obj)} {σ : L2.St} {H H2 : Hp} {s : Shared} {N : List Str} (J : Inv X pins σ H s) (hfn : ∀ x, X.fn x = true) (hex : X.ex = []) (L : Lent N X.env.cells σ H H2) : Un X.fs [] X.H_0 H2 X.s_0.heap s.heap := by
  have u := J.base
  rw [hex] at u
  refine ⟨u.keep, u.slot, fun b o e n hx => ?_, u.there, fun b xs e => L.same _ _ (u.tups b xs e), fun b o v e => L.same _ _ (u.frzs b o v e), fun b ps e => ?_⟩
  · rw [L.rest b fun ⟨y, z⟩ => absurd (Nat.lt_of_lt_of_le (Heap.lt_size e) (J.ok.cab y b (hfn y) z)) (Nat.lt_irrefl _)]
    exact u.free b o e n hx
  · obtain ⟨more, e'⟩ := u.tbls b ps e
    exact ⟨more, L.same _ _ e'⟩
/-! ### a def that ends by a return, its slots told -/
structure PRs (X : Cx) (b : List Stmt) (t : (L2.St → V → Hp → Prop) → L2.St → Hp → Prop) : Prop where
  run : ∀ (pins : List (Addr × Obj)) (s : Shared) (σ : L2.St) (H : Hp) (R : L2.St → V → Hp → Prop), Inv X pins σ H s → t R σ H → wpAny (model X.prog X.w) X.A (execs b X.env) (fun fl s' => ∃ u v σ' H', fl = .ret u ∧ Inv X pins σ' H' s' ∧ RelV v u ∧ R σ' v H') X.xe s
def rCons (t : TS) (u : (L2.St → V → Hp → Prop) → L2.St → Hp → Prop) : (L2.St → V → Hp → Prop) → L2.St → Hp → Prop := fun R σ H => t ⟨fun σ' H' => u R σ' H', fun _ _ => False, fun _ _ => False, fun _ _ => False⟩ σ H
def rRet (t : TE) : (L2.St → V → Hp → Prop) → L2.St → Hp → Prop := fun R σ H => t σ H (R σ)
theorem prs_cons {X : Cx} {st : Stmt} {rest : List Stmt} {t : TS} {u : (L2.St → V → Hp → Prop) → L2.St → Hp → Prop} (h1 : PS X st t) (h2 : PRs X rest u) : PRs X (st :: rest) (rCons t u) := by
  refine ⟨fun pins s σ H R I h => ?_⟩
  refine wpAny_execs_cons (thn (h1.run pins s σ H _ I h) fun f s1 q => ?_)
  cases f with
  | next =>
    obtain ⟨σ', H', I', q⟩ := q
    exact h2.run pins s1 σ' H' R I' q
  | ret v =>
    obtain ⟨_, _, _, _, _, q⟩ := q
    exact q.elim
  | brk =>
    obtain ⟨_, _, _, q⟩ := q
    exact q.elim
  | cont =>
    obtain ⟨_, _, _, q⟩ := q
    exact q.elim
theorem prs_ret {X : Cx} {e : Expr} {pos : Pos} {t : TE} (he : PE X e t) : PRs X [.Return (some e) pos] (rRet t) := by
  refine ⟨fun pins s σ H R I h => ?_⟩
  exact wpAny_execs_cons (wpAny_Return_some (thn (he.run pins s σ H _ I h) fun v s1 ⟨x, H1, I1, r1, q1⟩ => ⟨v, x, σ, H1, rfl, I1, r1, q1⟩))
section
variable {P : Program} {w : World} {K : PySem.W.Frag} {mg : Str → Option Value} {base : Heap}
/-- THE RULE for a def whose cells outlive it -/
theorem DfT_okC {x : Str} {st : Stmt} {N ps : List Str} {k : Nat} {sp : Sp} {PT : Addr} (F : DfT K mg base x st ps PT) (S : FnScope N ps (defScope st)) (hS : CellU (defScope st)) (len : ∀ vs H Q E, sp vs H Q E → vs.length = ps.length)
    (hbody : ∀ (f c : Addr) (A : Around) (outer : List Env) (s : Shared) (H : Hp) (vs : List V) (Q : VK) (E : XK), TabB base mg c PT → Room k (A.deeper (envOfC x (defScope st) s.heap.objs.size f (.ref c))) → sp vs H Q E →
      ∃ t, PRs (cxOf CX0 P w K mg base N x (defScope st) f (.ref c) A outer s H E).nox (defBody st) t ∧ t (fun σ v H' => ∀ H2, Lent N (envOfC x (defScope st) s.heap.objs.size f (.ref c)).cells σ H' H2 → Q v H2) (start N vs) H) : OkAt P w K mg base x (k + 1) ps sp := by
  obtain ⟨f, c, oc, od, kV, doc, pm, an, ct, osl, lk, hcd, kp, m, b, TB⟩ := F.ex
  refine ⟨f, _, ⟨len, fun A outer s H args us vs Q E hr e0 hb r hsp => ?_⟩, b, m, kp⟩
  have hl := len _ _ _ _ hsp
  have KX : K.In s.heap := e0.mod.kin.keeps fun b o e => (e0.bs b o e).1
  have lim : s.heap.NoLimit := e0.mod.nolimit.keeps fun b o e => (e0.bs b o e).1
  have hkind : ∀ y ∈ ps.zip us, (defScope st).names.lookup y.1 = some .local ∨ ((defScope st).names.lookup y.1 = some .cell ∧ ((cellsFrom (s.heap.objs.size + 1) (defScope st).names []).lookup y.1).isSome = true) := fun ⟨n, v⟩ hy => by
    rcases S.par n (List.of_mem_zip hy).1 with q | q
    · exact .inl q
    · exact .inr ⟨q, PySem.W.cellsFrom_some _ _ _ (.inl q)⟩
  refine codeAny_call_function hr.depth (KX _ _ lk) rfl S.co S.gen rfl (PySem.W.codeRec_of KX hcd) (hb _ _ _ _ ?_)
  refine wpAny_newFunctionEnv_cells S.kind hkind fun env he s1 xc => ?_
  subst he
  refine ⟨lim.keeps xc.toInCall.keep, codeAny_func ?_⟩
  obtain ⟨t, ht, hq⟩ := hbody f c A outer s H vs Q E TB (hr.deeper _) hsp
  have I : Inv (cxOf CX0 P w K mg base N x (defScope st) f (.ref c) A outer s H E) [] (start N vs) H s1 := inv_start S hr.hd e0 hl r xc
  refine wpAny_mono (ht.run [] s1 (start N vs) H _ (I.wish _) hq) (fun fl s' hs => ?_) fun e s' hs => (show False from hs).elim
  obtain ⟨u, v, σ', H', rfl, J, rv, q⟩ := hs
  have kd : ∀ y c', (cxOf CX0 P w K mg base N x (defScope st) f (.ref c) A outer s H E).nox.env.cells.lookup y = some c' → (defScope st).names.lookup y = some .cell := fun y c' e => cells_kind hS e
  obtain ⟨L, ok2⟩ := lent_of J (fun y c' e z => by
    have z : (defScope st).names.lookup y = some .local := z
    rw [kd y c' e] at z
    cases z) (fun y c' e => .inr (.inl (kd y c' e)))
  exact ⟨v, _, J.os, J.bare, un_lent J (fun _ => rfl) rfl L, ok2, rv, q _ L⟩
end
/-! ### a call that lends the caller's own cells -/
noncomputable def takC (cells : List (Str × Addr)) (H : Hp) : Hp := fun b => @ite _ (IsC cells b) (Classical.propDecidable _) none (H b)
theorem takC_yes {cells : List (Str × Addr)} {H : Hp} {b : Addr} (z : IsC cells b) : takC cells H b = none := if_pos z
theorem takC_no {cells : List (Str × Addr)} {H : Hp} {b : Addr} (z : ¬ IsC cells b) : takC cells H b = H b := if_neg z
section
variable {P : Program} {w : World} {fs : List Addr} {N : List Str} {cells : List (Str × Addr)} {σ : L2.St} {H H2 H3 : Hp} {h h' : Heap} (L : Lent N cells σ H H2) (ok : HOk P w H2 h) (u : Un fs [] H2 H3 h h') (ok' : HOk P w H3 h')
include L ok u ok'
theorem tak_frz {b : Addr} (z : IsC cells b) : ∃ o, H3 b = some (FrzO o) ∧ h.get? b = some o ∧ h'.get? b = some o := by
  obtain ⟨x, hx⟩ := z
  obtain ⟨oc, h1, _⟩ := L.cell x b hx
  have h3 := u.frzs b oc _ h1
  exact ⟨oc, h3, frzO_at ok h1, frzO_at ok' h3⟩
theorem un_tak : Un fs [] H (takC cells H3) h h' := by
  have nc : ∀ {b v}, H b = some v → ¬ IsC cells b := fun {b v} e z => by
    rw [L.none b z] at e
    cases e
  have kp : ∀ b o, h.get? b = some o → IsC cells b → h'.get? b = some o := fun b o e z => by
    obtain ⟨o2, _, e1, e2⟩ := tak_frz L ok u ok' z
    rw [e] at e1
    cases e1
    exact e2
  refine ⟨fun b o e n hb hx => ?_, fun b o e n hb hx => ?_, fun b o e n hx => ?_, u.there, fun b xs e => ?_, fun b o v e => ?_, fun b ps e => ?_⟩
  · by_cases z : IsC cells b
    · exact kp b o e z
    · exact u.keep b o e (by rw [L.rest b z]; exact n) hb hx
  · by_cases z : IsC cells b
    · exact ⟨o.slots, kp b o e z⟩
    · exact u.slot b o e (by rw [L.rest b z]; exact n) hb hx
  · by_cases z : IsC cells b
    · exact takC_yes z
    · rw [takC_no z]
      exact u.free b o e (by rw [L.rest b z]; exact n) hx
  · rw [takC_no (nc e)]
    exact u.tups b xs (L.same _ _ e)
  · rw [takC_no (nc e)]
    exact u.frzs b o v (L.same _ _ e)
  · rw [takC_no (nc e)]
    exact u.tbls b ps (L.same _ _ e)
theorem hok_tak : HOk P w (takC cells H3) h' := fun b v e => by
  have hb : ¬ IsC cells b := fun z => by rw [takC_yes z] at e; cases e
  rw [takC_no hb] at e
  have st : ∀ c v, H3 c = some v → (∀ o, v ≠ FrzO o) → takC cells H3 c = some v := fun c v q n => by
    rw [takC_no fun z => by
      obtain ⟨o, h3, _⟩ := tak_frz L ok u ok' z
      rw [q] at h3
      exact n o (Option.some.inj h3)]
    exact q
  exact (ok' b v e).stay (fun _ _ _ q => q) (fun c q => st c _ q fun _ z => nomatch z) fun c xs q => st c _ q fun _ z => nomatch z
end
def tClL (N : List Str) (cells : List (Str × Addr)) (sp : Sp) (t : TA) : TE := fun σ H Q => t σ H fun vs H1 => ∀ H2, Lent N cells σ H1 H2 → sp vs H2 (fun v H3 => Q v (takC cells H3)) E0
theorem pe_clL {X : Cx} {x : Str} {ps : List Str} {k : Nat} {sp : Sp} {e : Expr} {es : List Expr} {t : TA} {p pos : Pos} (o : OkAt X.prog X.w X.K X.mg X.base x k ps sp) (hr : Room k X.A) (hg : Gl X x) (hfn : ∀ y, X.fn y = true) (hex : X.ex = [])
    (kd : ∀ y c', X.env.cells.lookup y = some c' → X.env.scope.names.lookup y = some .cell) (ha : PA X (e :: es) t)
    (hdb : (x == ("__debug__" : Str)) = false := by decide) (he : starEach (e :: es) X.env = (false, eval e X.env) :: starEach es X.env := by rfl) (hpl : (backTo pos (starEach es X.env)).any (·.1) = false := by rfl) :
    PE X (.Call (.Name x p) (e :: es) [] pos) (tClL X.N X.env.cells sp t) := by
  obtain ⟨f, fd, F, b, m, kp⟩ := o.ex
  refine ⟨fun pins s σ H Q I h => ?_⟩
  refine wpAny_Call_Name_kw (ld_glob I hg m ?_ hdb)
  refine PySem.W.callWith_K (h₀ := X.base) I.ok.mod.kin kp (thn (ha.run pos pins s σ H _ I h) fun us s1 ⟨vs, H1, I1, r, q⟩ => ⟨I1.kIn, ?_⟩) he hpl
  obtain ⟨L, ok2⟩ := lent_of I1 (fun y c' e z => by
    have z : X.env.scope.names.lookup y = some .local := z
    rw [kd y c' e] at z
    cases z) (fun y c' e => .inr (.inl (kd y c' e)))
  have q := q _ L
  have hl : us.length = ps.length := by rw [← r.length]; exact F.len _ _ _ _ q
  have b' := b s1 us I1.kIn (by rw [List.append_nil]; exact hl)
  rw [List.append_nil] at b'
  have old : ∀ b o, X.s_0.heap.get? b = some o → ¬ IsC X.env.cells b := fun b o e ⟨y, z⟩ => absurd (Nat.lt_of_lt_of_le (Heap.lt_size e) (I1.ok.cab y b (hfn y) z)) (Nat.lt_irrefl _)
  have e0 := I1.env0
  have e1 : Env0 X.prog X.w X.K X.mg X.base X.A X.stack s1 (addC X.env.cells s1.heap H1) := ⟨e0.frames, e0.mod, fun b o e => ⟨(e0.bs b o e).1, by rw [L.rest b (old b o (I1.ok.bs b o e).1)]; exact (e0.bs b o e).2⟩, e0.bsz, e0.funs, fun b hb => by
    rw [L.rest b fun ⟨y, z⟩ => ?_]
    · exact e0.frf b hb
    · rcases List.mem_cons.mp (I1.stkSub b hb) with q | q
      · exact I1.cne y b z q
      · obtain ⟨_, ob, ho, _⟩ := I1.ok.funs.mem q
        exact old b ob ho ⟨y, z⟩, ok2, e0.bare⟩
  refine wpAny_call (codeAny_mono (F.run X.A X.stack s1 _ ⟨us, []⟩ us vs _ E0 hr e1 b' r q) fun r s' hq => ?_)
  cases r with
  | error e => exact (show False from hq).elim
  | ok fl =>
    cases fl with
    | ret u =>
      obtain ⟨v, H3, os, bare, un, hok, rv, qq⟩ := hq
      exact ⟨v, _, I1.call' (ch := []) os (un_tak L ok2 un hok) (hok_tak L ok2 un hok) bare (fun b z => absurd z (by simp)), rv, qq⟩
    | next => exact False.elim hq
    | brk => exact False.elim hq
    | cont => exact False.elim hq
/-! ### x(), x a lambda -/
def LamRun (P : Program) (w : World) (K : PySem.W.Frag) (mg : Str → Option Value) (base : Heap) (k : Nat) (f : Addr) (sp : Hp → VK → XK → Prop) : Prop :=
  (∀ H Q E, sp H Q E → ∃ q params body scope cl, LamAt H f q params body scope cl) ∧
  ∀ (A : Around) (outer : List Env) (s : Shared) (H : Hp) (Q : VK) (E : XK), Room k A → Env0 P w K mg base A outer s H → sp H Q E → codeAny (model P w) A (.call (.ref f) ⟨[], []⟩) (CR (L2.CX P w) outer P w H s Q E) s
def tActV (P : Program) (w : World) (K : PySem.W.Frag) (mg : Str → Option Value) (base : Heap) (k i : Nat) (W : WX) : TE := fun σ H Q => ∃ (f : Addr) (sp : Hp → VK → XK → Prop), σ[i]? = some (some (.ref f)) ∧ LamRun P w K mg base k f sp ∧ sp H Q fun cls d H' => W cls d σ H'
theorem pe_actV {X : Cx} {W : WX} {k i : Nat} {a : Str} {p1 p2 : Pos} (tk : Takes X W) (hr : Room k X.A) (hN : X.N[i]? = some a) (hv : Vis X.env.scope a) (hd : (a == ("__debug__" : Str)) = false := by decide) (hcd : (a == ("__classdict__" : Str)) = false := by decide) :
    PE X (.Call (.Name a p1) [] [] p2) (tActV X.prog X.w X.K X.mg X.base k i W) := by
  refine ⟨fun pins s σ H Q I h => ?_⟩
  obtain ⟨f, sp, hs, LR, h⟩ := h
  refine wpAny_Call_Name_kw (thn ((pe_var (pos := p1) (i := i) hN hv hd hcd).run pins s σ H (fun v H1 => v = .ref f ∧ H1 = H) I ⟨.ref f, hs, rfl, rfl⟩) fun u s1 ⟨v, H1, I1, r1, q1⟩ => ?_)
  obtain ⟨ev, eH⟩ := q1
  subst ev
  rw [eH] at I1
  obtain rfl : u = Value.ref f := r1
  obtain ⟨q, params, body, scope, cl, c', dV, doc, pm, ctv, o1, _⟩ := LR.1 _ _ _ h
  have of1 := frzO_at I1.hok o1
  refine PySem.W.callWith_F0 ⟨_, _, _, _, of1⟩ ?_
  refine wpAny_call (codeAny_mono (LR.2 X.A X.stack s1 H Q _ hr I1.env0 h) fun r s' hq => ?_)
  cases r with
  | error e => exact passAt tk σ pins H s1 e s' I1 hq
  | ok fl =>
    cases fl with
    | ret u => exact I1.after hq
    | next => exact False.elim hq
    | brk => exact False.elim hq
    | cont => exact False.elim hq
/-- of a lambda, by its body -/
theorem lamRun_of {P : Program} {w : World} {K : PySem.W.Frag} {mg : Str → Option Value} {base : Heap} {k : Nat} {N : List Str} {q : Str} {params : Arguments} {body : Expr} {scope : Scope} {tb : XK → TE} (S : LamSc scope) (hb : LamB (P := P) (w := w) q params body scope)
    (hN : ∀ x ∈ N, scope.names.lookup x = some .free) (all : ∀ x, (x, NameKind.free) ∈ scope.names → x ∈ N)
    (hbody : ∀ (cl : List (Str × Addr)) (f c' : Addr) (A : Around) (outer : List Env) (s : Shared) (H : Hp) (E : XK), Room k (A.deeper (lamEnvV q scope s.heap.objs.size f c' cl)) → PE (lamCxV P w K mg base N q scope f c' cl A outer s H E) body (tb E)) (f : Addr) :
    LamRun P w K mg base (k + 1) f fun H Q E => ∃ (cl : List (Str × Addr)) (σ : L2.St), LamAt H f q params body scope cl ∧ σ.length = N.length ∧ (∀ (i : Nat) (x : Str), N[i]? = some x → ∃ v, σ[i]? = some (some v) ∧ FreeAt H cl x v) ∧
      tb (fun cls d H' => (∀ c ∈ cellsOf N cl, H' c = none) → E cls d (bakA (cellsOf N cl) H H')) σ (hidA (cellsOf N cl) H) fun v H' => (∀ c ∈ cellsOf N cl, H' c = none) → Q v (bakA (cellsOf N cl) H H') := by
  refine ⟨fun H Q E ⟨cl, σ, h, _⟩ => ⟨q, params, body, scope, cl, h⟩, fun A outer s H Q E hr e0 ⟨cl, σ, La, hl, vals, ht⟩ => ?_⟩
  exact lam_run hr e0 La S hb hN all hl vals (fun c' hr2 => hbody cl f c' A outer s _ _ hr2) ht
/-! ### promises joined; what is never reached -/
theorem OkAt.toX {P : Program} {w : World} {K : PySem.W.Frag} {mg : Str → Option Value} {base : Heap} {x : Str} {k : Nat} {ps : List Str} {sp : Sp} (o : OkAt P w K mg base x k ps sp) : OkX P w K mg base x k ps (fun vs H Q _ => sp vs H Q E0) := by
  obtain ⟨f, fd, F, b, m, kp⟩ := o.ex
  refine ⟨f, fd, ⟨fun vs H Q E h => F.len _ _ _ _ h, fun A outer s H args us vs Q E hr e0 hb r h => codeAny_mono (F.run A outer s H args us vs Q E0 hr e0 hb r h) fun rr s' hq => ?_⟩, b, m, kp⟩
  cases rr with
  | error e => exact (show False from hq).elim
  | ok fl =>
    cases fl with
    | ret u => exact hq
    | next => exact hq
    | brk => exact hq
    | cont => exact hq
theorem OkX.imp {P : Program} {w : World} {K : PySem.W.Frag} {mg : Str → Option Value} {base : Heap} {x : Str} {k : Nat} {ps : List Str} {sp sp' : Sp} (o : OkX P w K mg base x k ps sp) (h : ∀ vs H Q E, sp' vs H Q E → sp vs H Q E) : OkX P w K mg base x k ps sp' := by
  obtain ⟨f, fd, F, b, m, kp⟩ := o.ex
  exact ⟨f, fd, F.imp h, b, m, kp⟩
theorem pss_never {X : Cx} {b : List Stmt} : PSs X b (fun _ _ _ => False) := ⟨fun _ _ _ _ _ _ h => h.elim⟩
/-- a call of a def of which two promises are known: the good one, the bad one -/
def tClX2 (sp sp' : Sp) (W : WX) (t : TA) : TE := fun σ H Q => t σ H fun vs H1 => sp vs H1 Q E0 ∨ sp' vs H1 Q fun cls d H' => W cls d σ H'
theorem pe_clX2 {X : Cx} {x : Str} {ps : List Str} {k : Nat} {sp sp' : Sp} {W : WX} {e : Expr} {es : List Expr} {t : TA} {p pos : Pos} (o : OkAt X.prog X.w X.K X.mg X.base x k ps sp) (o' : OkX X.prog X.w X.K X.mg X.base x k ps sp') (hr : Room k X.A) (tk : Takes X W) (hg : Gl X x) (ha : PA X (e :: es) t)
    (hdb : (x == ("__debug__" : Str)) = false := by decide) (he : starEach (e :: es) X.env = (false, eval e X.env) :: starEach es X.env := by rfl) (hpl : (backTo pos (starEach es X.env)).any (·.1) = false := by rfl) :
    PE X (.Call (.Name x p) (e :: es) [] pos) (tClX2 sp sp' W t) := by
  obtain ⟨f, fd, F, b, m, kp⟩ := o.toX.ex
  obtain ⟨f', fd', F', b', m', kp'⟩ := o'.ex
  rw [m] at m'
  cases m'
  refine ⟨fun pins s σ H Q I h => ?_⟩
  refine wpAny_Call_Name_kw (ld_glob I hg m ?_ hdb)
  refine PySem.W.callWith_K (h₀ := X.base) I.ok.mod.kin kp (thn (ha.run pos pins s σ H _ I h) fun us s1 ⟨vs, H1, I1, r, q⟩ => ⟨I1.kIn, ?_⟩) he hpl
  rcases q with q | q
  · exact run_fnS (E := fun σ => WE W σ) F hr b (passAt tk σ) I1 r q
  · exact run_fnS (E := fun σ => WE W σ) F' hr b' (passAt tk σ) I1 r q
theorem r_clX2 {sp sp' : Sp} {W : WX} {t : TA} {σ : L2.St} {H : Hp} {Q : VK} (q : t σ H fun vs H1 => sp vs H1 Q E0 ∨ sp' vs H1 Q fun cls d H' => W cls d σ H') : tClX2 sp sp' W t σ H Q := q
end Z

/-! lambdas in lists: what each does, told of the heap as it is when it runs -/
namespace Z
open PySem PySem.Spec PyProof.Rows L2 LamX
/-! ### operators -/
section
variable {X : Cx} {H : Hp} {Q : VK}
def uPow : R2 := rI CPow fun i j => .int (i ^ j.toNat)
theorem op_uPow : OpR X (binaryOp .Pow) uPow := op_pow
theorem r_pow58 (q : Q (.int (10 ^ 58)) H) : uPow (.int 10) (.int 58) H Q := ⟨10, 58, rfl, rfl, ⟨by decide, by decide, by decide⟩, q⟩
def uRepL : R2 := fun x y H Q => ∃ l k xs, x = .ref l ∧ y = .int k ∧ H l = some (.lst xs) ∧ -(2 ^ 63) ≤ k ∧ k < 2 ^ 63 ∧ xs.length * k.toNat ≤ sizeLine ∧ NewL H (List.replicate k.toNat xs).flatten Q
theorem op_uRepL : OpR X (binaryOp .Mult) uRepL := opr_imp op_rep fun x y H Q ⟨l, k, xs, h1, h2, h3, h4, h5, h6, q⟩ => ⟨l, k, xs, h1, h2, h3, h4, h5, h6, newL q⟩
def uRepS : R2 := fun x y H Q => ∃ (z : Str) (k : Int), x = .str z ∧ y = .int k ∧ z.length ≤ 1 ∧ 0 ≤ k ∧ k ≤ 1000 ∧ Q (.str (Txt.mul z k)) H
theorem op_uRepS : OpR X (binaryOp .Mult) uRepS := by
  intro pins s σ H x y v u Q I rx ry h
  obtain ⟨z, k, rfl, rfl, h1, h2, h3, q⟩ := h
  obtain ⟨t, rfl⟩ := rx
  obtain ⟨t', rfl⟩ := ry
  have h63 : (1000 : Int) < 2 ^ 63 := by decide
  refine SB.mul (x := z) (n := k) ⟨?_, fun a b => ?_, fun a b => ?_⟩ fun t'' tk => ⟨.str (Txt.mul z k), H, I.tok _, ⟨_, rfl⟩, q⟩
  · rw [decide_eq_false (by omega), decide_eq_false (by omega)]
    rfl
  · have : (1 : Int) ≤ (2 ^ 63 - 1) / k := (Int.le_ediv_iff_mul_le (by omega)).mpr (by omega)
    have : (z.length : Int) ≤ 1 := by omega
    omega
  · have : z.length * k.toNat ≤ 1 * 1000 := Nat.mul_le_mul h1 (by omega)
    exact decide_eq_false (by have := le_size (n := 1000) (by decide); omega)
end
/-! ### lists and tuples stay -/
def Seqs (H H' : Hp) : Prop := ∀ b xs, (H b = some (.lst xs) → H' b = some (.lst xs)) ∧ (H b = some (.tup xs) → H' b = some (.tup xs))
namespace Seqs
variable {H H1 H2 : Hp}
theorem refl (H : Hp) : Seqs H H := fun _ _ => ⟨id, id⟩
theorem trans (h : Seqs H H1) (k : Seqs H1 H2) : Seqs H H2 := fun b xs => ⟨fun e => (k b xs).1 ((h b xs).1 e), fun e => (k b xs).2 ((h b xs).2 e)⟩
theorem of_ext (e : ExtN H H1) : Seqs H H1 := fun b xs => ⟨fun q => ext_lst e q, fun q => ext_tup e q⟩
theorem of_same (e : Same H H1) : Seqs H H1 := fun b xs => ⟨fun q => e _ _ q, fun q => e _ _ q⟩
theorem of_hid {l : List Addr} (f : FrzA l H) : Seqs H (hidA l H) := fun b xs => ⟨fun q => by rw [hidA_no (frzL_ne f q fun _ z => nomatch z)]; exact q, fun q => by rw [hidA_no (frzL_ne f q fun _ z => nomatch z)]; exact q⟩
theorem lst {b : Addr} {xs : List V} (h : Seqs H H1) (e : H b = some (.lst xs)) : H1 b = some (.lst xs) := (h b xs).1 e
theorem tup {b : Addr} {xs : List V} (h : Seqs H H1) (e : H b = some (.tup xs)) : H1 b = some (.tup xs) := (h b xs).2 e
end Seqs
theorem same_bak {l : List Addr} {H H' : Hp} (s : Same (hidA l H) H') : Same H (bakA l H H') := fun b o e => by
  by_cases hb : b ∈ l
  · rw [bakA_in hb]; exact e
  · rw [bakA_no hb]; exact s b o (by rw [hidA_no hb]; exact e)
theorem same_tak {N : List Str} {cells : List (Str × Addr)} {σ : L2.St} {H H2 H3 : Hp} (L : Lent N cells σ H H2) (s : Same H2 H3) : Same H (takC cells H3) := fun b o e => by
  rw [takC_no fun z => by rw [L.none b z] at e; cases e]
  exact s _ _ (L.same _ _ e)
/-- what the tables are told of stays behind the cells' end -/
theorem tabs_tak {T : List (Addr × Str)} {N : List Str} {cells : List (Str × Addr)} {σ : L2.St} {H H2 H3 : Hp} (t : Tabs T H) (L : Lent N cells σ H H2) (s : Same H2 H3) : Tabs T (takC cells H3) := t.ext (same_tak L s)
/-! ### a lambda in a list -/
theorem LamRun.mono {P : Program} {w : World} {K : PySem.W.Frag} {mg : Str → Option Value} {base : Heap} {j k : Nat} {f : Addr} {sp : Hp → VK → XK → Prop} (h : LamRun P w K mg base j f sp) (le : j ≤ k) : LamRun P w K mg base k f sp :=
  ⟨h.1, fun A outer s H Q E hr => h.2 A outer s H Q E (hr.mono le)⟩
/-- what f does: at each later heap, whatever Wt asks of a run holds of its run -/
def Does (P : Program) (w : World) (K : PySem.W.Frag) (mg : Str → Option Value) (base : Heap) (j : Nat) (Wt : Hp → VK → XK → Prop) (H : Hp) (f : Addr) : Prop :=
  ∃ sp, LamRun P w K mg base j f sp ∧ ∀ H1, ExtN H H1 → ∀ Q E, Wt H1 Q E → sp H1 Q E
theorem Does.ext {P : Program} {w : World} {K : PySem.W.Frag} {mg : Str → Option Value} {base : Heap} {j : Nat} {Wt : Hp → VK → XK → Prop} {H H1 : Hp} {f : Addr} (d : Does P w K mg base j Wt H f) (e : ExtN H H1) : Does P w K mg base j Wt H1 f := by
  obtain ⟨sp, L, h⟩ := d
  exact ⟨sp, L, fun H2 e2 => h H2 (e.trans e2)⟩
/-- what is asked of a run stays so where cells are hidden -/
def Hides (Wt : Hp → VK → XK → Prop) : Prop := ∀ (l : List Addr) (H : Hp) (Q : VK) (E : XK), Wt H Q E → Wt (hidA l H) (fun v H' => (∀ c ∈ l, H' c = none) → Q v (bakA l H H')) (fun cls d H' => (∀ c ∈ l, H' c = none) → E cls d (bakA l H H'))
theorem cells_frz {N : List Str} {cl : List (Str × Addr)} {H : Hp} (h : ∀ x ∈ N, ∃ v, FreeAt H cl x v) : FrzA (cellsOf N cl) H := fun c hc => by
  obtain ⟨x, hx, e⟩ := List.mem_filterMap.mp hc
  obtain ⟨v, c2, oc, u, a1, a2, _⟩ := h x hx
  rw [e] at a1
  cases a1
  exact ⟨oc, a2⟩
/-- the captured names have these values for ever -/
def FvL (H : Hp) (cl : List (Str × Addr)) : List Str → List V → Prop
  | [], [] => True
  | x :: N, v :: ws => FreeAt H cl x v ∧ FvL H cl N ws
  | _, _ => False
theorem FvL.len {H : Hp} {cl : List (Str × Addr)} : ∀ {N : List Str} {ws : List V}, FvL H cl N ws → ws.length = N.length
  | [], [], _ => rfl
  | _ :: _, _ :: _, h => congrArg (· + 1) (FvL.len h.2)
theorem FvL.at {H : Hp} {cl : List (Str × Addr)} : ∀ {N : List Str} {ws : List V}, FvL H cl N ws → ∀ (i : Nat) (x : Str), N[i]? = some x → ∃ v, ws[i]? = some v ∧ FreeAt H cl x v
  | [], [], _, i, x, e => by simp at e
  | _ :: _, v :: _, h, 0, x, e => by
    simp at e
    subst e
    exact ⟨v, rfl, h.1⟩
  | _ :: N, _ :: ws, h, i + 1, x, e => by
    obtain ⟨v, h1, h2⟩ := FvL.at h.2 i x (by simpa using e)
    exact ⟨v, by simpa using h1, h2⟩
theorem does_lam {P : Program} {w : World} {K : PySem.W.Frag} {mg : Str → Option Value} {base : Heap} {j : Nat} {Wt : Hp → VK → XK → Prop} {H : Hp} {f : Addr} {q : Str} {params : Arguments} {body : Expr} {scope : Scope} {cl : List (Str × Addr)} (N : List Str) (ws : List V) {tb : XK → TE}
    (La : LamAt H f q params body scope cl) (fv : FvL H cl N ws) (S : LamSc scope) (hb : LamB (P := P) (w := w) q params body scope)
    (hN : (N.all fun x => decide (scope.names.lookup x = some .free)) = true) (all : (scope.names.all fun y => decide (y.2 = .free → y.1 ∈ N)) = true)
    (hbody : ∀ (cl : List (Str × Addr)) (f c' : Addr) (A : Around) (outer : List Env) (s : Shared) (H : Hp) (E : XK), Room j (A.deeper (lamEnvV q scope s.heap.objs.size f c' cl)) → PE (lamCxV P w K mg base N q scope f c' cl A outer s H E) body (tb E))
    (hW : Hides Wt) (hrun : ∀ G, Seqs H G → ∀ Q E, Wt G Q E → tb E (ws.map some) G Q) : Does P w K mg base (j + 1) Wt H f := by
  refine ⟨_, lamRun_of S hb (fun x hx => of_decide_eq_true (List.all_eq_true.mp hN x hx)) (fun x hx => of_decide_eq_true (List.all_eq_true.mp all _ hx) rfl) hbody f, fun H1 e Q E hw => ⟨cl, ws.map some, ext_lamAt e La, by rw [List.length_map]; exact fv.len, fun i x hi => ?_, ?_⟩⟩
  · obtain ⟨v, h1, h2⟩ := fv.at i x hi
    exact ⟨v, by rw [List.getElem?_map, h1]; rfl, ext_freeAt e h2⟩
  · refine hrun _ ((Seqs.of_ext e).trans (Seqs.of_hid (cells_frz fun x hx => ?_))) _ _ (hW _ _ _ _ hw)
    obtain ⟨i, hi⟩ := List.getElem?_of_mem hx
    obtain ⟨v, _, h2⟩ := fv.at i x hi
    exact ⟨v, ext_freeAt e h2⟩
/-- nothing is handed in: no parameter; one, with 0 for it -/
theorem lamB1 {P : Program} {w : World} {q : Str} {params : Arguments} {body : Expr} {scope : Scope} (a : Str) (hd : params.defaults ≠ []) (ha : scope.names.lookup a = some .local)
    (h : ∀ (cl : List (Str × Addr)) (doc pm ctv : Value) (c' t : Addr), ∃ k : Option (Array Value) → Sem (List (Str × Value)), bindArgs (PySem.W.kdv_fn "<lambda>" q params (.expr body) scope cl (.ref t) doc pm (.ref c') ctv) ⟨[], []⟩ = seqItems? (.ref t) >>= k ∧ ∀ tk, k (some #[.int 0 tk]) = pure [(a, .int 0 tk)]) :
    LamB (P := P) (w := w) q params body scope := by
  intro H s cl c' dV doc pm ctv ok d
  rcases d with ⟨z, _⟩ | ⟨_, t, tk, rfl, ht⟩
  · exact absurd z hd
  · obtain ⟨k, h1, h2⟩ := h cl doc pm ctv c' t
    refine ⟨[(a, .int 0 tk)], fun y hy => ?_, BindsTo.of_defaults rfl (frzO_at ok ht) rfl h1 (h2 tk)⟩
    cases List.mem_singleton.mp hy
    exact ha
theorem lamB0 {P : Program} {w : World} {q : Str} {params : Arguments} {body : Expr} {scope : Scope} (hd : params.defaults = [])
    (h : ∀ (cl : List (Str × Addr)) (doc pm ctv : Value) (c' : Addr), bindArgs (PySem.W.kdv_fn "<lambda>" q params (.expr body) scope cl .none doc pm (.ref c') ctv) ⟨[], []⟩ = pure []) : LamB (P := P) (w := w) q params body scope := by
  intro H s cl c' dV doc pm ctv ok d
  rcases d with ⟨_, rfl⟩ | ⟨z, _⟩
  · exact ⟨[], (fun y hy => absurd hy (List.not_mem_nil)), BindsTo.of_eq (h cl doc pm ctv c')⟩
  · exact absurd hd z
/-! ### captured names -/
def freeSB (sc scope : Scope) : Bool := scope.names.all fun y => decide (y.2 = .free → sc.names.lookup y.1 = some .cell ∨ sc.names.lookup y.1 = some .free)
theorem free_s {X : Cx} {sc scope : Scope} (h : X.env.scope = sc) (d : freeSB sc scope = true) : FreeS X.env.scope scope := by
  rw [h]
  exact fun y hy => of_decide_eq_true (List.all_eq_true.mp d y hy)
def cellUB (sc : Scope) : Bool := sc.names.all fun y => decide (y.2 = .cell → sc.names.lookup y.1 = some .cell)
theorem cellU_of {sc : Scope} (d : cellUB sc = true) : CellU sc := fun y hy => of_decide_eq_true (List.all_eq_true.mp d y hy)

theorem clo_both {cells : List (Str × Addr)} {names : List (Str × NameKind)} {x : Str} {c : Addr} (hx : (x, NameKind.free) ∈ names) (hc : cells.lookup x = some c) : ∃ c, (cloFrom cells names []).lookup x = some c ∧ cells.lookup x = some c := by
  obtain ⟨c1, h1⟩ := mem_lookup (cloFrom_has (cells := cells) (acc := []) hx)
  refine ⟨c1, h1, ?_⟩
  rcases cloFrom_mem (PySem.mem_of_lookup h1) with hm | ⟨_, h2⟩
  · cases hm
  · rw [h2, hc]
    rfl
theorem lent_free {N : List Str} {sc scope : Scope} {n : Nat} {σ : L2.St} {H H2 : Hp} {x : Str} {i : Nat} {v : V} (L : Lent N (cellsFrom n sc.names []) σ H H2) (hx : (x, NameKind.free) ∈ scope.names) (hcell : sc.names.lookup x = some .cell) (hi : N[i]? = some x) (hv : σ[i]? = some (some v)) :
    FreeAt H2 (cloFrom (cellsFrom n sc.names []) scope.names []) x v := by
  obtain ⟨c, hc⟩ := Option.isSome_iff_exists.mp (PySem.W.cellsFrom_some (x := x) sc.names n [] (.inl hcell))
  exact L.free (clo_both hx hc) hi hv
/-- x(), the module told -/
theorem pe_actVK (P : Program) (w : World) (K : PySem.W.Frag) (mg : Str → Option Value) (base : Heap) {X : Cx} {W : WX} {k i : Nat} {a : Str} {p1 p2 : Pos} (tk : Takes X W) (hr : Room k X.A) (hN : X.N[i]? = some a) (hv : Vis X.env.scope a)
    (h1 : X.prog = P := by rfl) (h2 : X.w = w := by rfl) (h3 : X.K = K := by rfl) (h4 : X.mg = mg := by rfl) (h5 : X.base = base := by rfl) (hd : (a == ("__debug__" : Str)) = false := by decide) (hcd : (a == ("__classdict__" : Str)) = false := by decide) :
    PE X (.Call (.Name a p1) [] [] p2) (tActV P w K mg base k i W) := by
  subst h1 h2 h3 h4 h5
  exact pe_actV tk hr hN hv hd hcd
/-! ### a law whose own def makes lambdas -/
structure FnT (mg : Str → Option Value) (K : PySem.W.Frag) (base : Heap) (x : Str) (st : Stmt) (f : Addr) (fd : FuncData) (PT : Addr) : Prop where
  ex : ∃ (c : Addr) (oc : Value) (od : Option Addr) (kV doc pm : Value) (an : Option Addr) (ct : Value) (osl : Array (Option Value)), fd = PySem.W.fnOf x x (defArgs st) (defBody st) (defScope st) .none kV doc pm an (.ref c) ct ∧
    K.lookup f = some ⟨oc, od, .func (PySem.W.fnOf x x (defArgs st) (defBody st) (defScope st) .none kV doc pm an (.ref c) ct), osl⟩ ∧ PySem.W.codeIn K (.ref c) x = true ∧ TabB base mg c PT
theorem FnT.ok {P : Program} {w : World} {K : PySem.W.Frag} {mg : Str → Option Value} {base : Heap} {x : Str} {st : Stmt} {f : Addr} {fd : FuncData} {N ps : List Str} {k : Nat} {sp : Sp} {PT : Addr} (F : FnT mg K base x st f fd PT) (S : FnScope N ps (defScope st)) (len : ∀ vs H Q E, sp vs H Q E → vs.length = ps.length)
    (hbody : ∀ (f c : Addr) (A : Around) (outer : List Env) (s : Shared) (H : Hp) (vs : List V) (Q : VK) (E : XK), TabB base mg c PT → Room k (A.deeper (envOfC x (defScope st) s.heap.objs.size f (.ref c))) → sp vs H Q E →
      ∃ t, PSs (cxOf CX0 P w K mg base N x (defScope st) f (.ref c) A outer s H E).nox (defBody st) t ∧ t { nx := fun _ H' => Q .non H', rt := Q } (start N vs) H) : FnOk P w K mg base CX0 (k + 1) f fd ps sp := by
  obtain ⟨c, oc, od, kV, doc, pm, an, ct, osl, rfl, lk, hcd, TB⟩ := F.ex
  exact fn_of lk hcd S len fun A outer s H vs Q E hr hsp => by
    obtain ⟨t, h, q⟩ := hbody f c A outer s H vs Q E TB hr hsp
    exact ⟨t, h.nox, q⟩
/-! ### readings -/
section
variable {T : List (Addr × Str)} {q0 : Str} {params : Arguments} {body : Expr} {scope : Scope} {cl : List (Str × Addr)} {σ : L2.St} {H : Hp} {Q : VK} {te : TE} {tl : TA}
theorem r_lamV (hT : Tabs T H) (q : ∀ f H1, H f = none → ExtN H H1 → Tabs T H1 → LamAt H1 f q0 params body scope cl → Q (.ref f) H1) : tLamV T q0 params body scope cl σ H Q := ⟨hT, q⟩
variable {u : (L2.St → V → Hp → Prop) → L2.St → Hp → Prop} {R : L2.St → V → Hp → Prop} {i : Nat}
theorem r_rasg (q : te σ H fun x H1 => u R (σ.set i (some x)) H1) : rCons (tAsg te (gName i)) u R σ H := q
theorem r_rret (q : te σ H (R σ)) : rRet te R σ H := q
theorem r_clL {N : List Str} {cells : List (Str × Addr)} {sp : Sp} (q : tl σ H fun vs H1 => ∀ H2, Lent N cells σ H1 H2 → sp vs H2 (fun v H3 => Q v (takC cells H3)) E0) : tClL N cells sp tl σ H Q := q
theorem r_actV {P : Program} {w : World} {K : PySem.W.Frag} {mg : Str → Option Value} {base : Heap} {k i : Nat} {W : WX} {Wt : Hp → VK → XK → Prop} {f : Addr} (hs : σ[i]? = some (some (.ref f))) (d : Does P w K mg base k Wt H f) (h : Wt H Q fun cls d H' => W cls d σ H') : tActV P w K mg base k i W σ H Q := by
  obtain ⟨sp, L, r⟩ := d
  exact ⟨f, sp, hs, L, r H (ext_same (Same.refl _)) _ _ h⟩
end
end Z

open PySem PySem.Spec PyProof.Rows L2 Z
-- a fact of the heap as it stands now
local macro_rules | `(tactic| walk_at "hp") => `(tactic| first | assumption | (refine same_at (by assumption) ?_; walk_at "hp") | (refine But.at (by assumption) ?_ ?_; (walk_at "hp"); (first | assumption | (apply Ne.symm; assumption))))
-- one step of a reading
local macro_rules | `(tactic| walk_at "r1") => `(tactic| first
  | (with_reducible refine r_var (by with_unfolding_all rfl) ?_)
  | (with_reducible refine r_c ?_)
  | (with_reducible refine r_op ?_)
  | (with_reducible refine r_un ?_)
  | (with_reducible refine r_sasg ?_)
  | (with_reducible refine r_sif ?_)
  | (with_reducible refine r_if ?_)
  | (with_reducible refine r_sset ?_)
  | (with_reducible refine r_set ?_)
  | (with_reducible refine r_sdrop ?_)
  | (with_reducible refine r_drop ?_)
  | (with_reducible refine r_ret ?_)
  | (with_reducible refine r_asg ?_)
  | (with_reducible refine r_test ?_)
  | (with_reducible refine r_tB ?_)
  | (with_reducible refine r_bl ?_)
  | (with_reducible refine r_not ?_)
  | (with_reducible refine r_and ?_)
  | (with_reducible refine r_or ?_)
  | (with_reducible refine r_yes ?_)
  | (with_reducible refine r_nil ?_)
  | (with_reducible refine r_cons ?_)
  | (with_reducible refine r_cl ?_)
  | (with_reducible refine r_cb ?_)
  | (with_reducible refine r_bm ?_)
  | (with_reducible refine r_tup ?_)
  | (with_reducible refine r_lst ?_)
  | (with_reducible refine r_few (by with_unfolding_all exact Nat.le_of_ble_eq_true rfl) ?_)
  | (with_reducible refine r_sl ?_)
  | (with_reducible refine r_noP ?_)
  | (with_reducible refine r_po ?_)
  | (with_reducible refine r_poI ?_)
  | (with_reducible refine r_ifE ?_)
  | (with_reducible refine r_andV ?_)
  | (with_reducible refine r_orV ?_)
  | (with_reducible refine r_notV ?_)
  | (with_reducible refine r_chain ?_)
  | (with_reducible refine r_addI ?_)
  | (with_reducible refine r_subI ?_)
  | (with_reducible refine r_neg ?_)
  | (with_reducible refine r_leI ?_)
  | (with_reducible refine r_ltI ?_)
  | (with_reducible refine r_gtI ?_)
  | (with_reducible refine r_geI ?_)
  | (with_reducible refine r_eqI ?_)
  | (with_reducible refine r_neI ?_)
  | (with_reducible refine r_eqS ?_)
  | (with_reducible refine r_neS ?_)
  | (with_reducible refine r_eqB ?_)
  | (with_reducible refine r_neB ?_)
  | (with_reducible refine r_inS ?_)
  | (with_reducible refine r_niS ?_)
  | (with_reducible refine r_isN ?_)
  | (with_reducible refine r_notN ?_)
  | (with_reducible refine r_min ?_)
  | (with_reducible refine r_min3 ?_)
  | (with_reducible refine r_intI ?_)
  | (with_reducible refine r_intB ?_)
  | (with_reducible refine r_tyS ?_)
  | (with_reducible refine r_ixL (by walk_at "hp") (by first | with_unfolding_all rfl | with_unfolding_all exact atI_nat (j := 0) rfl | with_unfolding_all exact atI_nat (j := 1) rfl) ?_)
  | (with_reducible refine r_ixU (by walk_at "hp") (by with_unfolding_all rfl) ?_)
  | (with_reducible refine r_lenL (by walk_at "hp") ?_)
  | (with_reducible refine r_lenU (by walk_at "hp") ?_)
  | (with_reducible refine r_tyL (by walk_at "hp") ?_)
  | (with_reducible refine r_next ?_)
  | (with_reducible refine r_sfor ?_)
  | (with_reducible refine iteT ?_)
  | (with_reducible refine iteF ?_)
  | (with_reducible refine iteNT ?_)
  | (with_reducible refine iteNF ?_)
  | (with_reducible refine r_hide ?_)
  | (with_reducible refine r_lenSetS ?_)
  | (with_reducible refine r_lc ?_)
  | (with_reducible refine r_iStr ?_)
  | (with_reducible refine r_iEnum ?_)
  | (with_reducible refine r_iEnumS ?_)
  | (with_reducible refine r_iRevS ?_)
  | (with_reducible refine r_iRev ?_)
  | (with_reducible refine r_gName ?_)
  | (with_reducible refine r_gTup (by walk_at "hp") (by with_unfolding_all rfl) ?_)
  | (with_reducible refine r_gCons ?_)
  | (with_reducible refine r_gNil ?_)
  | (with_reducible refine r_for ?_)
  | (with_reducible refine r_iList ?_)
  | (with_reducible refine r_iRng1 ?_)
  | (with_reducible refine r_sasgG ?_)
  | (with_reducible refine r_asgG ?_)
  | (with_reducible refine r_seq ?_)
  | (with_reducible refine r_dget ?_)
  | (with_reducible refine r_din ?_)
  | (with_reducible refine r_dnotin ?_)
  | (with_reducible refine r_sdput ?_)
  | (with_reducible refine r_dput ?_)
  | (with_reducible refine r_dnewT ?_)
  | (with_reducible refine r_dispT ?_)
  | (with_reducible refine r_pairs ?_)
  | (with_reducible refine r_pairs0 ?_)
  | (with_reducible refine r_minK ?_)
  | (with_reducible refine r_minKD ?_)
  | (with_reducible refine r_iTup ?_)
  | (with_reducible refine r_iRevR ?_)
  | (with_reducible refine r_rg1 ?_)
  | (with_reducible refine r_isB ?_)
  | (with_reducible refine r_notB ?_)
  | (with_reducible refine r_clX ?_)
  | (with_reducible refine r_clX2 ?_)
  | (with_reducible refine r_pow58 ?_)
  | (with_reducible refine r_rasg ?_)
  | (with_reducible refine r_rret ?_)
  | (with_reducible refine r_clL ?_)
  | (with_reducible refine r_raiseP ?_)
  | (with_reducible refine r_par3 ?_)
  | (with_reducible refine r_three ?_)
  | (with_reducible refine r_nget ?_)
  | (with_reducible refine r_nnotin ?_)
  | (with_reducible refine r_nput ?_)
  | (with_reducible refine r_nnew ?_)
  | (with_reducible refine r_tupleOf ?_))
local macro_rules | `(tactic| walk_at "r") => `(tactic| repeat walk_at "r1")
namespace Z
open PySem PySem.Spec PyProof.Rows L2
def topS (i : Nat) : Stmt := PySem.Challenge.pw_shifttape_k01_refused.main.body.getD i (.Pass ⟨0, 0, 0, 0⟩)
abbrev s_are_signs : Stmt := topS 14
theorem sc_are_signs : FnScope ["signs", "good", "sign"] ["signs"] (defScope s_are_signs) := ⟨rfl, rfl, rfl, by decide +kernel, rfl, by decide +kernel, by decide +kernel⟩
abbrev s_need_sheet : Stmt := topS 15
theorem sc_need_sheet : FnScope ["sheet", "zero", "one", "home"] ["sheet"] (defScope s_need_sheet) := ⟨rfl, rfl, rfl, by decide +kernel, rfl, by decide +kernel, by decide +kernel⟩
abbrev s_need_set : Stmt := topS 16
theorem sc_need_set : FnScope ["number"] ["number"] (defScope s_need_set) := ⟨rfl, rfl, rfl, by decide +kernel, rfl, by decide +kernel, by decide +kernel⟩
abbrev s_need_tape : Stmt := topS 17
theorem sc_need_tape : FnScope ["sheet", "tape", "place", "code"] ["sheet", "tape"] (defScope s_need_tape) := ⟨rfl, rfl, rfl, by decide +kernel, rfl, by decide +kernel, by decide +kernel⟩
abbrev s_need_text : Stmt := topS 18
theorem sc_need_text : FnScope ["sheet", "text", "place", "sign"] ["sheet", "text"] (defScope s_need_text) := ⟨rfl, rfl, rfl, by decide +kernel, rfl, by decide +kernel, by decide +kernel⟩
abbrev s_shift_to : Stmt := topS 19
theorem sc_shift_to : FnScope ["sheet", "number"] ["sheet", "number"] (defScope s_shift_to) := ⟨rfl, rfl, rfl, by decide +kernel, rfl, by decide +kernel, by decide +kernel⟩
abbrev s_is_shift : Stmt := topS 20
theorem sc_is_shift : FnScope ["sheet", "code"] ["sheet", "code"] (defScope s_is_shift) := ⟨rfl, rfl, rfl, by decide +kernel, rfl, by decide +kernel, by decide +kernel⟩
abbrev s_set_behind : Stmt := topS 21
theorem sc_set_behind : FnScope ["sheet", "code", "number"] ["sheet", "code", "number"] (defScope s_set_behind) := ⟨rfl, rfl, rfl, by decide +kernel, rfl, by decide +kernel, by decide +kernel⟩
abbrev s_code_of : Stmt := topS 22
theorem sc_code_of : FnScope ["sheet", "sign", "number", "signs"] ["sheet", "sign", "number"] (defScope s_code_of) := ⟨rfl, rfl, rfl, by decide +kernel, rfl, by decide +kernel, by decide +kernel⟩
abbrev s_gone : Stmt := topS 24
theorem sc_gone : FnScope ["sheet", "tape", "begin", "number", "signs", "sets", "code"] ["sheet", "tape", "begin"] (defScope s_gone) := ⟨rfl, rfl, rfl, by decide +kernel, rfl, by decide +kernel, by decide +kernel⟩
abbrev s_need_all : Stmt := topS 25
theorem sc_need_all : FnScope ["sheet", "tape", "begin"] ["sheet", "tape", "begin"] (defScope s_need_all) := ⟨rfl, rfl, rfl, by decide +kernel, rfl, by decide +kernel, by decide +kernel⟩
abbrev s_read : Stmt := topS 26
theorem sc_read : FnScope ["sheet", "tape", "begin"] ["sheet", "tape", "begin"] (defScope s_read) := ⟨rfl, rfl, rfl, by decide +kernel, rfl, by decide +kernel, by decide +kernel⟩
abbrev s_last_set : Stmt := topS 27
theorem sc_last_set : FnScope ["sheet", "tape", "begin", "sets"] ["sheet", "tape", "begin"] (defScope s_last_set) := ⟨rfl, rfl, rfl, by decide +kernel, rfl, by decide +kernel, by decide +kernel⟩
abbrev s_without : Stmt := topS 29
theorem sc_without : FnScope ["tape", "place"] ["tape", "place"] (defScope s_without) := ⟨rfl, rfl, rfl, by decide +kernel, rfl, by decide +kernel, by decide +kernel⟩
abbrev s_all_spoilt : Stmt := topS 30
theorem sc_all_spoilt : FnScope ["sheet", "tape", "begin", "right", "found", "place", "code", "other", "k"] ["sheet", "tape", "begin"] (defScope s_all_spoilt) := ⟨rfl, rfl, rfl, by decide +kernel, rfl, by decide +kernel, by decide +kernel⟩
abbrev s_spoilt : Stmt := topS 31
theorem sc_spoilt : FnScope ["sheet", "tape", "begin"] ["sheet", "tape", "begin"] (defScope s_spoilt) := ⟨rfl, rfl, rfl, by decide +kernel, rfl, by decide +kernel, by decide +kernel⟩
abbrev s_lost_at : Stmt := topS 32
theorem sc_lost_at : FnScope ["sheet", "tape", "begin", "text", "found", "place", "code"] ["sheet", "tape", "begin", "text"] (defScope s_lost_at) := ⟨rfl, rfl, rfl, by decide +kernel, rfl, by decide +kernel, by decide +kernel⟩
abbrev s_need_most : Stmt := topS 35
theorem sc_need_most : FnScope ["most"] ["most"] (defScope s_need_most) := ⟨rfl, rfl, rfl, by decide +kernel, rfl, by decide +kernel, by decide +kernel⟩
abbrev s_steps_from : Stmt := topS 36
theorem sc_steps_from : FnScope ["sheet", "text", "most", "state", "place", "number", "many", "found", "code", "more"] ["sheet", "text", "most", "state"] (defScope s_steps_from) := ⟨rfl, rfl, rfl, by decide +kernel, rfl, by decide +kernel, by decide +kernel⟩
abbrev s_guarded : Stmt := topS 37
theorem sc_guarded : FnScope ["sheet", "text", "begin", "most", "first", "known", "level", "behind", "state", "code", "other"] ["sheet", "text", "begin", "most"] (defScope s_guarded) := ⟨rfl, rfl, rfl, by decide +kernel, rfl, by decide +kernel, by decide +kernel⟩
abbrev s_is_guarded : Stmt := topS 38
theorem sc_is_guarded : FnScope ["sheet", "tape", "begin", "most", "place", "many"] ["sheet", "tape", "begin", "most"] (defScope s_is_guarded) := ⟨rfl, rfl, rfl, by decide +kernel, rfl, by decide +kernel, by decide +kernel⟩
abbrev s_set_at : Stmt := topS 40
theorem sc_set_at : FnScope ["sheet", "tape", "begin"] ["sheet", "tape", "begin"] (defScope s_set_at) := ⟨rfl, rfl, rfl, by decide +kernel, rfl, by decide +kernel, by decide +kernel⟩
abbrev s_led_in : Stmt := topS 41
theorem sc_led_in : FnScope ["sheet", "tape", "begin", "here"] ["sheet", "tape", "begin", "here"] (defScope s_led_in) := ⟨rfl, rfl, rfl, by decide +kernel, rfl, by decide +kernel, by decide +kernel⟩
abbrev s_joined : Stmt := topS 42
theorem sc_joined : FnScope ["sheet", "tapes", "begin", "tape", "found"] ["sheet", "tapes", "begin"] (defScope s_joined) := ⟨rfl, rfl, rfl, by decide +kernel, rfl, by decide +kernel, by decide +kernel⟩
abbrev s_cut : Stmt := topS 43
theorem sc_cut : FnScope ["sheet", "tape", "begin", "place", "front"] ["sheet", "tape", "begin", "place"] (defScope s_cut) := ⟨rfl, rfl, rfl, by decide +kernel, rfl, by decide +kernel, by decide +kernel⟩
abbrev s_costs_of : Stmt := topS 46
theorem sc_costs_of : FnScope ["sheet", "text", "found", "sign", "straight", "number", "code"] ["sheet", "text"] (defScope s_costs_of) := ⟨rfl, rfl, rfl, by decide +kernel, rfl, by decide +kernel, by decide +kernel⟩
abbrev s_shortest : Stmt := topS 47
theorem sc_shortest : FnScope ["sheet", "text", "begin", "costs", "tape", "number", "place", "code"] ["sheet", "text", "begin"] (defScope s_shortest) := ⟨rfl, rfl, rfl, by decide +kernel, rfl, by decide +kernel, by decide +kernel⟩
abbrev s_either : Stmt := topS 48
theorem sc_either : FnScope ["sheet", "text", "best", "place", "state", "some", "code", "number", "later"] ["sheet", "text"] (defScope s_either) := ⟨rfl, rfl, rfl, by decide +kernel, rfl, by decide +kernel, by decide +kernel⟩
abbrev s_shifted : Stmt := topS 49
theorem sc_shifted : FnScope ["sheet", "best", "place", "known", "state", "some", "number", "straight", "tape"] ["sheet", "best", "place"] (defScope s_shifted) := ⟨rfl, rfl, rfl, by decide +kernel, rfl, by decide +kernel, by decide +kernel⟩
abbrev s_written : Stmt := topS 52
theorem sc_written : FnScope ["sheet", "zero", "one", "home"] ["sheet"] (defScope s_written) := ⟨rfl, rfl, rfl, by decide +kernel, rfl, by decide +kernel, by decide +kernel⟩
abbrev s__law_begun : Stmt := topS 54
theorem sc__law_begun : FnScope ["_law_script", "_law_stirred", "_law_cell"] ["_law_script"] (defScope s__law_begun) := ⟨rfl, rfl, rfl, by decide +kernel, rfl, by decide +kernel, by decide +kernel⟩
abbrev s__law_take : Stmt := topS 55
theorem sc__law_take : FnScope ["_law_box", "_law_many", "_law_number"] ["_law_box", "_law_many"] (defScope s__law_take) := ⟨rfl, rfl, rfl, by decide +kernel, rfl, by decide +kernel, by decide +kernel⟩
abbrev s__law_alike : Stmt := topS 56
theorem sc__law_alike : FnScope ["_law_found", "_law_due", "_law_k"] ["_law_found", "_law_due"] (defScope s__law_alike) := ⟨rfl, rfl, rfl, by decide +kernel, rfl, by decide +kernel, by decide +kernel⟩
abbrev s__law_class : Stmt := topS 57
theorem sc__law_class : FnScope ["_law_e", "_law_kinds", "_law_words"] ["_law_e"] (defScope s__law_class) := ⟨rfl, rfl, rfl, by decide +kernel, rfl, by decide +kernel, by decide +kernel⟩
abbrev s__law_picked : Stmt := topS 58
theorem sc__law_picked : FnScope ["_law_box", "_law_signs", "_law_many", "_law_left", "_law_turn"] ["_law_box", "_law_signs", "_law_many"] (defScope s__law_picked) := ⟨rfl, rfl, rfl, by decide +kernel, rfl, by decide +kernel, by decide +kernel⟩
abbrev s__law_sheet : Stmt := topS 59
theorem sc__law_sheet : FnScope ["_law_box", "_law_most", "_law_many", "_law_every", "_law_often", "_law_zero", "_law_one", "_law_place", "_law_home"] ["_law_box", "_law_most"] (defScope s__law_sheet) := ⟨rfl, rfl, rfl, by decide +kernel, rfl, by decide +kernel, by decide +kernel⟩
abbrev s__law_text : Stmt := topS 60
theorem sc__law_text : FnScope ["_law_box", "_law_sheet_here", "_law_most", "_law_found", "_law_number", "_law_often", "_law_turn"] ["_law_box", "_law_sheet_here", "_law_most"] (defScope s__law_text) := ⟨rfl, rfl, rfl, by decide +kernel, rfl, by decide +kernel, by decide +kernel⟩
abbrev s__law_tape : Stmt := topS 61
theorem sc__law_tape : FnScope ["_law_box", "_law_sheet_here", "_law_most", "_law_n", "_law_often", "_law_found", "_law_turn"] ["_law_box", "_law_sheet_here", "_law_most"] (defScope s__law_tape) := ⟨rfl, rfl, rfl, by decide +kernel, rfl, by decide +kernel, by decide +kernel⟩
abbrev s__law_refused : Stmt := topS 62
theorem sc__law_refused : FnScope ["_law_work", "_law_e", "_law_word"] ["_law_work"] (defScope s__law_refused) := ⟨rfl, rfl, rfl, by decide +kernel, rfl, by decide +kernel, by decide +kernel⟩
abbrev s__law_all : Stmt := topS 63
theorem sc__law_all : FnScope ["_law_works", "_law_due", "_law_work"] ["_law_works", "_law_due"] (defScope s__law_all) := ⟨rfl, rfl, rfl, by decide +kernel, rfl, by decide +kernel, by decide +kernel⟩
abbrev s__law_bad : Stmt := topS 64
theorem sc__law_bad : FnScope ["_law_box", "_law_sheet_here", "_law_zero", "_law_one", "_law_home", "_law_far", "_law_wide", "_law_some"] ["_law_box", "_law_sheet_here"] (defScope s__law_bad) := ⟨rfl, rfl, rfl, by decide +kernel, rfl, by decide +kernel, by decide +kernel⟩
abbrev s__law_of_tapes : Stmt := topS 65
theorem sc__law_of_tapes : FnScope ["_law_sheet_here", "_law_tape_here", "_law_begin", "_law_place", "_law_works"] ["_law_sheet_here", "_law_tape_here", "_law_begin", "_law_place"] (defScope s__law_of_tapes) := ⟨rfl, rfl, rfl, by decide +kernel, rfl, by decide +kernel, by decide +kernel⟩
abbrev s__law_of_texts : Stmt := topS 66
theorem sc__law_of_texts : FnScope ["_law_sheet_here", "_law_text_here", "_law_begin", "_law_most"] ["_law_sheet_here", "_law_text_here", "_law_begin", "_law_most"] (defScope s__law_of_texts) := ⟨rfl, rfl, rfl, by decide +kernel, rfl, by decide +kernel, by decide +kernel⟩
abbrev s__law_sheets : Stmt := topS 67
theorem sc__law_sheets : FnScope ["_law_box", "_law_sheet_here", "_law_bad_here", "_law_works"] ["_law_box", "_law_sheet_here"] (defScope s__law_sheets) := ⟨rfl, rfl, rfl, by decide +kernel, rfl, by decide +kernel, by decide +kernel⟩
abbrev s__law_tapes : Stmt := topS 68
theorem sc__law_tapes : FnScope ["_law_box", "_law_sheet_here", "_law_tape_here", "_law_n", "_law_at", "_law_odd", "_law_long"] ["_law_box", "_law_sheet_here", "_law_tape_here"] (defScope s__law_tapes) := ⟨rfl, rfl, rfl, by decide +kernel, rfl, by decide +kernel, by decide +kernel⟩
abbrev s_law : Stmt := topS 69
theorem sc_law : FnScope ["_law_script", "_law_box", "_law_sheet_here", "_law_n", "_law_tape_here", "_law_turn", "_law_text_here", "_law_at", "_law_texts", "_law_wide", "_law_begin", "_law_far", "_law_works"] ["_law_script"] (defScope s_law) := ⟨rfl, rfl, rfl, by decide +kernel, rfl, by decide +kernel, by decide +kernel⟩
structure TX (mg : Str → Option Value) : Prop where
  b_len : mg "len" = none
  b_range : mg "range" = none
  b_list : mg "list" = none
  b_int : mg "int" = none
  b_str : mg "str" = none
  b_all : mg "all" = none
  b_isinstance : mg "isinstance" = none
  b_min : mg "min" = none
  b_sorted : mg "sorted" = none
  b_enumerate : mg "enumerate" = none
  b_reversed : mg "reversed" = none
  b_set : mg "set" = none
  b_tuple : mg "tuple" = none
  b_bool : mg "bool" = none
  b_ValueError : mg "ValueError" = none
  c_MOST_SIGNS : ∃ t, mg "MOST_SIGNS" = some (.int 26 t)
  c_MOST_CODES : ∃ t, mg "MOST_CODES" = some (.int 100 t)
  c_MOST_TEXT : ∃ t, mg "MOST_TEXT" = some (.int 32 t)
  c_FIRST : ∃ t, mg "FIRST" = some (.str " " t)
  c_LAST : ∃ t, mg "LAST" = some (.str "~" t)
  c_NONE : ∃ t, mg "NONE" = some (.int (-1) t)
  c_NEVER : ∃ t, mg "NEVER" = some (.int 1000000 t)
  c_NOTHING : ∃ t, mg "NOTHING" = some (.str "-" t)
def clsStmt (s : Stmt) (j : Nat) : Stmt := match s with
  | .ClassDef _ _ _ body _ _ _ _ _ _ _ => body.getD j (.Pass ⟨0, 0, 0, 0⟩)
  | _ => .Pass ⟨0, 0, 0, 0⟩
abbrev s_BadTape_init : Stmt := clsStmt (topS 4) 0
theorem sc_BadTape_init : FnScope ["self", "place"] ["self", "place"] (defScope s_BadTape_init) := ⟨rfl, rfl, rfl, by decide +kernel, rfl, by decide +kernel, by decide +kernel⟩
abbrev s_NoSign_init : Stmt := clsStmt (topS 5) 0
theorem sc_NoSign_init : FnScope ["self", "place"] ["self", "place"] (defScope s_NoSign_init) := ⟨rfl, rfl, rfl, by decide +kernel, rfl, by decide +kernel, by decide +kernel⟩
theorem iok_BadTape {P : Program} {w : World} {K : PySem.W.Frag} {mg : Str → Option Value} {base : Heap} {C0 C fI : Addr} {fd : FuncData} (TB : BaseI K C0) (hm : mg "TapeError" = some (.ref C0)) (T : OexC K C) (hno : PySem.W.findIn K (.ref C) "place" = some none) (F : Fun K "__init__" "BadTape.__init__" s_BadTape_init fI fd)
    (hi : PySem.W.findIn K (.ref C) "__init__" = some (some (.ref fI))) (ht : PySem.W.typeIn K (.ref fI) = some (.type "function")) : InitOk P w K mg base C "place" 2 :=
  ⟨1, fI, fd, ["self", "place"], Nat.le_refl _, hi, ht, ok_init (f := "place") F sc_BadTape_init rfl rfl T hno (fun A outer s H E cdv => pss_cons (ps_expr (pe_bini TB (by rfl) hm (pa_cons (pv 0) (pa_cons pe_str pa_nil)))) (pss_one (ps_ost (pv 0) (pv 1)))), F.binds fun _ _ _ _ _ _ us hl => match us, hl with | [_, _], _ => rfl⟩
theorem iok_NoSign {P : Program} {w : World} {K : PySem.W.Frag} {mg : Str → Option Value} {base : Heap} {C0 C fI : Addr} {fd : FuncData} (TB : BaseI K C0) (hm : mg "TapeError" = some (.ref C0)) (T : OexC K C) (hno : PySem.W.findIn K (.ref C) "place" = some none) (F : Fun K "__init__" "NoSign.__init__" s_NoSign_init fI fd)
    (hi : PySem.W.findIn K (.ref C) "__init__" = some (some (.ref fI))) (ht : PySem.W.typeIn K (.ref fI) = some (.type "function")) : InitOk P w K mg base C "place" 2 :=
  ⟨1, fI, fd, ["self", "place"], Nat.le_refl _, hi, ht, ok_init (f := "place") F sc_NoSign_init rfl rfl T hno (fun A outer s H E cdv => pss_cons (ps_expr (pe_bini TB (by rfl) hm (pa_cons (pv 0) (pa_cons pe_str pa_nil)))) (pss_one (ps_ost (pv 0) (pv 1)))), F.binds fun _ _ _ _ _ _ us hl => match us, hl with | [_, _], _ => rfl⟩
structure Cl where
  TapeError : Addr
  BadSheet : Addr
  BadSet : Addr
  BadTape : Addr
  NoSign : Addr
  BadCount : Addr
  BadText : Addr
structure EX (K : PySem.W.Frag) (mg : Str → Option Value) (cl : Cl) : Prop where
  g_TapeError : mg "TapeError" = some (.ref cl.TapeError)
  g_BadSheet : mg "BadSheet" = some (.ref cl.BadSheet)
  g_BadSet : mg "BadSet" = some (.ref cl.BadSet)
  g_BadTape : mg "BadTape" = some (.ref cl.BadTape)
  g_NoSign : mg "NoSign" = some (.ref cl.NoSign)
  g_BadCount : mg "BadCount" = some (.ref cl.BadCount)
  g_BadText : mg "BadText" = some (.ref cl.BadText)
  k_BadSheet : PySem.W.keepIn K (.ref cl.BadSheet) = true
  ex_BadSheet : PySem.W.subIn K (.ref cl.BadSheet) (.type "BaseException") = some true
  ty_BadSheet : PySem.W.typeIn K (.ref cl.BadSheet) = some (.type "type")
  x_BadSheet : PySem.W.excIn K cl.BadSheet [.type "ValueError", .type "Exception", .type "BaseException", .type "object"] "ValueError.__new__" = true
  e_BadSheet : L2.ExcC K cl.BadSheet
  h_BadSheet_TapeError : PySem.W.exmOne K (.ref cl.BadSheet) (.ref cl.TapeError) = some true
  is_BadSheet_BadSheet : PySem.W.kitOne K (.ref cl.BadSheet) (.ref cl.BadSheet) = some true
  is_BadSheet_BadSet : PySem.W.kitOne K (.ref cl.BadSheet) (.ref cl.BadSet) = some false
  is_BadSheet_BadTape : PySem.W.kitOne K (.ref cl.BadSheet) (.ref cl.BadTape) = some false
  is_BadSheet_NoSign : PySem.W.kitOne K (.ref cl.BadSheet) (.ref cl.NoSign) = some false
  is_BadSheet_BadCount : PySem.W.kitOne K (.ref cl.BadSheet) (.ref cl.BadCount) = some false
  is_BadSheet_BadText : PySem.W.kitOne K (.ref cl.BadSheet) (.ref cl.BadText) = some false
  iv_BadSheet : PySem.W.kitOne K (.ref cl.BadSheet) (.type "ValueError") = some true
  k_BadSet : PySem.W.keepIn K (.ref cl.BadSet) = true
  ex_BadSet : PySem.W.subIn K (.ref cl.BadSet) (.type "BaseException") = some true
  ty_BadSet : PySem.W.typeIn K (.ref cl.BadSet) = some (.type "type")
  x_BadSet : PySem.W.excIn K cl.BadSet [.type "ValueError", .type "Exception", .type "BaseException", .type "object"] "ValueError.__new__" = true
  e_BadSet : L2.ExcC K cl.BadSet
  h_BadSet_TapeError : PySem.W.exmOne K (.ref cl.BadSet) (.ref cl.TapeError) = some true
  is_BadSet_BadSheet : PySem.W.kitOne K (.ref cl.BadSet) (.ref cl.BadSheet) = some false
  is_BadSet_BadSet : PySem.W.kitOne K (.ref cl.BadSet) (.ref cl.BadSet) = some true
  is_BadSet_BadTape : PySem.W.kitOne K (.ref cl.BadSet) (.ref cl.BadTape) = some false
  is_BadSet_NoSign : PySem.W.kitOne K (.ref cl.BadSet) (.ref cl.NoSign) = some false
  is_BadSet_BadCount : PySem.W.kitOne K (.ref cl.BadSet) (.ref cl.BadCount) = some false
  is_BadSet_BadText : PySem.W.kitOne K (.ref cl.BadSet) (.ref cl.BadText) = some false
  iv_BadSet : PySem.W.kitOne K (.ref cl.BadSet) (.type "ValueError") = some true
  k_BadTape : PySem.W.keepIn K (.ref cl.BadTape) = true
  ex_BadTape : PySem.W.subIn K (.ref cl.BadTape) (.type "BaseException") = some true
  ty_BadTape : PySem.W.typeIn K (.ref cl.BadTape) = some (.type "type")
  o_BadTape : OexC K cl.BadTape
  n_BadTape : PySem.W.findIn K (.ref cl.BadTape) "place" = some none
  xf_BadTape : XfC K cl.BadTape
  e_BadTape : L2.ExcC K cl.BadTape
  h_BadTape_TapeError : PySem.W.exmOne K (.ref cl.BadTape) (.ref cl.TapeError) = some true
  is_BadTape_BadSheet : PySem.W.kitOne K (.ref cl.BadTape) (.ref cl.BadSheet) = some false
  is_BadTape_BadSet : PySem.W.kitOne K (.ref cl.BadTape) (.ref cl.BadSet) = some false
  is_BadTape_BadTape : PySem.W.kitOne K (.ref cl.BadTape) (.ref cl.BadTape) = some true
  is_BadTape_NoSign : PySem.W.kitOne K (.ref cl.BadTape) (.ref cl.NoSign) = some false
  is_BadTape_BadCount : PySem.W.kitOne K (.ref cl.BadTape) (.ref cl.BadCount) = some false
  is_BadTape_BadText : PySem.W.kitOne K (.ref cl.BadTape) (.ref cl.BadText) = some false
  iv_BadTape : PySem.W.kitOne K (.ref cl.BadTape) (.type "ValueError") = some true
  k_NoSign : PySem.W.keepIn K (.ref cl.NoSign) = true
  ex_NoSign : PySem.W.subIn K (.ref cl.NoSign) (.type "BaseException") = some true
  ty_NoSign : PySem.W.typeIn K (.ref cl.NoSign) = some (.type "type")
  o_NoSign : OexC K cl.NoSign
  n_NoSign : PySem.W.findIn K (.ref cl.NoSign) "place" = some none
  xf_NoSign : XfC K cl.NoSign
  e_NoSign : L2.ExcC K cl.NoSign
  h_NoSign_TapeError : PySem.W.exmOne K (.ref cl.NoSign) (.ref cl.TapeError) = some true
  is_NoSign_BadSheet : PySem.W.kitOne K (.ref cl.NoSign) (.ref cl.BadSheet) = some false
  is_NoSign_BadSet : PySem.W.kitOne K (.ref cl.NoSign) (.ref cl.BadSet) = some false
  is_NoSign_BadTape : PySem.W.kitOne K (.ref cl.NoSign) (.ref cl.BadTape) = some false
  is_NoSign_NoSign : PySem.W.kitOne K (.ref cl.NoSign) (.ref cl.NoSign) = some true
  is_NoSign_BadCount : PySem.W.kitOne K (.ref cl.NoSign) (.ref cl.BadCount) = some false
  is_NoSign_BadText : PySem.W.kitOne K (.ref cl.NoSign) (.ref cl.BadText) = some false
  iv_NoSign : PySem.W.kitOne K (.ref cl.NoSign) (.type "ValueError") = some true
  k_BadCount : PySem.W.keepIn K (.ref cl.BadCount) = true
  ex_BadCount : PySem.W.subIn K (.ref cl.BadCount) (.type "BaseException") = some true
  ty_BadCount : PySem.W.typeIn K (.ref cl.BadCount) = some (.type "type")
  x_BadCount : PySem.W.excIn K cl.BadCount [.type "ValueError", .type "Exception", .type "BaseException", .type "object"] "ValueError.__new__" = true
  e_BadCount : L2.ExcC K cl.BadCount
  h_BadCount_TapeError : PySem.W.exmOne K (.ref cl.BadCount) (.ref cl.TapeError) = some true
  is_BadCount_BadSheet : PySem.W.kitOne K (.ref cl.BadCount) (.ref cl.BadSheet) = some false
  is_BadCount_BadSet : PySem.W.kitOne K (.ref cl.BadCount) (.ref cl.BadSet) = some false
  is_BadCount_BadTape : PySem.W.kitOne K (.ref cl.BadCount) (.ref cl.BadTape) = some false
  is_BadCount_NoSign : PySem.W.kitOne K (.ref cl.BadCount) (.ref cl.NoSign) = some false
  is_BadCount_BadCount : PySem.W.kitOne K (.ref cl.BadCount) (.ref cl.BadCount) = some true
  is_BadCount_BadText : PySem.W.kitOne K (.ref cl.BadCount) (.ref cl.BadText) = some false
  iv_BadCount : PySem.W.kitOne K (.ref cl.BadCount) (.type "ValueError") = some true
  b_TapeError : BaseI K cl.TapeError
section
variable {P : Program} {w : World} {K : PySem.W.Frag} {mg : Str → Option Value} {base : Heap} {TTs : List (Addr × Str)}
/-! ### the box of draws -/
def PN : List V → Prop := fun xs => ∃ ns : List Int, xs = ns.map V.int
def PB (l : Addr) : List V → Prop := fun xs => ∃ z : Int, 0 ≤ z ∧ z < 2147483647 ∧ xs = [.ref l, .int z]
def Box (H : Hp) (v : V) : Prop := ∃ b l, v = .ref b ∧ H b = some (hidL (PB l) b) ∧ H l = some (hidL PN l) ∧ b ≠ l
theorem same_box {H H' : Hp} {v : V} (e : Same H H') (h : Box H v) : Box H' v := by
  obtain ⟨b, l, rfl, h1, h2, h3⟩ := h
  exact ⟨b, l, rfl, e _ _ h1, e _ _ h2, h3⟩
/-- all but two -/
def Two (b l : Addr) (H H' : Hp) : Prop := ∀ c o, c ≠ b → c ≠ l → H c = some o → H' c = some o
theorem Two.b {b l : Addr} {H0 H H' : Hp} (t : Two b l H0 H) (k : But b H H') : Two b l H0 H' := fun c o h1 h2 e => k c o h1 (t c o h1 h2 e)
theorem Two.l {b l : Addr} {H0 H H' : Hp} (t : Two b l H0 H) (k : But l H H') : Two b l H0 H' := fun c o h1 h2 e => k c o h2 (t c o h1 h2 e)
theorem Two.s {b l : Addr} {H0 H H' : Hp} (t : Two b l H0 H) (k : Same H H') : Two b l H0 H' := fun c o h1 h2 e => k c o (t c o h1 h2 e)
theorem Two.refl {b l : Addr} {H : Hp} : Two b l H H := fun _ _ _ _ e => e
theorem Two.same {b l : Addr} {H H' : Hp} {o u : HO} (t : Two b l H H') (hb : H b = some o) (hb' : H' b = some o) (hl : H l = some u) (hl' : H' l = some u) : Same H H' := fun c x e => by
  by_cases h1 : c = b
  · rw [h1] at e ⊢
    rw [hb'] 
    exact hb.symm.trans e
  · by_cases h2 : c = l
    · rw [h2] at e ⊢
      rw [hl']
      exact hl.symm.trans e
    · exact t c x h1 h2 e
def spTake : Sp := fun vs H Q _ => ∃ (v : V) (m : Int), vs = [v, .int m] ∧ Box H v ∧ 0 < m ∧ m ≤ 10 ^ 59 ∧ ∀ (r : Nat) H', (r : Int) < m → Same H H' → Q (.int r) H'
theorem use_take {H : Hp} {Q : VK} {E : XK} {v : V} {m : Int} (h : Box H v) (h0 : 0 < m) (h1 : m ≤ 10 ^ 59) (q : ∀ (r : Nat) H', (r : Int) < m → Same H H' → Q (.int r) H') : spTake [v, .int m] H Q E := ⟨v, m, rfl, h, h0, h1, q⟩
theorem fin_take {H H' : Hp} {Q : VK} {m x : Int} (q : ∀ (r : Nat) H', (r : Int) < m → Same H H' → Q (.int r) H') (h0 : 0 < m) (s : Same H H') : Q (.int (x % m)) H' := by
  have e := Int.toNat_of_nonneg (Int.emod_nonneg x (show m ≠ 0 by omega))
  have l := Int.emod_lt_of_pos x h0
  rw [← e]
  exact q _ _ (by omega) s
theorem ok__law_take {k : Nat} (F : Df K mg "_law_take" s__law_take ["_law_box", "_law_many"]) : OkAt P w K mg base "_law_take" (k + 1) ["_law_box", "_law_many"] spTake := by
  refine F.ok sc__law_take (fun vs H Q E h => ?_) (fun f cdv A outer s H vs Q E hr h => ?_)
  · obtain ⟨v, m, rfl, _⟩ := h
    rfl
  · obtain ⟨v, m, rfl, ⟨b, l, rfl, hb, hl, bl⟩, h0, hm, q⟩ := h
    refine ⟨_, (pss_show (pss_show (pss_cons (ps_if (pt_cmpR (op_uEq K hr.units) (pe_ix (ix_u K) (pv 0) pe_int (fun _ _ => rfl)) (pe_lstN pa_nil) (nomark _)) (pss_cons (ps_asg (pe_op op_uMod (pe_op op_uMul (pe_ix (ix_u K) (pv 0) pe_int (fun _ _ => rfl)) pe_int) pe_int) (pg_sub (pv 0) pe_int set_u)) (pss_one (ps_ret (pe_hide (pe_hide (pe_op op_uMod (pe_op op_uFdiv (pe_ix (ix_u K) (pv 0) pe_int (fun _ _ => rfl)) pe_int) (pv 1))))))) pss_nil) (pss_cons (ps_set (i := 2) sc__law_take.nd rfl (by first | exact Or.inl rfl | exact Or.inr rfl) (pe_ix (ix_u K) (pe_ix (ix_u K) (pv 0) pe_int (fun _ _ => rfl)) pe_int (fun _ _ => rfl))) (pss_cons (ps_asg (pe_op op_uFdiv (pv 2) (pv 1)) (pg_sub (pe_ix (ix_u K) (pv 0) pe_int (fun _ _ => rfl)) pe_int set_u)) (pss_cons (ps_if (PW.pt (pw_or (pt_cmpR (op_uEq K hr.units) (pe_ix (ix_u K) (pe_ix (ix_u K) (pv 0) pe_int (fun _ _ => rfl)) pe_int (fun _ _ => rfl)) pe_int (nomark _)) (pw_or1 (pt_cmpR (op_uEq K hr.units) (pe_ix (ix_u K) (pe_ix (ix_u K) (pv 0) pe_int (fun _ _ => rfl)) pe_int (fun _ _ => rfl)) (pe_un un_neg pe_int) (nomark _))))) (pss_one (ps_expr (pe_bmK K PySem.F.plainAttrs_list PySem.F.slot_list_pop PySem.F.type_list_pop mt_popAtN (pe_ix (ix_u K) (pv 0) pe_int (fun _ _ => rfl)) (pa_cons pe_int pa_nil)))) pss_nil) (pss_one (ps_ret (pe_hide (pe_hide (pe_op op_uMod (pv 2) (pv 1)))))))))))), ?_⟩
    refine ⟨b, _, hb, fun xs H1 p1 k1 e1 n1 => ?_⟩
    obtain ⟨z, z0, z1, rfl⟩ := p1
    refine ⟨l, _, k1 _ _ bl.symm hl, fun ys H2 p2 k2 e2 n2 => ?_⟩
    obtain ⟨ns, rfl⟩ := p2
    have eb : H2 b = some (.lst [.ref l, .int z]) := k2 _ _ bl e1
    have t2 : Two b l H H2 := (Two.refl.b k1).l k2
    clear k1 k2 e1 n1 n2
    walk_at "r"
    intro p H3 np s3 e3
    walk_at "r"
    refine r_eqLI0 (by walk_at "hp") e3 ?_
    walk_at "r"
    have t3 : Two b l H H3 := t2.s s3
    have eb3 := s3 _ _ eb
    have el3 := s3 _ _ e2
    refine w_dec (fun en => ?_) (fun en => ?_)
    · -- no number is left
      walk_at "r"
      refine r_mulI (.inr ⟨by decide, by decide⟩) ?_
      walk_at "r"
      refine r_modI (by decide) ?_
      walk_at "r"
      refine r_setL eb3 rfl fun H4 k4 e4 => ?_
      walk_at "r"
      refine r_fdivI (cdiv_of (by decide) (by decide)) ?_
      walk_at "r"
      refine r_modI h0 ?_
      have el4 := k4 _ _ bl.symm el3
      refine ⟨l, _, PN, el4, ⟨ns, rfl⟩, fun H5 k5 e5 => ⟨b, _, PB l, k5 _ _ bl e4, ⟨_, Int.emod_nonneg _ (by decide), Int.emod_lt_of_pos _ (by decide), rfl⟩, fun H6 k6 e6 => ?_⟩⟩
      exact fin_take q h0 ((((t3.b k4).l k5).b k6).same hb e6 hl (k6 _ _ bl.symm e5))
    · obtain ⟨n, ns, rfl⟩ : ∃ n r, ns = n :: r := by
        cases ns with
        | nil => exact absurd rfl en
        | cons n r => exact ⟨n, r, rfl⟩
      walk_at "r"
      refine r_fdivI (cdiv_of h0 hm) ?_
      walk_at "r"
      refine r_setL el3 (ixN_nat (j := 0) (by simp)) fun H4 k4 e4 => ?_
      have eb4 := k4 _ _ bl eb3
      have t4 := t3.l k4
      have fin : ∀ (ms : List Int) (H5 : Hp), Two b l H H5 → H5 b = some (.lst [.ref l, .int z]) → H5 l = some (.lst (ms.map V.int)) →
          ∃ a xs Pd, H5 a = some (.lst xs) ∧ Pd xs ∧ ∀ H', But a H5 H' → H' a = some (hidL Pd a) → ∃ a_1 xs Pd, H' a_1 = some (.lst xs) ∧ Pd xs ∧ ∀ H'_1, But a_1 H' H'_1 → H'_1 a_1 = some (hidL Pd a_1) → Q (.int (n % m)) H'_1 :=
        fun ms H5 t5 eb5 el5 => ⟨l, _, PN, el5, ⟨ms, rfl⟩, fun H6 k6 e6 => ⟨b, _, PB l, k6 _ _ bl eb5, ⟨z, z0, z1, rfl⟩, fun H7 k7 e7 => fin_take q h0 (((t5.l k6).b k7).same hb e7 hl (k7 _ _ bl.symm e6))⟩⟩
      have pop : ∀ (H5 : Hp) (Q' : VK), H5 l = some (.lst (((n / m) :: ns).map V.int)) → (∀ H', But l H5 H' → H' l = some (.lst (ns.map V.int)) → Q' (.int (n / m)) H') → mPopAt (.ref l) [.int 0] H5 Q' :=
        fun H5 Q' e k => ⟨l, _, 0, 0, _, rfl, rfl, e, by decide, by decide, (ixN_seq (ixN_nat (j := 0) (by simp))).1, rfl, k⟩
      have el4 : H4 l = some (.lst (((n / m) :: ns).map V.int)) := e4
      walk_at "r"
      refine w_dec (fun _ => ?_) (fun _ => ?_)
      · walk_at "r"
        refine pop H4 _ el4 fun H5 k5 e5 => ?_
        walk_at "r"
        refine r_modI h0 ?_
        exact fin _ H5 (t4.l k5) (k5 _ _ bl eb4) e5
      · walk_at "r"
        refine w_dec (fun _ => ?_) (fun _ => ?_)
        · walk_at "r"
          refine pop H4 _ el4 fun H5 k5 e5 => ?_
          walk_at "r"
          refine r_modI h0 ?_
          exact fin _ H5 (t4.l k5) (k5 _ _ bl eb4) e5
        · walk_at "r"
          refine r_modI h0 ?_
          exact fin _ H4 t4 eb4 el4

/-! ### sheets -/
/-- a sheet: its two texts, its home -/
structure Sh where
  zero : List Nat
  one : List Nat
  home : Option Nat
namespace Sh
def n (s : Sh) : Nat := s.zero.length
def signs (s : Sh) (b : Bool) : List Nat := if b then s.one else s.zero
structure Ok (s : Sh) : Prop where
  len : s.one.length = s.zero.length
  pos : 1 ≤ s.zero.length
  most : s.zero.length ≤ 26
  nd0 : s.zero.Nodup
  nd1 : s.one.Nodup
  ok0 : ∀ c ∈ s.zero, 32 ≤ c ∧ c ≤ 126
  ok1 : ∀ c ∈ s.one, 32 ≤ c ∧ c ≤ 126
  home : ∀ h, s.home = some h → h < s.zero.length
end Sh
def mkS (l : List Nat) : Str := ⟨l.toArray⟩
theorem tl_mkS (l : List Nat) : (mkS l).cps.toList = l := rfl
theorem len_mkS (l : List Nat) : (mkS l).length = l.length := by
  show l.toArray.size = _
  simp
theorem mkS_app (a b : List Nat) : mkS a ++ mkS b = mkS (a ++ b) := by
  refine TL.ext_tl ?_
  rw [TL.tl_append]
  rfl
theorem mkS_eq (a b : List Nat) : decide (mkS a = mkS b) = decide (a = b) := by
  by_cases e : a = b
  · rw [e, decide_eq_true rfl, decide_eq_true rfl]
  · rw [decide_eq_false e, decide_eq_false fun z => e (congrArg (fun x : Str => x.cps.toList) z)]
def hV : Option Nat → V
  | none => .non
  | some h => .int h
theorem hV_eq {c : Nat} {o : Option Nat} : V.int (c : Int) = hV o ↔ o = some c := by
  cases o with
  | none => exact ⟨(fun z => nomatch z), (fun z => nomatch z)⟩
  | some h =>
    constructor
    · intro z
      have := V.int.inj z
      rw [show h = c by omega]
    · intro z
      rw [Option.some.inj z]
      rfl
/-- the sheet sh stands at v -/
def IsSh (H : Hp) (v : V) (sh : Sh) : Prop := ∃ a, v = .ref a ∧ H a = some (.tup [.str (mkS sh.zero), .str (mkS sh.one), hV sh.home])
theorem same_sh {H H' : Hp} {v : V} {sh : Sh} (e : Same H H') (h : IsSh H v sh) : IsSh H' v sh := by
  obtain ⟨a, rfl, h⟩ := h
  exact ⟨a, rfl, e _ _ h⟩
def spIsShift : Sp := fun vs H Q _ => ∃ (v : V) (sh : Sh) (c : Nat), vs = [v, .int c] ∧ IsSh H v sh ∧ sh.Ok ∧ Q (.bl (decide (sh.n ≤ c))) H
theorem ok_is_shift {k : Nat} (T : TX mg) (F : Df K mg "is_shift" s_is_shift ["sheet", "code"]) : OkAt P w K mg base "is_shift" (k + 1) ["sheet", "code"] spIsShift := by
  refine F.ok sc_is_shift (fun vs H Q E h => ?_) (fun f cdv A outer s H vs Q E hr h => ?_)
  · obtain ⟨v, m, c, rfl, _⟩ := h
    rfl
  · obtain ⟨v, sh, c, rfl, ⟨a, rfl, ha⟩, ok, q⟩ := h
    refine ⟨_, (pss_one (ps_ret (pe_cmpR op_uGe (pv 1) (pe_callB (cr_len K) (by rfl) T.b_len (by decide +kernel) (pa_cons (pe_ix (ix_u K) (pv 0) pe_int (fun _ _ => rfl)) pa_nil)) (nomark _)))), ?_⟩
    walk_at "r"
    refine r_lenS (by rw [len_mkS]; have := ok.most; exact le_size (by omega)) ?_
    walk_at "r"
    have e : decide (((mkS sh.zero).length : Int) ≤ (c : Int)) = decide (sh.n ≤ c) := by
      rw [len_mkS]
      by_cases h : sh.n ≤ c
      · rw [decide_eq_true h, decide_eq_true (by unfold Sh.n at h; omega)]
      · rw [decide_eq_false h, decide_eq_false (by unfold Sh.n at h; omega)]
    rw [e]
    exact q
theorem use_is_shift {H : Hp} {Q : VK} {E : XK} {v : V} {sh : Sh} {c : Nat} (h : IsSh H v sh) (ok : sh.Ok) (q : Q (.bl (decide (sh.n ≤ c))) H) : spIsShift [v, .int c] H Q E := ⟨v, sh, c, rfl, h, ok, q⟩
/-! ### the set behind a code -/
def b2n (b : Bool) : Nat := if b then 1 else 0
def setV (b : Bool) : V := .int (b2n b)
def Sh.behind (s : Sh) (c : Nat) (b : Bool) : Bool := if s.n ≤ c then decide (c = s.n + 1) else if s.home = some c then false else b
def spSetBehind : Sp := fun vs H Q _ => ∃ (v : V) (sh : Sh) (c : Nat) (b : Bool), vs = [v, .int c, setV b] ∧ IsSh H v sh ∧ sh.Ok ∧ c < sh.n + 2 ∧ Q (setV (sh.behind c b)) H
theorem use_set_behind {H : Hp} {Q : VK} {E : XK} {v : V} {sh : Sh} {c : Nat} {b : Bool} (h : IsSh H v sh) (ok : sh.Ok) (hc : c < sh.n + 2) (q : Q (setV (sh.behind c b)) H) : spSetBehind [v, .int c, setV b] H Q E := ⟨v, sh, c, b, rfl, h, ok, hc, q⟩
theorem ok_set_behind {k : Nat} (T : TX mg) (F : Df K mg "set_behind" s_set_behind ["sheet", "code", "number"]) (o_is_shift : OkAt P w K mg base "is_shift" k ["sheet", "code"] spIsShift) : OkAt P w K mg base "set_behind" (k + 1) ["sheet", "code", "number"] spSetBehind := by
  refine F.ok sc_set_behind (fun vs H Q E h => ?_) (fun f cdv A outer s H vs Q E hr h => ?_)
  · obtain ⟨v, m, c, b, rfl, _⟩ := h
    rfl
  · obtain ⟨v, sh, c, b, rfl, hv, ok, hc, q⟩ := h
    obtain ⟨a, rfl, ha⟩ := id hv
    refine ⟨_, (pss_cons (ps_if (pt_val (pe_cl o_is_shift hr (by rfl) (pa_cons (pv 0) (pa_cons (pv 1) pa_nil)))) (pss_one (ps_ret (pe_op op_uSub (pv 1) (pe_callB (cr_len K) (by rfl) T.b_len (by decide +kernel) (pa_cons (pe_ix (ix_u K) (pv 0) pe_int (fun _ _ => rfl)) pa_nil))))) pss_nil) (pss_one (ps_ret (pe_ifExp (pt_cmpR (op_uEq K hr.units) (pv 1) (pe_ix (ix_u K) (pv 0) pe_int (fun _ _ => rfl)) (nomark _)) pe_int (pv 2))))), ?_⟩
    walk_at "r"
    refine use_is_shift hv ok ?_
    walk_at "r"
    refine w_dec (fun h1 => ?_) (fun h1 => ?_)
    · walk_at "r"
      refine r_lenS (by rw [len_mkS]; have := ok.most; exact le_size (by omega)) ?_
      walk_at "r"
      have e : V.int ((c : Int) - ((mkS sh.zero).length : Int)) = setV (sh.behind c b) := by
        rw [len_mkS]
        unfold Sh.behind setV b2n
        rw [if_pos h1]
        unfold Sh.n at h1 hc ⊢
        by_cases h2 : c = sh.zero.length + 1
        · rw [decide_eq_true h2]
          show V.int _ = V.int 1
          congr 1
          omega
        · rw [decide_eq_false h2]
          show V.int _ = V.int 0
          congr 1
          omega
      rw [e]
      exact q
    · walk_at "r"
      have e2 : sh.behind c b = if sh.home = some c then false else b := by
        unfold Sh.behind
        rw [if_neg h1]
      refine r_eqV (by cases sh.home <;> rfl) ?_
      walk_at "r"
      refine w_dec (fun h2 => ?_) (fun h2 => ?_)
      · walk_at "r"
        rw [e2, if_pos (hV_eq.mp h2)] at q
        exact q
      · walk_at "r"
        rw [e2, if_neg (fun z => h2 (hV_eq.mpr z))] at q
        exact q

/-! ### what is a sheet -/
def goodSigns (l : List Nat) : Bool := decide (1 ≤ l.length) && decide (l.length ≤ 26) && l.all (fun c => decide (32 ≤ c) && decide (c ≤ 126)) && decide l.Nodup
theorem lt_sing (a b : Nat) : decide ((sing a).cps.toList < (sing b).cps.toList) = decide (a < b) := by
  show decide ([a] < [b]) = decide (a < b)
  by_cases h : a < b
  · rw [decide_eq_true h, decide_eq_true (List.cons_lt_cons_iff.mpr (.inl h))]
  · rw [decide_eq_false h, decide_eq_false fun z => by
      rcases List.cons_lt_cons_iff.mp z with z | ⟨_, z⟩
      · exact h z
      · cases z]
theorem all_id (l : List Nat) (f : Nat → Bool) : (l.map f).all id = l.all f := by
  rw [List.all_map]
  rfl
def spAreSigns : Sp := fun vs H Q _ => ∃ l : List Nat, vs = [.str (mkS l)] ∧ l.length ≤ 3000 ∧ ∀ H', Same H H' → Q (.bl (goodSigns l)) H'
theorem use_are_signs {H : Hp} {Q : VK} {E : XK} {l : List Nat} (h : l.length ≤ 3000) (q : ∀ H', Same H H' → Q (.bl (goodSigns l)) H') : spAreSigns [.str (mkS l)] H Q E := ⟨l, rfl, h, q⟩
theorem ok_are_signs {k : Nat} (T : TX mg) (F : Df K mg "are_signs" s_are_signs ["signs"]) : OkAt P w K mg base "are_signs" (k + 1) ["signs"] spAreSigns := by
  refine F.ok sc_are_signs (fun vs H Q E h => ?_) (fun f cdv A outer s H vs Q E hr h => ?_)
  · obtain ⟨l, rfl, _⟩ := h
    rfl
  · obtain ⟨l, rfl, hl, q⟩ := h
    have sz : (mkS l).length ≤ 100000 := by rw [len_mkS]; omega
    refine ⟨_, (pss_cons (ps_setLc (i := 1) (own := [("sign", 2)]) (g := gName 2) (tt := tYes) rfl sc_are_signs.nd rfl rfl (sw_true rfl rfl rfl (by decide +kernel)) (pi_str (pv 0)) (blkOk_by (own := [("sign", 2)]) (N := ["signs", "good", "sign"]) (sc := defScope s_are_signs) (by decide +kernel)) (fun _ _ _ _ _ => (pg_name (i := 2) sc_are_signs.nd rfl (by first | exact Or.inl rfl | exact Or.inr rfl))) (fun _ _ _ _ _ => pts_nil) (fun _ _ _ _ _ => (pe_chain op_uLe op_uLe (pe_gStr (by rfl) T.c_FIRST) (pv 2) (pe_gStr (by rfl) T.c_LAST)))) (pss_one (ps_ret (pe_and (pe_chain op_uLe op_uLe pe_int (pe_callB (cr_len K) (by rfl) T.b_len (by decide +kernel) (pa_cons (pv 0) pa_nil)) (pe_gInt (by rfl) T.c_MOST_SIGNS)) (pe_and (pe_callB (cr_allB K) (by rfl) T.b_all (by decide +kernel) (pa_cons (pv 1) pa_nil)) (pe_one (pe_cmpR (op_uEq K hr.units) (pe_lenSetS (by rfl) T.b_len (by rfl) T.b_set (pv 0)) (pe_callB (cr_len K) (by rfl) T.b_len (by decide +kernel) (pa_cons (pv 0) pa_nil)) (nomark _)))))))), ?_⟩
    walk_at "r"
    refine c_str (fun i => ((l.take i).map fun c => decide (32 ≤ c) && decide (c ≤ 126)).map V.bl) sz rfl (fun i => by rw [List.length_map, List.length_map, List.length_take]; omega) (fun i c H' hc s Ky Kn hy _ => ?_) (fun p H1 n1 s1 e1 => ?_)
    · rw [tl_mkS] at hc
      have fin : ∀ b : Bool, b = (decide (32 ≤ c) && decide (c ≤ 126)) → Ky (.bl b) H' := fun b hb => hy _ _ (Same.refl _) (by
        dsimp only
        rw [List.take_add_one, hc, hb, List.map_append, List.map_append]
        rfl)
      walk_at "r"
      refine ⟨rfl, ?_⟩
      walk_at "r"
      refine r_leS ?_
      walk_at "r"
      have e1 : decide ((sing c).cps.toList < (Str.ofString " ").cps.toList) = decide (c < 32) := lt_sing c 32
      have e2 : decide ((Str.ofString "~").cps.toList < (sing c).cps.toList) = decide (126 < c) := lt_sing 126 c
      rw [e1]
      refine w_nd (fun h1 => ?_) (fun h1 => ?_)
      · walk_at "r"
        refine r_leS ?_
        walk_at "r"
        rw [e2]
        refine fin _ ?_
        rw [decide_eq_true (show 32 ≤ c by omega)]
        by_cases h2 : 126 < c
        · rw [decide_eq_true h2, decide_eq_false (show ¬ c ≤ 126 by omega)]
          rfl
        · rw [decide_eq_false h2, decide_eq_true (show c ≤ 126 by omega)]
          rfl
      · refine fin _ ?_
        rw [decide_eq_false (show ¬ 32 ≤ c by omega)]
        rfl
    · have et : l.take (mkS l).length = l := by rw [len_mkS]; exact List.take_length
      rw [et] at e1
      walk_at "r"
      refine r_lenS (le_size sz) ?_
      walk_at "r"
      have gs : goodSigns l = (decide (1 ≤ l.length) && decide (l.length ≤ 26) && l.all (fun c => decide (32 ≤ c) && decide (c ≤ 126)) && decide l.Nodup) := rfl
      refine w_dec (fun h1 => ?_) (fun h1 => ?_)
      · walk_at "r"
        refine w_dec (fun h2 => ?_) (fun h2 => ?_)
        · walk_at "r"
          refine r_all e1 ?_
          rw [all_id]
          walk_at "r"
          rw [len_mkS] at h1 h2
          rw [decide_eq_true (show 1 ≤ l.length by omega), decide_eq_true (show l.length ≤ 26 by omega)] at gs
          refine w_b (fun h3 => ?_) (fun h3 => ?_)
          · walk_at "r"
            refine ⟨_, rfl, by rw [len_mkS]; omega, ?_⟩
            walk_at "r"
            refine r_lenS (le_size sz) ?_
            walk_at "r"
            rw [tl_mkS, len_mkS]
            have e : decide (((dl l).length : Int) = (l.length : Int)) = goodSigns l := by
              rw [gs, h3]
              have d := (dl_le l).2.2
              by_cases h : l.Nodup
              · rw [decide_eq_true h, decide_eq_true (by have := d.mpr h; omega)]
                rfl
              · rw [decide_eq_false h, decide_eq_false fun z => h (d.mp (by omega))]
                rfl
            rw [e]
            exact q H1 s1
          · have e : goodSigns l = false := by
              rw [gs, h3]
              rfl
            rw [← e]
            exact q H1 s1
        · have e : goodSigns l = false := by
            rw [gs, decide_eq_false (show ¬ l.length ≤ 26 by rw [len_mkS] at h2; omega), Bool.and_false]
            rfl
          walk_at "r"
          rw [← e]
          exact q H1 s1
      · have e : goodSigns l = false := by
          rw [gs, decide_eq_false (show ¬ 1 ≤ l.length by rw [len_mkS] at h1; omega)]
          rfl
        walk_at "r"
        rw [← e]
        exact q H1 s1

/-! ### tapes -/
def tapeV (t : List Nat) : List V := t.map fun c => V.int (c : Nat)
def IsTape (H : Hp) (v : V) (t : List Nat) : Prop := ∃ a, v = .ref a ∧ H a = some (.lst (tapeV t))
theorem same_tape {H H' : Hp} {v : V} {t : List Nat} (e : Same H H') (h : IsTape H v t) : IsTape H' v t := by
  obtain ⟨a, rfl, h⟩ := h
  exact ⟨a, rfl, e _ _ h⟩
theorem tapeV_at {t : List Nat} {i : Nat} {x : V} (h : (tapeV t)[i]? = some x) : ∃ c, t[i]? = some c ∧ x = .int (c : Nat) := by
  unfold tapeV at h
  rw [List.getElem?_map] at h
  cases e : t[i]? with
  | none => rw [e] at h; cases h
  | some c =>
    rw [e] at h
    exact ⟨c, rfl, (Option.some.inj h).symm⟩
theorem tapeV_len (t : List Nat) : (tapeV t).length = t.length := List.length_map _
theorem tapeV_app (t u : List Nat) : tapeV t ++ tapeV u = tapeV (t ++ u) := (List.map_append ..).symm
theorem tapeV_ints (t : List Nat) : tapeV t = (t.map fun c => ((c : Nat) : Int)).map V.int := by
  unfold tapeV
  rw [List.map_map]
  rfl
theorem cast_inj {t u : List Nat} : (t.map fun c => ((c : Nat) : Int)) = (u.map fun c => ((c : Nat) : Int)) ↔ t = u := by
  constructor
  · intro h
    induction t generalizing u with
    | nil => cases u with
      | nil => rfl
      | cons _ _ => cases h
    | cons a r ih => cases u with
      | nil => cases h
      | cons b v =>
        rw [List.map_cons, List.map_cons] at h
        injection h with h1 h2
        rw [ih h2, show a = b by omega]
  · rintro rfl
    rfl
theorem r_neT {K : PySem.W.Frag} {H : Hp} {Q : VK} {a b : Addr} {t u : List Nat} (h1 : H a = some (.lst (tapeV t))) (h2 : H b = some (.lst (tapeV u))) (q : Q (.bl (!decide (t = u))) H) : uNe K (.ref a) (.ref b) H Q := by
  rw [tapeV_ints] at h1 h2
  refine r_neLI h1 h2 ?_
  have e : decide ((t.map fun c => ((c : Nat) : Int)) = (u.map fun c => ((c : Nat) : Int))) = decide (t = u) := by
    by_cases h : t = u
    · rw [decide_eq_true h, decide_eq_true (cast_inj.mpr h)]
    · rw [decide_eq_false h, decide_eq_false fun z => h (cast_inj.mp z)]
  rw [e]
  exact q
namespace Sh
def Codes (s : Sh) (t : List Nat) : Prop := ∀ c ∈ t, c < s.n + 2
def sign (s : Sh) (c : Nat) (b : Bool) : Nat := (s.signs b).getD c 0
def txt (s : Sh) : List Nat → Bool → List Nat
  | [], _ => []
  | c :: t, b => (if s.n ≤ c then [] else [s.sign c b]) ++ txt s t (s.behind c b)
def sets (s : Sh) : List Nat → Bool → List Bool
  | [], _ => []
  | c :: t, b => s.behind c b :: sets s t (s.behind c b)
def last (s : Sh) : List Nat → Bool → Bool
  | [], b => b
  | c :: t, b => last s t (s.behind c b)
theorem txt_app (s : Sh) : ∀ (t u : List Nat) (b : Bool), s.txt (t ++ u) b = s.txt t b ++ s.txt u (s.last t b)
  | [], _, _ => rfl
  | c :: t, u, b => by
    show (if s.n ≤ c then [] else [s.sign c b]) ++ s.txt (t ++ u) (s.behind c b) = _
    rw [txt_app s t u]
    exact (List.append_assoc ..).symm
theorem sets_app (s : Sh) : ∀ (t u : List Nat) (b : Bool), s.sets (t ++ u) b = s.sets t b ++ s.sets u (s.last t b)
  | [], _, _ => rfl
  | c :: t, u, b => by
    show s.behind c b :: s.sets (t ++ u) (s.behind c b) = _
    rw [sets_app s t u]
    rfl
theorem last_app (s : Sh) : ∀ (t u : List Nat) (b : Bool), s.last (t ++ u) b = s.last u (s.last t b)
  | [], _, _ => rfl
  | c :: t, u, b => last_app s t u (s.behind c b)
theorem txt_len (s : Sh) : ∀ (t : List Nat) (b : Bool), (s.txt t b).length ≤ t.length
  | [], _ => Nat.le_refl _
  | c :: t, b => by
    show ((if s.n ≤ c then [] else [s.sign c b]) ++ s.txt t (s.behind c b)).length ≤ t.length + 1
    have ih := txt_len s t (s.behind c b)
    rw [List.length_append]
    by_cases h : s.n ≤ c
    · rw [if_pos h]; simp; omega
    · rw [if_neg h]; simp; omega
theorem sets_len (s : Sh) : ∀ (t : List Nat) (b : Bool), (s.sets t b).length = t.length
  | [], _ => rfl
  | c :: t, b => congrArg (· + 1) (sets_len s t (s.behind c b))
theorem sets_last (s : Sh) : ∀ (t : List Nat) (b : Bool), ((b :: s.sets t b).getLast?) = some (s.last t b)
  | [], _ => rfl
  | c :: t, b => by
    show (b :: s.behind c b :: s.sets t (s.behind c b)).getLast? = _
    rw [List.getLast?_cons_cons]
    exact sets_last s t (s.behind c b)
theorem signs_len {s : Sh} (ok : s.Ok) (b : Bool) : (s.signs b).length = s.n := by
  cases b
  · rfl
  · exact ok.len
theorem sign_at {s : Sh} (ok : s.Ok) {c : Nat} {b : Bool} (h : c < s.n) : (s.signs b)[c]? = some (s.sign c b) := by
  unfold sign
  rw [List.getD_eq_getElem?_getD, List.getElem?_eq_getElem (by rw [signs_len ok]; exact h)]
  rfl
end Sh
theorem take_snoc {α : Type} {l : List α} {i : Nat} {x : α} (h : l[i]? = some x) : l.take (i + 1) = l.take i ++ [x] := by
  rw [List.take_add_one, h]
  rfl
section
variable {H : Hp} {Q : VK} {v : V} {sh : Sh} {b : Bool}
/-- sheet[number] -/
theorem r_ixSh (h : IsSh H v sh) (q : Q (.str (mkS (sh.signs b))) H) : uIx K v (setV b) H Q := by
  obtain ⟨a, rfl, ha⟩ := h
  refine r_ixU ha (n := (b2n b : Nat)) ?_ q
  cases b <;> rfl
theorem r_ixC {l : List Nat} {c x : Nat} (h : l[c]? = some x) (hl : l.length ≤ 100000) (q : Q (.str (mkS [x])) H) : uIx K (.str (mkS l)) (.int (c : Nat)) H Q :=
  r_ixS (by rw [len_mkS]; exact le_size hl) (atI_nat (by rw [tl_mkS]; exact h)) q
end
theorem join_signs (l : List Nat) : Txt.join (Str.ofString "") (l.map fun c => mkS [c]) = mkS l := by
  refine TL.ext_tl ?_
  rw [TL.join_eq, TL.tl_join]
  show TL.joinL [] ((l.map fun c => mkS [c]).map TL.tl) = l
  rw [List.map_map]
  have e : ∀ l : List Nat, TL.joinL [] (l.map ((TL.tl) ∘ fun c => mkS [c])) = l := by
    intro l
    induction l with
    | nil => rfl
    | cons c r ih =>
      cases r with
      | nil => rfl
      | cons d r =>
        show [c] ++ ([] ++ TL.joinL [] ((d :: r).map ((TL.tl) ∘ fun c => mkS [c]))) = _
        rw [ih]
        rfl
  exact e l
theorem join_size (l : List Nat) (h : l.length ≤ 100000) : ((l.map fun c => mkS [c]).map (·.length)).sum + (l.map fun c => mkS [c]).length * (Str.ofString "").length ≤ 16777216 := by
  have e : ∀ l : List Nat, ((l.map fun c => mkS [c]).map (·.length)).sum = l.length := by
    intro l
    induction l with
    | nil => rfl
    | cons c r ih =>
      show 1 + ((r.map fun c => mkS [c]).map (·.length)).sum = r.length + 1
      omega
  rw [e]
  have z : (Str.ofString "").length = 0 := by decide
  rw [z]
  omega
def spGone : Sp := fun vs H Q _ => ∃ (v u : V) (sh : Sh) (t : List Nat) (b : Bool), vs = [v, u, setV b] ∧ IsSh H v sh ∧ sh.Ok ∧ IsTape H u t ∧ sh.Codes t ∧ t.length ≤ 10000 ∧
  ∀ p ps H', Same H H' → H' p = some (.tup [.str (mkS (sh.txt t b)), .ref ps]) → H' ps = some (.lst ((sh.sets t b).map setV)) → Q (.ref p) H'
theorem use_gone {H : Hp} {Q : VK} {E : XK} {v u : V} {sh : Sh} {t : List Nat} {b : Bool} (h : IsSh H v sh) (ok : sh.Ok) (ht : IsTape H u t) (hc : sh.Codes t) (hl : t.length ≤ 10000)
    (q : ∀ p ps H', Same H H' → H' p = some (.tup [.str (mkS (sh.txt t b)), .ref ps]) → H' ps = some (.lst ((sh.sets t b).map setV)) → Q (.ref p) H') : spGone [v, u, setV b] H Q E := ⟨v, u, sh, t, b, rfl, h, ok, ht, hc, hl, q⟩
theorem ok_gone {k : Nat} (T : TX mg) (F : Df K mg "gone" s_gone ["sheet", "tape", "begin"]) (o_is_shift : OkAt P w K mg base "is_shift" k ["sheet", "code"] spIsShift)
    (o_set_behind : OkAt P w K mg base "set_behind" k ["sheet", "code", "number"] spSetBehind) : OkAt P w K mg base "gone" (k + 1) ["sheet", "tape", "begin"] spGone := by
  refine F.ok sc_gone (fun vs H Q E h => ?_) (fun f cdv A outer s H vs Q E hr h => ?_)
  · obtain ⟨v, u, sh, t, b, rfl, _⟩ := h
    rfl
  · obtain ⟨v, u, sh, t, b, rfl, hv, ok, ⟨a, rfl, ha⟩, hc, hl, q⟩ := h
    refine ⟨_, (pss_cons (ps_set (i := 3) sc_gone.nd rfl (by first | exact Or.inl rfl | exact Or.inr rfl) (pv 2)) (pss_cons (ps_set (i := 4) sc_gone.nd rfl (by first | exact Or.inl rfl | exact Or.inr rfl) (pe_lstN pa_nil)) (pss_cons (ps_set (i := 5) sc_gone.nd rfl (by first | exact Or.inl rfl | exact Or.inr rfl) (pe_lstN pa_nil)) (pss_cons (ps_for PassesOwn.never rfl (pi_listK K (pv 1)) (pg_name (i := 6) sc_gone.nd rfl (by first | exact Or.inl rfl | exact Or.inr rfl)) (pss_cons (ps_if (pt_not (pt_val (pe_cl o_is_shift hr (by rfl) (pa_cons (pv 0) (pa_cons (pv 6) pa_nil))))) (pss_one (ps_expr (pe_bmK K PySem.F.plainAttrs_list PySem.F.slot_list_append PySem.F.type_list_append mt_appendN (pv 4) (pa_cons (pe_ix (ix_u K) (pe_ix (ix_u K) (pv 0) (pv 3) (fun _ _ => rfl)) (pv 6) (fun _ _ => rfl)) pa_nil)))) pss_nil) (pss_cons (ps_set (i := 3) sc_gone.nd rfl (by first | exact Or.inl rfl | exact Or.inr rfl) (pe_cl o_set_behind hr (by rfl) (pa_cons (pv 0) (pa_cons (pv 6) (pa_cons (pv 3) pa_nil))))) (pss_one (ps_expr (pe_bmK K PySem.F.plainAttrs_list PySem.F.slot_list_append PySem.F.type_list_append mt_appendN (pv 5) (pa_cons (pv 3) pa_nil))))))) (pss_one (ps_ret (pe_tupN (pa_cons (pe_bmK K PySem.F.plainAttrs_str PySem.F.slot_str_join PySem.F.type_str_join (mt_joinN K) pe_str (pa_cons (pv 4) pa_nil)) (pa_cons (pv 5) pa_nil))))))))), ?_⟩
    walk_at "r"
    intro p1 H1 n1 s1 e1
    walk_at "r"
    intro p2 H2 n2 s2 e2
    walk_at "r"
    have d12 : p1 ≠ p2 := ne_of_none e1 n2
    refine f_list (by walk_at "hp") (fun i σ H' => ∃ y, σ = [some v, some (.ref a), some (setV b), some (setV (sh.last (t.take i) b)), some (.ref p1), some (.ref p2), y] ∧ Same H H' ∧
      H' p1 = some (.lst (((sh.txt (t.take i) b).map fun c => mkS [c]).map V.str)) ∧ H' p2 = some (.lst ((sh.sets (t.take i) b).map setV))) ?_ ?_ ?_ ?_
    · exact ⟨none, rfl, s1.trans s2, s2 _ _ e1, e2⟩
    · rintro i σ H' _ ⟨y, _, s, _⟩
      exact s _ _ ha
    · rintro i x σ H' hx ⟨y, rfl, s, g1, g2⟩
      obtain ⟨c, hx2, rfl⟩ := tapeV_at hx
      have et := take_snoc hx2
      have hcn : c < sh.n + 2 := hc c (List.mem_of_getElem? hx2)
      have l1 : (sh.txt (t.take i) b).length ≤ 10000 := Nat.le_trans (sh.txt_len _ _) (Nat.le_trans (by rw [List.length_take]; exact Nat.min_le_right _ _) hl)
      have l2 : (sh.sets (t.take i) b).length ≤ 10000 := by rw [sh.sets_len, List.length_take]; omega
      walk_at "r"
      refine use_is_shift (same_sh s hv) ok ?_
      walk_at "r"
      have st : sh.txt (t.take (i + 1)) b = sh.txt (t.take i) b ++ (if sh.n ≤ c then [] else [sh.sign c (sh.last (t.take i) b)]) := by
        rw [et, sh.txt_app]
        show _ ++ ((if sh.n ≤ c then [] else [sh.sign c _]) ++ []) = _
        rw [List.append_nil]
      have sl : sh.last (t.take (i + 1)) b = sh.behind c (sh.last (t.take i) b) := by
        rw [et, sh.last_app]
        rfl
      have ss : sh.sets (t.take (i + 1)) b = sh.sets (t.take i) b ++ [sh.behind c (sh.last (t.take i) b)] := by
        rw [et, sh.sets_app]
        rfl
      refine w_nd (fun h1 => ?_) (fun h1 => ?_)
      walk_at "r"
      refine r_ixSh (same_sh s hv) ?_
      walk_at "r"
      refine r_ixC (Sh.sign_at ok (by omega)) (by rw [Sh.signs_len ok]; have := ok.most; unfold Sh.n; omega) ?_
      walk_at "r"
      refine r_app g1 (by rw [List.length_map, List.length_map]; exact lt_size (by omega)) fun H3 k3 e3 => ?_
      have s' : Same H H3 := k3.same s n1
      have g2' := k3 _ _ d12.symm g2
      have g1' : H3 p1 = some (.lst (((sh.txt (t.take (i + 1)) b).map fun c => mkS [c]).map V.str)) := by
        rw [e3, st, if_neg h1, List.map_append, List.map_append]
        rfl
      clear k3 e3 g1 g2 s
      rotate_left
      have s' := s
      have g2' := g2
      have g1' : H' p1 = some (.lst (((sh.txt (t.take (i + 1)) b).map fun c => mkS [c]).map V.str)) := by
        rw [g1, st, if_pos h1, List.append_nil]
      clear g1 g2 s
      all_goals
        walk_at "r"
        refine use_set_behind (same_sh s' hv) ok hcn ?_
        walk_at "r"
        refine r_app g2' (by rw [List.length_map]; exact lt_size (by omega)) fun H4 k4 e4 => ?_
        walk_at "r"
        refine ⟨some (.int c), by rw [sl]; rfl, k4.same s' (s1.free n2), k4 _ _ d12 g1', ?_⟩
        rw [e4, ss, List.map_append]
        rfl
    · rintro σ H' ⟨y, rfl, s, g1, g2⟩
      rw [tapeV_len, List.take_length] at g1 g2
      walk_at "r"
      refine r_join g1 (join_size _ (Nat.le_trans (sh.txt_len _ _) (by omega))) ?_
      rw [join_signs]
      walk_at "r"
      intro p3 H3 n3 s3 e3
      exact q p3 p2 H3 (s.trans s3) e3 (s3 _ _ g2)

/-! ### good ones are not refused -/
theorem good_of {l : List Nat} (h1 : 1 ≤ l.length) (h2 : l.length ≤ 26) (h3 : ∀ c ∈ l, 32 ≤ c ∧ c ≤ 126) (h4 : l.Nodup) : goodSigns l = true := by
  unfold goodSigns
  rw [decide_eq_true h1, decide_eq_true h2, decide_eq_true h4]
  have : l.all (fun c => decide (32 ≤ c) && decide (c ≤ 126)) = true := by
    rw [List.all_eq_true]
    intro c hc
    obtain ⟨a, b⟩ := h3 c hc
    rw [decide_eq_true a, decide_eq_true b]
    rfl
  rw [this]
  rfl
theorem Sh.Ok.good0 {s : Sh} (ok : s.Ok) : goodSigns s.zero = true := good_of ok.pos ok.most ok.ok0 ok.nd0
theorem Sh.Ok.good1 {s : Sh} (ok : s.Ok) : goodSigns s.one = true := good_of (by rw [ok.len]; exact ok.pos) (by rw [ok.len]; exact ok.most) ok.ok1 ok.nd1
def spNeedSheet : Sp := fun vs H Q _ => ∃ (v : V) (sh : Sh), vs = [v] ∧ IsSh H v sh ∧ sh.Ok ∧ ∀ H', Same H H' → Q .non H'
theorem use_need_sheet {H : Hp} {Q : VK} {E : XK} {v : V} {sh : Sh} (h : IsSh H v sh) (ok : sh.Ok) (q : ∀ H', Same H H' → Q .non H') : spNeedSheet [v] H Q E := ⟨v, sh, rfl, h, ok, q⟩
theorem ok_need_sheet {k : Nat} (T : TX mg) (F : Df K mg "need_sheet" s_need_sheet ["sheet"]) (o_are_signs : OkAt P w K mg base "are_signs" k ["signs"] spAreSigns) : OkAt P w K mg base "need_sheet" (k + 1) ["sheet"] spNeedSheet := by
  refine F.ok sc_need_sheet (fun vs H Q E h => ?_) (fun f cdv A outer s H vs Q E hr h => ?_)
  · obtain ⟨v, sh, rfl, _⟩ := h
    rfl
  · obtain ⟨v, sh, rfl, ⟨a, rfl, ha⟩, ok, q⟩ := h
    have l0 := ok.most
    have l1 := ok.len
    refine ⟨_, (pss_cons (ps_asg (pv 0) (pg_tupK K (n := 3) rfl (pgs_cons (pg_name (i := 1) sc_need_sheet.nd rfl (by first | exact Or.inl rfl | exact Or.inr rfl)) (pgs_cons (pg_name (i := 2) sc_need_sheet.nd rfl (by first | exact Or.inl rfl | exact Or.inr rfl)) (pgs_cons (pg_name (i := 3) sc_need_sheet.nd rfl (by first | exact Or.inl rfl | exact Or.inr rfl)) pgs_nil))))) (pss_cons (ps_if (PW.pt (pw_or (pt_not (pt_val (pe_cl o_are_signs hr (by rfl) (pa_cons (pv 1) pa_nil)))) (pw_or (pt_not (pt_val (pe_cl o_are_signs hr (by rfl) (pa_cons (pv 2) pa_nil)))) (pw_or1 (pt_cmpR (op_uNe K hr.units) (pe_callB (cr_len K) (by rfl) T.b_len (by decide +kernel) (pa_cons (pv 1) pa_nil)) (pe_callB (cr_len K) (by rfl) T.b_len (by decide +kernel) (pa_cons (pv 2) pa_nil)) (nomark _)))))) (pss_one ps_never) pss_nil) (pss_one (ps_if (PW.pt (pw_and (pt_cmpR op_uNotN (pv 3) pe_non (nomark _)) (pw_and1 (pt_not (pt_chain op_uLe op_uLt pe_int (pv 3) (pe_callB (cr_len K) (by rfl) T.b_len (by decide +kernel) (pa_cons (pv 1) pa_nil))))))) (pss_one ps_never) pss_nil)))), ?_⟩
    walk_at "r"
    refine use_are_signs (by omega) fun H1 s1 => ?_
    rw [ok.good0]
    walk_at "r"
    refine use_are_signs (by omega) fun H2 s2 => ?_
    rw [ok.good1]
    walk_at "r"
    refine r_lenS (by rw [len_mkS]; exact le_size (by omega)) ?_
    walk_at "r"
    refine r_lenS (by rw [len_mkS]; exact le_size (by omega)) ?_
    walk_at "r"
    refine w_nno (by rw [len_mkS, len_mkS, l1]) ?_
    walk_at "r"
    have s12 := s1.trans s2
    cases eh : sh.home with
    | none =>
      rw [decide_eq_true (show hV none = V.non from rfl)]
      walk_at "r"
      exact q H2 s12
    | some h =>
      have hh := ok.home h eh
      rw [decide_eq_false (show ¬ hV (some h) = V.non from (fun z => nomatch z))]
      show if (!false) = true then _ else _
      walk_at "r"
      refine r_leI ?_
      walk_at "r"
      refine w_yes (by omega) ?_
      walk_at "r"
      refine r_lenS (by rw [len_mkS]; exact le_size (by omega)) ?_
      refine r_ltI ?_
      walk_at "r"
      refine w_nno (by rw [len_mkS]; omega) ?_
      walk_at "r"
      exact q H2 s12
def spNeedSet : Sp := fun vs H Q _ => ∃ b : Bool, vs = [setV b] ∧ ∀ H', Same H H' → Q .non H'
theorem use_need_set {H : Hp} {Q : VK} {E : XK} {b : Bool} (q : ∀ H', Same H H' → Q .non H') : spNeedSet [setV b] H Q E := ⟨b, rfl, q⟩
theorem ok_need_set {k : Nat} (T : TX mg) (F : Df K mg "need_set" s_need_set ["number"]) : OkAt P w K mg base "need_set" (k + 1) ["number"] spNeedSet := by
  refine F.ok sc_need_set (fun vs H Q E h => ?_) (fun f cdv A outer s H vs Q E hr h => ?_)
  · obtain ⟨b, rfl, _⟩ := h
    rfl
  · obtain ⟨b, rfl, q⟩ := h
    refine ⟨_, (pss_one (ps_if (pt_cmpR (op_uNi K) (pv 0) (pe_tupN (pa_cons pe_int (pa_cons pe_int pa_nil))) (by rfl)) (pss_one ps_never) pss_nil)), ?_⟩
    walk_at "r"
    intro p H1 n1 s1 e1
    walk_at "r"
    refine r_niU e1 rfl rfl ?_
    walk_at "r"
    refine w_f (by cases b <;> rfl) ?_
    walk_at "r"
    exact q H1 s1
def spNeedTape : Sp := fun vs H Q _ => ∃ (v u : V) (sh : Sh) (t : List Nat), vs = [v, u] ∧ IsSh H v sh ∧ sh.Ok ∧ IsTape H u t ∧ sh.Codes t ∧ t.length ≤ 100 ∧ ∀ H', Same H H' → Q .non H'
theorem use_need_tape {H : Hp} {Q : VK} {E : XK} {v u : V} {sh : Sh} {t : List Nat} (h : IsSh H v sh) (ok : sh.Ok) (ht : IsTape H u t) (hc : sh.Codes t) (hl : t.length ≤ 100) (q : ∀ H', Same H H' → Q .non H') : spNeedTape [v, u] H Q E := ⟨v, u, sh, t, rfl, h, ok, ht, hc, hl, q⟩
theorem ok_need_tape {k : Nat} (T : TX mg) (F : Df K mg "need_tape" s_need_tape ["sheet", "tape"]) : OkAt P w K mg base "need_tape" (k + 1) ["sheet", "tape"] spNeedTape := by
  refine F.ok sc_need_tape (fun vs H Q E h => ?_) (fun f cdv A outer s H vs Q E hr h => ?_)
  · obtain ⟨v, u, sh, t, rfl, _⟩ := h
    rfl
  · obtain ⟨v, u, sh, t, rfl, hv, ok, ⟨a, rfl, ha⟩, hc, hl, q⟩ := h
    obtain ⟨b, rfl, hb⟩ := id hv
    have l0 := ok.most
    refine ⟨_, (pss_one (ps_for PassesOwn.never rfl (pi_enumK K (by rfl) T.b_enumerate (pa_cons (pv 1) pa_nil)) (pg_tupK K (n := 2) rfl (pgs_cons (pg_name (i := 2) sc_need_tape.nd rfl (by first | exact Or.inl rfl | exact Or.inr rfl)) (pgs_cons (pg_name (i := 3) sc_need_tape.nd rfl (by first | exact Or.inl rfl | exact Or.inr rfl)) pgs_nil))) (pss_one (ps_if (PW.pt (pw_or (pt_cmpR op_uGe (pv 2) (pe_gInt (by rfl) T.c_MOST_CODES) (nomark _)) (pw_or1 (pt_not (pt_chain op_uLe op_uLt pe_int (pv 3) (pe_op (op_uAdd K) (pe_callB (cr_len K) (by rfl) T.b_len (by decide +kernel) (pa_cons (pe_ix (ix_u K) (pv 0) pe_int (fun _ _ => rfl)) pa_nil)) pe_int)))))) (pss_one ps_never) pss_nil)))), ?_⟩
    walk_at "r"
    refine f_enum ha (fun i σ H' => ∃ x y, σ = [some (.ref b), some (.ref a), x, y] ∧ Same H H') ⟨none, none, rfl, Same.refl _⟩ (fun i σ H' _ ⟨x, y, _, s⟩ => s _ _ ha) (fun i x σ H' TT H1 hx => ?_) ?_
    · rintro ⟨y, z, rfl, s⟩ hT s1 e1
      obtain ⟨c, hx2, rfl⟩ := tapeV_at hx
      have hi : i < 100 := Nat.lt_of_lt_of_le (List.getElem?_eq_some_iff.mp hx2).1 hl
      have hcn : c < sh.n + 2 := hc c (List.mem_of_getElem? hx2)
      walk_at "r"
      refine w_no (by omega) ?_
      walk_at "r"
      refine w_yes (by omega) ?_
      walk_at "r"
      refine r_lenS (by rw [len_mkS]; exact le_size (by omega)) ?_
      walk_at "r"
      refine w_nno (by rw [len_mkS]; unfold Sh.n at hcn; omega) ?_
      walk_at "r"
      exact ⟨_, _, rfl, s.trans s1⟩
    · rintro σ H' ⟨x, y, rfl, s⟩
      exact q H' s

/-! ### reading -/
def spNeedAll : Sp := fun vs H Q _ => ∃ (v u : V) (sh : Sh) (t : List Nat) (b : Bool), vs = [v, u, setV b] ∧ IsSh H v sh ∧ sh.Ok ∧ IsTape H u t ∧ sh.Codes t ∧ t.length ≤ 100 ∧ ∀ H', Same H H' → Q .non H'
theorem use_need_all {H : Hp} {Q : VK} {E : XK} {v u : V} {sh : Sh} {t : List Nat} {b : Bool} (h : IsSh H v sh) (ok : sh.Ok) (ht : IsTape H u t) (hc : sh.Codes t) (hl : t.length ≤ 100) (q : ∀ H', Same H H' → Q .non H') : spNeedAll [v, u, setV b] H Q E := ⟨v, u, sh, t, b, rfl, h, ok, ht, hc, hl, q⟩
theorem ok_need_all {k : Nat} (T : TX mg) (F : Df K mg "need_all" s_need_all ["sheet", "tape", "begin"]) (o_need_sheet : OkAt P w K mg base "need_sheet" k ["sheet"] spNeedSheet)
    (o_need_tape : OkAt P w K mg base "need_tape" k ["sheet", "tape"] spNeedTape) (o_need_set : OkAt P w K mg base "need_set" k ["number"] spNeedSet) : OkAt P w K mg base "need_all" (k + 1) ["sheet", "tape", "begin"] spNeedAll := by
  refine F.ok sc_need_all (fun vs H Q E h => ?_) (fun f cdv A outer s H vs Q E hr h => ?_)
  · obtain ⟨v, u, sh, t, b, rfl, _⟩ := h
    rfl
  · obtain ⟨v, u, sh, t, b, rfl, hv, ok, hu, hc, hl, q⟩ := h
    refine ⟨_, (pss_cons (ps_expr (pe_cl o_need_sheet hr (by rfl) (pa_cons (pv 0) pa_nil))) (pss_cons (ps_expr (pe_cl o_need_tape hr (by rfl) (pa_cons (pv 0) (pa_cons (pv 1) pa_nil)))) (pss_one (ps_expr (pe_cl o_need_set hr (by rfl) (pa_cons (pv 2) pa_nil)))))), ?_⟩
    walk_at "r"
    refine use_need_sheet hv ok fun H1 s1 => ?_
    walk_at "r"
    refine use_need_tape (same_sh s1 hv) ok (same_tape s1 hu) hc hl fun H2 s2 => ?_
    walk_at "r"
    refine use_need_set fun H3 s3 => ?_
    walk_at "r"
    exact q H3 ((s1.trans s2).trans s3)

def spRead : Sp := fun vs H Q _ => ∃ (v u : V) (sh : Sh) (t : List Nat) (b : Bool), vs = [v, u, setV b] ∧ IsSh H v sh ∧ sh.Ok ∧ IsTape H u t ∧ sh.Codes t ∧ t.length ≤ 100 ∧ ∀ H', Same H H' → Q (.str (mkS (sh.txt t b))) H'
theorem use_read {H : Hp} {Q : VK} {E : XK} {v u : V} {sh : Sh} {t : List Nat} {b : Bool} (h : IsSh H v sh) (ok : sh.Ok) (ht : IsTape H u t) (hc : sh.Codes t) (hl : t.length ≤ 100) (q : ∀ H', Same H H' → Q (.str (mkS (sh.txt t b))) H') : spRead [v, u, setV b] H Q E := ⟨v, u, sh, t, b, rfl, h, ok, ht, hc, hl, q⟩
theorem ok_read {k : Nat} (T : TX mg) (F : Df K mg "read" s_read ["sheet", "tape", "begin"]) (o_need_all : OkAt P w K mg base "need_all" k ["sheet", "tape", "begin"] spNeedAll)
    (o_gone : OkAt P w K mg base "gone" k ["sheet", "tape", "begin"] spGone) : OkAt P w K mg base "read" (k + 1) ["sheet", "tape", "begin"] spRead := by
  refine F.ok sc_read (fun vs H Q E h => ?_) (fun f cdv A outer s H vs Q E hr h => ?_)
  · obtain ⟨v, u, sh, t, b, rfl, _⟩ := h
    rfl
  · obtain ⟨v, u, sh, t, b, rfl, hv, ok, hu, hc, hl, q⟩ := h
    refine ⟨_, (pss_cons (ps_expr (pe_cl o_need_all hr (by rfl) (pa_cons (pv 0) (pa_cons (pv 1) (pa_cons (pv 2) pa_nil))))) (pss_one (ps_ret (pe_ix (ix_u K) (pe_cl o_gone hr (by rfl) (pa_cons (pv 0) (pa_cons (pv 1) (pa_cons (pv 2) pa_nil)))) pe_int (fun _ _ => rfl))))), ?_⟩
    walk_at "r"
    refine use_need_all hv ok hu hc hl fun H1 s1 => ?_
    walk_at "r"
    refine use_gone (same_sh s1 hv) ok (same_tape s1 hu) hc (by omega) fun p ps H2 s2 e1 e2 => ?_
    walk_at "r"
    exact q H2 (s1.trans s2)

theorem setsV_ints (l : List Bool) : l.map setV = (l.map fun b => ((b2n b : Nat) : Int)).map V.int := by
  rw [List.map_map]
  rfl
theorem sets_end {sh : Sh} {t : List Nat} {b : Bool} (h : sh.sets t b ≠ []) : atI ((sh.sets t b).map setV) (-1) = some (setV (sh.last t b)) := by
  have e := sh.sets_last t b
  obtain ⟨l, x, hl⟩ : ∃ l x, sh.sets t b = l ++ [x] := ⟨_, _, (List.dropLast_concat_getLast h).symm⟩
  rw [hl] at e ⊢
  rw [← List.cons_append, List.getLast?_concat] at e
  rw [List.map_append]
  have e2 : x = sh.last t b := Option.some.inj e
  rw [← e2]
  exact atI_last _ _
def spLastSet : Sp := fun vs H Q _ => ∃ (v u : V) (sh : Sh) (t : List Nat) (b : Bool), vs = [v, u, setV b] ∧ IsSh H v sh ∧ sh.Ok ∧ IsTape H u t ∧ sh.Codes t ∧ t.length ≤ 100 ∧ ∀ H', Same H H' → Q (setV (sh.last t b)) H'
theorem use_last_set {H : Hp} {Q : VK} {E : XK} {v u : V} {sh : Sh} {t : List Nat} {b : Bool} (h : IsSh H v sh) (ok : sh.Ok) (ht : IsTape H u t) (hc : sh.Codes t) (hl : t.length ≤ 100) (q : ∀ H', Same H H' → Q (setV (sh.last t b)) H') : spLastSet [v, u, setV b] H Q E := ⟨v, u, sh, t, b, rfl, h, ok, ht, hc, hl, q⟩
theorem ok_last_set {k : Nat} (T : TX mg) (F : Df K mg "last_set" s_last_set ["sheet", "tape", "begin"]) (o_need_all : OkAt P w K mg base "need_all" k ["sheet", "tape", "begin"] spNeedAll)
    (o_gone : OkAt P w K mg base "gone" k ["sheet", "tape", "begin"] spGone) : OkAt P w K mg base "last_set" (k + 1) ["sheet", "tape", "begin"] spLastSet := by
  refine F.ok sc_last_set (fun vs H Q E h => ?_) (fun f cdv A outer s H vs Q E hr h => ?_)
  · obtain ⟨v, u, sh, t, b, rfl, _⟩ := h
    rfl
  · obtain ⟨v, u, sh, t, b, rfl, hv, ok, hu, hc, hl, q⟩ := h
    refine ⟨_, (pss_cons (ps_expr (pe_cl o_need_all hr (by rfl) (pa_cons (pv 0) (pa_cons (pv 1) (pa_cons (pv 2) pa_nil))))) (pss_cons (ps_set (i := 3) sc_last_set.nd rfl (by first | exact Or.inl rfl | exact Or.inr rfl) (pe_ix (ix_u K) (pe_cl o_gone hr (by rfl) (pa_cons (pv 0) (pa_cons (pv 1) (pa_cons (pv 2) pa_nil)))) pe_int (fun _ _ => rfl))) (pss_one (ps_ret (pe_ifExp (pt_cmpR (op_uNe K hr.units) (pv 3) (pe_lstN pa_nil) (nomark _)) (pe_ix (ix_u K) (pv 3) (pe_un un_neg pe_int) (fun _ _ => rfl)) (pv 2)))))), ?_⟩
    walk_at "r"
    refine use_need_all hv ok hu hc hl fun H1 s1 => ?_
    walk_at "r"
    refine use_gone (same_sh s1 hv) ok (same_tape s1 hu) hc (by omega) fun p ps H2 s2 e1 e2 => ?_
    walk_at "r"
    intro p3 H3 n3 s3 e3
    have e2' := s3 _ _ e2
    have s123 := (s1.trans s2).trans s3
    refine r_neLI0 (by rw [← setsV_ints]; exact e2') e3 ?_
    walk_at "r"
    refine w_nd (fun h1 => ?_) (fun h1 => ?_)
    · walk_at "r"
      refine r_ixL e2' (sets_end fun z => h1 (by rw [z]; rfl)) ?_
      exact q H3 s123
    · walk_at "r"
      have ht : t = [] := by
        cases t with
        | nil => rfl
        | cons c r => exact absurd h1 (by intro z; cases z)
      subst ht
      exact q H3 s123

def spBegun (K : PySem.W.Frag) : Sp := fun vs H Q _ => ∃ (a : Addr) (ns : List Int), vs = [.ref a] ∧ SqL K H a (ns.map V.int) ∧ ns.length ≤ 63 ∧ ∀ v H', Same H H' → Box H' v → Q v H'
theorem use_begun {K : PySem.W.Frag} {H : Hp} {Q : VK} {E : XK} {a : Addr} {ns : List Int} (h : SqL K H a (ns.map V.int)) (hl : ns.length ≤ 63) (q : ∀ v H', Same H H' → Box H' v → Q v H') : spBegun K [.ref a] H Q E := ⟨a, ns, rfl, h, hl, q⟩
theorem ok__law_begun {k : Nat} (T : TX mg) (F : Df K mg "_law_begun" s__law_begun ["_law_script"]) : OkAt P w K mg base "_law_begun" (k + 1) ["_law_script"] (spBegun K) := by
  refine F.ok sc__law_begun (fun vs H Q E h => ?_) (fun f cdv A outer s H vs Q E hr h => ?_)
  · obtain ⟨a, ns, rfl, _⟩ := h
    rfl
  · obtain ⟨a, ns, rfl, ha, hl, q⟩ := h
    refine ⟨_, (pss_cons (ps_set (i := 1) sc__law_begun.nd rfl (by first | exact Or.inl rfl | exact Or.inr rfl) pe_int) (pss_cons (ps_for PassesOwn.never rfl (pi_listK K (pv 0)) (pg_name (i := 2) sc__law_begun.nd rfl (by first | exact Or.inl rfl | exact Or.inr rfl)) (pss_one (ps_set (i := 1) sc__law_begun.nd rfl (by first | exact Or.inl rfl | exact Or.inr rfl) (pe_op op_uMod (pe_op (op_uAdd K) (pe_op (op_uAdd K) (pe_op op_uMul (pv 1) pe_int) (pe_op op_uMul (pv 2) pe_int)) pe_int) pe_int)))) (pss_one (ps_ret (pe_hide (pe_hide (pe_lstN (pa_cons (pe_callTy (cr_listN K) (by rfl) T.b_list (by decide +kernel) (pa_cons (pv 0) pa_nil)) (pa_cons (pe_op op_uMul (pv 1) (pe_callTy cr_int (by rfl) T.b_int (by decide +kernel) (pa_cons (pe_cmpR op_uGt (pe_callB (cr_len K) (by rfl) T.b_len (by decide +kernel) (pa_cons (pv 0) pa_nil)) pe_int (nomark _)) pa_nil))) pa_nil))))))))), ?_⟩
    walk_at "r"
    refine f_listQ ha (fun i σ H' => ∃ (z : Int) (y : Option V), σ = [some (.ref a), some (.int z), y] ∧ H' = H ∧ 0 ≤ z ∧ z < 2147483647) ⟨0, none, rfl, rfl, by decide, by decide⟩ ?_ ?_ ?_
    · rintro i σ H' _ ⟨z, y, _, rfl, _⟩
      exact ha
    · rintro i x σ H' hx ⟨z, y, rfl, rfl, z0, z1⟩
      obtain ⟨n, rfl⟩ : ∃ n, x = .int n := by
        rw [List.getElem?_map] at hx
        cases e : ns[i]? with
        | none => rw [e] at hx; cases hx
        | some n => rw [e] at hx; exact ⟨n, (Option.some.inj hx).symm⟩
      walk_at "r"
      refine r_mulI (.inr ⟨by decide, by decide⟩) ?_
      walk_at "r"
      refine r_mulI (.inr ⟨by decide, by decide⟩) ?_
      walk_at "r"
      refine r_modI (by decide) ?_
      walk_at "r"
      exact ⟨_, _, rfl, rfl, Int.emod_nonneg _ (by decide), Int.emod_lt_of_pos _ (by decide)⟩
    · rintro σ H' ⟨z, y, rfl, rfl, z0, z1⟩
      walk_at "r"
      refine r_listQ ha fun l H1 n1 s1 e1 => ?_
      walk_at "r"
      refine r_lenQ (s1.seq ha) ?_
      walk_at "r"
      refine r_mulI (.inr (by split <;> exact ⟨by decide, by decide⟩)) ?_
      walk_at "r"
      intro b H2 n2 s2 e2
      have bl : l ≠ b := ne_of_none e1 n2
      refine ⟨l, _, PN, s2 _ _ e1, ⟨ns, rfl⟩, fun H3 k3 e3 => ⟨b, _, PB l, k3 _ _ bl.symm e2, ⟨_, ?_, ?_, rfl⟩, fun H4 k4 e4 => q _ H4 ?_ ⟨b, l, rfl, e4, k4 _ _ bl e3, bl.symm⟩⟩⟩
      · split <;> omega
      · split <;> omega
      · exact k4.same (k3.same (s1.trans s2) n1) (s1.free n2)

def signsV (l : List Nat) : List V := l.map fun c => V.str (sing c)
theorem signsV_len (l : List Nat) : (signsV l).length = l.length := List.length_map _
theorem signsV_at {l : List Nat} {i c : Nat} (h : l[i]? = some c) : (signsV l)[i]? = some (.str (sing c)) := by
  unfold signsV
  rw [List.getElem?_map, h]
  rfl
def spPicked : Sp := fun vs H Q _ => ∃ (v : V) (z : Str) (m : Int), vs = [v, .str z, .int m] ∧ Box H v ∧ z.cps.toList.Nodup ∧ 0 ≤ m ∧ m ≤ z.cps.toList.length ∧ z.cps.toList.length ≤ 1000 ∧
  ∀ p r H', H p = none → Same H H' → H' p = some (.lst (signsV r)) → (r.length : Int) = m → r.Nodup → (∀ c ∈ r, c ∈ z.cps.toList) → Q (.ref p) H'
theorem use_picked {H : Hp} {Q : VK} {E : XK} {v : V} {z : Str} {m : Int} (h : Box H v) (nd : z.cps.toList.Nodup) (h0 : 0 ≤ m) (h1 : m ≤ z.cps.toList.length) (h2 : z.cps.toList.length ≤ 1000)
    (q : ∀ p r H', H p = none → Same H H' → H' p = some (.lst (signsV r)) → (r.length : Int) = m → r.Nodup → (∀ c ∈ r, c ∈ z.cps.toList) → Q (.ref p) H') : spPicked [v, .str z, .int m] H Q E := ⟨v, z, m, rfl, h, nd, h0, h1, h2, q⟩
theorem erase_perm {α : Type} : ∀ (r : List α) (i : Nat) (c : α), r[i]? = some c → (c :: r.eraseIdx i).Perm r
  | [], i, c, h => by simp at h
  | x :: r, 0, c, h => by
    have e : x = c := by simpa using h
    subst e
    exact List.Perm.refl _
  | x :: r, i + 1, c, h => by
    have ih := erase_perm r i c (by simpa using h)
    exact (List.Perm.swap x c (r.eraseIdx i)).trans (List.Perm.cons x ih)
theorem erase_map {α β : Type} (g : α → β) : ∀ (r : List α) (i : Nat), (r.map g).eraseIdx i = (r.eraseIdx i).map g
  | [], _ => rfl
  | x :: r, 0 => rfl
  | x :: r, i + 1 => congrArg (g x :: ·) (erase_map g r i)
theorem perm_pick {l u r : List Nat} {i c : Nat} (p : (u ++ r).Perm l) (h : r[i]? = some c) : ((u ++ [c]) ++ r.eraseIdx i).Perm l := by
  refine List.Perm.trans ?_ p
  rw [List.append_assoc]
  refine List.Perm.append_left u ?_
  exact erase_perm r i c h
theorem ok__law_picked {k : Nat} (T : TX mg) (F : Df K mg "_law_picked" s__law_picked ["_law_box", "_law_signs", "_law_many"]) (o__law_take : OkAt P w K mg base "_law_take" k ["_law_box", "_law_many"] spTake) :
    OkAt P w K mg base "_law_picked" (k + 1) ["_law_box", "_law_signs", "_law_many"] spPicked := by
  refine F.ok sc__law_picked (fun vs H Q E h => ?_) (fun f cdv A outer s H vs Q E hr h => ?_)
  · obtain ⟨v, z, m, rfl, _⟩ := h
    rfl
  · obtain ⟨v, z, m, rfl, hb, nd, m0, m1, hl, q⟩ := h
    have zl : z.length = z.cps.toList.length := (Array.length_toList).symm
    refine ⟨_, (pss_cons (ps_set (i := 3) sc__law_picked.nd rfl (by first | exact Or.inl rfl | exact Or.inr rfl) (pe_callTy cr_listS (by rfl) T.b_list (by decide +kernel) (pa_cons (pv 1) pa_nil))) (pss_one (ps_ret (pe_lc (own := [("_law_turn", 4)]) (g := gName 4) (tt := tYes) rfl sc__law_picked.nd (pi_range1 (by rfl) T.b_range (pa_cons (pv 2) pa_nil)) (blkOk_by (own := [("_law_turn", 4)]) (N := ["_law_box", "_law_signs", "_law_many", "_law_left", "_law_turn"]) (sc := defScope s__law_picked) (by decide +kernel)) (fun _ _ _ _ _ => (pg_name (i := 4) sc__law_picked.nd rfl (by first | exact Or.inl rfl | exact Or.inr rfl))) (fun _ _ _ _ _ => pts_nil) (fun _ _ _ _ _ => (pe_bmK K PySem.F.plainAttrs_list PySem.F.slot_list_pop PySem.F.type_list_pop mt_popAtN (pv 3) (pa_cons (pe_cl o__law_take hr (by rfl) (pa_cons (pv 0) (pa_cons (pe_callB (cr_len K) (by rfl) T.b_len (by decide +kernel) (pa_cons (pv 3) pa_nil)) pa_nil))) pa_nil))))))), ?_⟩
    walk_at "r"
    refine ⟨z, rfl, by omega, fun p H1 n1 s1 e1 => ?_⟩
    generalize z.cps.toList = l at *
    walk_at "r"
    refine c_range1G m0 (by omega) (fun D i H' => ∃ u r, (u ++ r).Perm l ∧ u.length = i ∧ Same H H' ∧ H' p = some (.lst (signsV r)) ∧ H' D = some (.lst (signsV u))) (fun D H2 nD s2 e2 => ⟨[], l, List.Perm.refl _, rfl, s1.trans s2, s2 _ _ e1, e2⟩) ?_ ?_
    · rintro D i H' hi nD ⟨u, r, pm, hu, s2, e2, e3⟩
      have hlen : u.length + r.length = l.length := by
        have := pm.length_eq
        rw [List.length_append] at this
        exact this
      have dp : p ≠ D := ne_of_none e1 nD
      walk_at "r"
      refine ⟨rfl, ?_⟩
      walk_at "r"
      rw [signsV_len]
      refine use_take (same_box s2 hb) (by omega) (by omega) fun j H3 hj s3 => ?_
      walk_at "r"
      obtain ⟨c, hc⟩ : ∃ c, r[j]? = some c := ⟨r[j], List.getElem?_eq_getElem (by omega)⟩
      refine r_popAt (s3 _ _ e2) rfl (by rw [signsV_len]; omega) (signsV_at hc) fun H4 k4 e4 => ?_
      refine ⟨_, k4 _ _ dp.symm (s3 _ _ e3), by rw [signsV_len]; exact lt_size (by omega), u ++ [c], r.eraseIdx j, perm_pick pm hc, by rw [List.length_append]; simp [hu], ?_, ?_, ?_⟩
      · exact (but_upd (o := .lst (signsV u ++ [.str (sing c)]))).same (k4.same (s2.trans s3) n1) (s1.free nD)
      · rw [upd_ne dp, e4]
        unfold signsV
        rw [erase_map]
      · rw [upd_same]
        unfold signsV
        rw [List.map_append]
        rfl
    · rintro D H' nD ⟨u, r, pm, hu, s2, e2, e3⟩
      refine q D u H' (s1.free nD) s2 e3 (by omega) ?_ ?_
      · exact (List.nodup_append.mp (pm.nodup_iff.mpr nd)).1
      · exact fun c hc => pm.subset (List.mem_append_left _ hc)

/-- signs to draw from -/
structure Alpha (z : Str) : Prop where
  nd : z.cps.toList.Nodup
  ok : ∀ c ∈ z.cps.toList, 32 ≤ c ∧ c ≤ 126
  len : 26 ≤ z.cps.toList.length
  most : z.cps.toList.length ≤ 1000
theorem alpha_A : Alpha (Str.ofString "abcdefghijklmnopqrstuvwxyz .,") := ⟨by decide +kernel, by decide +kernel, by decide +kernel, by decide +kernel⟩
theorem alpha_B : Alpha (Str.ofString "0123456789abcdefgh!?-+ .,:/()xyz") := ⟨by decide +kernel, by decide +kernel, by decide +kernel, by decide +kernel⟩
theorem alpha_E : Alpha (Str.ofString " !\"#$&'()*+,-./0123456789:;<=>?@ABCDEFGHIJKLMNOPQRSTUVWXYZ[\\]^_`" ++ Str.ofString "abcdefghijklmnopqrstuvwxyz{|}~") := ⟨by decide +kernel, by decide +kernel, by decide +kernel, by decide +kernel⟩
theorem inV_signs (c : Nat) (l : List Nat) : inV (.str (sing c)) (signsV l) = decide (c ∈ l) := by
  unfold inV signsV
  rw [List.any_map]
  induction l with
  | nil => rfl
  | cons a r ih =>
    rw [List.any_cons, ih]
    show (sing a == sing c || _) = _
    by_cases e : a = c
    · subst e
      simp
    · have h : (sing a == sing c) = false := by simpa using fun z => e (sing_inj z)
      rw [h, Bool.false_or]
      by_cases h2 : c ∈ r
      · rw [decide_eq_true h2, decide_eq_true (List.mem_cons_of_mem _ h2)]
      · rw [decide_eq_false h2, decide_eq_false fun z => by
          rcases List.mem_cons.mp z with z | z
          · exact e z.symm
          · exact h2 z]
theorem flat_signs (l : List Nat) : (signsV l).all flatV = true := by
  unfold signsV
  rw [List.all_map]
  exact List.all_eq_true.mpr fun _ _ => rfl
theorem signsV_strs (l : List Nat) : signsV l = (l.map fun c => mkS [c]).map V.str := by
  unfold signsV
  rw [List.map_map]
  rfl
theorem nodup_set {l : List Nat} (nd : l.Nodup) {i c : Nat} (h : c ∉ l) : (l.set i c).Nodup := by
  induction l generalizing i with
  | nil => simpa using nd
  | cons a r ih =>
    obtain ⟨na, nr⟩ := List.nodup_cons.mp nd
    have hc : c ∉ r := fun z => h (List.mem_cons_of_mem _ z)
    cases i with
    | zero => exact List.nodup_cons.mpr ⟨hc, nr⟩
    | succ i =>
      refine List.nodup_cons.mpr ⟨fun z => ?_, ih nr hc⟩
      rcases List.mem_or_eq_of_mem_set z with z | z
      · exact na z
      · exact h (z ▸ List.mem_cons_self)
theorem pick2 {x y : V} {j : Nat} (h : j < 2) {Pd : V → Prop} (px : Pd x) (py : Pd y) : ∃ z, atI [x, y] (j : Int) = some z ∧ Pd z := by
  match j, h with
  | 0, _ => exact ⟨x, rfl, px⟩
  | 1, _ => exact ⟨y, rfl, py⟩
def spSheet : Sp := fun vs H Q _ => ∃ (v : V) (m : Int), vs = [v, .int m] ∧ Box H v ∧ 1 ≤ m ∧ m ≤ 26 ∧ ∀ u sh H', Same H H' → IsSh H' u sh → sh.Ok → (sh.n : Int) ≤ m → Q u H'
theorem use_sheet {H : Hp} {Q : VK} {E : XK} {v : V} {m : Int} (h : Box H v) (h1 : 1 ≤ m) (h2 : m ≤ 26) (q : ∀ u sh H', Same H H' → IsSh H' u sh → sh.Ok → (sh.n : Int) ≤ m → Q u H') : spSheet [v, .int m] H Q E := ⟨v, m, rfl, h, h1, h2, q⟩
theorem ok__law_sheet {k : Nat} (T : TX mg) (F : Df K mg "_law_sheet" s__law_sheet ["_law_box", "_law_most"]) (o__law_take : OkAt P w K mg base "_law_take" k ["_law_box", "_law_many"] spTake)
    (o__law_picked : OkAt P w K mg base "_law_picked" k ["_law_box", "_law_signs", "_law_many"] spPicked) : OkAt P w K mg base "_law_sheet" (k + 1) ["_law_box", "_law_most"] spSheet := by
  refine F.ok sc__law_sheet (fun vs H Q E h => ?_) (fun f cdv A outer s H vs Q E hr h => ?_)
  · obtain ⟨v, m, rfl, _⟩ := h
    rfl
  · obtain ⟨v, m, rfl, hb, m1, m2, q⟩ := h
    refine ⟨_, (pss_cons (ps_set (i := 2) sc__law_sheet.nd rfl (by first | exact Or.inl rfl | exact Or.inr rfl) (pe_op (op_uAdd K) pe_int (pe_cl o__law_take hr (by rfl) (pa_cons (pv 0) (pa_cons (pv 1) pa_nil))))) (pss_cons (ps_set (i := 3) sc__law_sheet.nd rfl (by first | exact Or.inl rfl | exact Or.inr rfl) pe_str) (pss_cons (ps_set (i := 3) sc__law_sheet.nd rfl (by first | exact Or.inl rfl | exact Or.inr rfl) (pe_op (op_uAdd K) (pv 3) pe_str)) (pss_cons (ps_set (i := 4) sc__law_sheet.nd rfl (by first | exact Or.inl rfl | exact Or.inr rfl) (pe_op op_uFdiv (pe_cl o__law_take hr (by rfl) (pa_cons (pv 0) (pa_cons pe_int pa_nil))) pe_int)) (pss_cons (ps_set (i := 5) sc__law_sheet.nd rfl (by first | exact Or.inl rfl | exact Or.inr rfl) (pe_cl o__law_picked hr (by rfl) (pa_cons (pv 0) (pa_cons (pe_ix (ix_u K) (pe_lstN (pa_cons pe_str (pa_cons (pv 3) pa_nil))) (pv 4) (fun _ _ => rfl)) (pa_cons (pv 2) pa_nil))))) (pss_cons (ps_set (i := 6) sc__law_sheet.nd rfl (by first | exact Or.inl rfl | exact Or.inr rfl) (pe_cl o__law_picked hr (by rfl) (pa_cons (pv 0) (pa_cons (pe_ix (ix_u K) (pe_lstN (pa_cons pe_str (pa_cons (pv 3) pa_nil))) (pv 4) (fun _ _ => rfl)) (pa_cons (pv 2) pa_nil))))) (pss_cons (ps_for PassesOwn.never rfl (pi_range1 (by rfl) T.b_range (pa_cons (pv 2) pa_nil)) (pg_name (i := 7) sc__law_sheet.nd rfl (by first | exact Or.inl rfl | exact Or.inr rfl)) (pss_one (ps_if (PW.pt (pw_and (pt_cmpR (op_uEq K hr.units) (pe_cl o__law_take hr (by rfl) (pa_cons (pv 0) (pa_cons pe_int pa_nil))) pe_int (nomark _)) (pw_and1 (pt_cmpR (op_uNi K) (pe_ix (ix_u K) (pv 5) (pv 7) (fun _ _ => rfl)) (pv 6) (by rfl))))) (pss_one (ps_asg (pe_ix (ix_u K) (pv 5) (pv 7) (fun _ _ => rfl)) (pg_sub (pv 6) (pv 7) set_u))) pss_nil))) (pss_cons (ps_set (i := 8) sc__law_sheet.nd rfl (by first | exact Or.inl rfl | exact Or.inr rfl) (pe_ix (ix_u K) (pe_lstN (pa_cons pe_non (pa_cons (pe_cl o__law_take hr (by rfl) (pa_cons (pv 0) (pa_cons (pv 2) pa_nil))) pa_nil))) (pe_cl o__law_take hr (by rfl) (pa_cons (pv 0) (pa_cons pe_int pa_nil))) (fun _ _ => rfl))) (pss_one (ps_ret (pe_tupN (pa_cons (pe_bmK K PySem.F.plainAttrs_str PySem.F.slot_str_join PySem.F.type_str_join (mt_joinN K) pe_str (pa_cons (pv 5) pa_nil)) (pa_cons (pe_bmK K PySem.F.plainAttrs_str PySem.F.slot_str_join PySem.F.type_str_join (mt_joinN K) pe_str (pa_cons (pv 6) pa_nil)) (pa_cons (pv 8) pa_nil)))))))))))))), ?_⟩
    walk_at "r"
    refine use_take hb (by omega) (by omega) fun r1 H1 hr1 s1 => ?_
    walk_at "r"
    refine r_addS (le_size (by decide +kernel)) ?_
    walk_at "r"
    refine use_take (same_box s1 hb) (by decide) (by decide) fun r2 H2 hr2 s2 => ?_
    walk_at "r"
    refine r_fdivI (cdiv_of (by decide) (by decide)) ?_
    walk_at "r"
    intro p1 H3 n1 s3 e3
    walk_at "r"
    have s123 := (s1.trans s2).trans s3
    obtain ⟨j, hj, j2⟩ : ∃ j : Nat, (r2 : Int) / 3 = (j : Int) ∧ j < 2 := ⟨r2 / 3, by omega, by omega⟩
    rw [hj]
    obtain ⟨zA, hA, ⟨zA, rfl, alA⟩⟩ := pick2 (Pd := fun x => ∃ z, x = .str z ∧ Alpha z) j2 ⟨_, rfl, alpha_A⟩ ⟨_, rfl, alpha_E⟩
    refine r_ixL e3 hA ?_
    walk_at "r"
    have lA := alA.len
    refine use_picked (same_box s123 hb) alA.nd (by omega) (by omega) alA.most fun pz z0 H4 n4 s4 e4 len0 nd0 in0 => ?_
    walk_at "r"
    intro p2 H5 n5 s5 e5
    walk_at "r"
    obtain ⟨zB, hB, ⟨zB, rfl, alB⟩⟩ := pick2 (Pd := fun x => ∃ z, x = .str z ∧ Alpha z) j2 ⟨_, rfl, alpha_B⟩ ⟨_, rfl, alpha_E⟩
    refine r_ixL e5 hB ?_
    walk_at "r"
    have s15 := (s123.trans s4).trans s5
    have lB := alB.len
    refine use_picked (same_box s15 hb) alB.nd (by omega) (by omega) alB.most fun po o0 H6 n6 s6 e6 len1 nd1 in1 => ?_
    walk_at "r"
    have ez := s6 _ _ (s5 _ _ e4)
    have nz : H pz = none := s123.free n4
    have no : H po = none := s15.free n6
    have dzo : pz ≠ po := ne_of_none (s5 _ _ e4) n6
    refine f_range1 (by omega) (by omega) (fun i σ H' => ∃ y3 y4 y7 l, σ = [some v, some (.int m), some (.int (1 + (r1 : Int))), y3, y4, some (.ref pz), some (.ref po), y7, none] ∧ Same H H' ∧
      H' pz = some (.lst (signsV z0)) ∧ H' po = some (.lst (signsV l)) ∧ l.length = z0.length ∧ l.Nodup ∧ ∀ c ∈ l, 32 ≤ c ∧ c ≤ 126)
      ⟨_, _, _, o0, rfl, s15.trans s6, ez, e6, by omega, nd1, fun c hc => alB.ok c (in1 c hc)⟩ ?_ ?_
    · rintro i σ H' hi ⟨y3, y4, y7, l, rfl, s, g1, g2, ll, nd, ok⟩
      walk_at "r"
      refine use_take (same_box s hb) (by decide) (by decide) fun r3 H7 _ s7 => ?_
      walk_at "r"
      have g1' := s7 _ _ g1
      have g2' := s7 _ _ g2
      obtain ⟨c, hc⟩ : ∃ c, z0[i]? = some c := ⟨z0[i], List.getElem?_eq_getElem (by omega)⟩
      have cok := alA.ok c (in0 c (List.mem_of_getElem? hc))
      refine w_dec (fun _ => ?_) (fun _ => ?_)
      · walk_at "r"
        refine r_ixL g1' (atI_nat (signsV_at hc)) ?_
        walk_at "r"
        refine r_niL g2' rfl (flat_signs l) ?_
        rw [inV_signs]
        walk_at "r"
        refine w_nd (fun h => ?_) (fun _ => ?_)
        · walk_at "r"
          refine r_ixL g1' (atI_nat (signsV_at hc)) ?_
          walk_at "r"
          refine r_setL g2' (ixN_nat (by rw [signsV_len]; omega)) fun H8 k8 e8 => ?_
          refine ⟨_, _, _, l.set i c, rfl, k8.same (s.trans s7) no, k8 _ _ dzo g1', ?_, by rw [List.length_set]; exact ll, nodup_set nd h, fun d hd => ?_⟩
          · rw [e8]
            unfold signsV
            rw [List.map_set]
          · rcases List.mem_or_eq_of_mem_set hd with z | z
            · exact ok d z
            · exact z ▸ cok
        · walk_at "r"
          exact ⟨_, _, _, l, rfl, s.trans s7, g1', g2', ll, nd, ok⟩
      · walk_at "r"
        exact ⟨_, _, _, l, rfl, s.trans s7, g1', g2', ll, nd, ok⟩
    · rintro σ H' ⟨y3, y4, y7, l, rfl, s, g1, g2, ll, nd, ok⟩
      walk_at "r"
      refine use_take (same_box s hb) (by omega) (by omega) fun rh H7 hrh s7 => ?_
      walk_at "r"
      intro p8 H8 n8 s8 e8
      walk_at "r"
      have s78 := (s.trans s7).trans s8
      refine use_take (same_box s78 hb) (by decide) (by decide) fun r9 H9 h9 s9 => ?_
      obtain ⟨x, hx, ⟨o, rfl, ho⟩⟩ := pick2 (Pd := fun x => ∃ o : Option Nat, x = hV o ∧ ∀ h, o = some h → h < z0.length) (j := r9) (by omega) ⟨none, rfl, fun h z => nomatch z⟩ ⟨some rh, rfl, fun h z => by
        have := Option.some.inj z
        omega⟩
      refine r_ixL (s9 _ _ e8) hx ?_
      walk_at "r"
      have s79 := (s7.trans s8).trans s9
      have h26 : z0.length ≤ 26 := by omega
      refine r_join (ys := z0.map fun c => mkS [c]) (by rw [← signsV_strs]; exact s79 _ _ g1) (join_size _ (by omega)) ?_
      rw [join_signs]
      walk_at "r"
      refine r_join (ys := l.map fun c => mkS [c]) (by rw [← signsV_strs]; exact s79 _ _ g2) (join_size _ (by omega)) ?_
      rw [join_signs]
      walk_at "r"
      intro pr Hr nr sr er
      refine q _ ⟨z0, l, o⟩ Hr ((s.trans s79).trans sr) ⟨pr, rfl, er⟩ ⟨ll, ?_, h26, nd0, nd, fun c hc => alA.ok c (in0 c hc), ok, ho⟩ ?_
      · show 1 ≤ z0.length
        omega
      · show (z0.length : Int) ≤ m
        omega

/-! ### data as the asker compares it -/
mutual
inductive Da (H : Hp) : V → PyData → Prop
  | non : Da H .non .none
  | bl (b : Bool) : Da H (.bl b) (.bool b)
  | int (i : Int) : Da H (.int i) (.int i)
  | str (x : Str) : Da H (.str x) (.str x)
  | lst {a : Addr} {xs : List V} {ds : List PyData} : H a = some (.lst xs) → DaAll H xs ds → Da H (.ref a) (.list ds)
  | tup {a : Addr} {xs : List V} {ds : List PyData} : H a = some (.tup xs) → DaAll H xs ds → Da H (.ref a) (.tuple ds)
inductive DaAll (H : Hp) : List V → List PyData → Prop
  | nil : DaAll H [] []
  | cons {v : V} {vs : List V} {d : PyData} {ds : List PyData} : Da H v d → DaAll H vs ds → DaAll H (v :: vs) (d :: ds)
end
mutual
theorem same_da {H H' : Hp} (e : Same H H') : ∀ (d : PyData) (v : V), Da H v d → Da H' v d
  | .none, _, h => by cases h; exact .non
  | .bool b, _, h => by cases h; exact .bl b
  | .int i, _, h => by cases h; exact .int i
  | .str s, _, h => by cases h; exact .str s
  | .list ds, _, h => by
    cases h with
    | lst hl ha => exact .lst (e _ _ hl) (same_daAll e ds _ ha)
  | .tuple ds, _, h => by
    cases h with
    | tup hl ha => exact .tup (e _ _ hl) (same_daAll e ds _ ha)
  | .dict _, _, h => by cases h
theorem same_daAll {H H' : Hp} (e : Same H H') : ∀ (ds : List PyData) (vs : List V), DaAll H vs ds → DaAll H' vs ds
  | [], _, h => by cases h; exact .nil
  | d :: ds, _, h => by
    cases h with
    | cons h1 h2 => exact .cons (same_da e d _ h1) (same_daAll e ds _ h2)
end
theorem daAll_len {H : Hp} : ∀ {vs : List V} {ds : List PyData}, DaAll H vs ds → vs.length = ds.length
  | _, _, .nil => rfl
  | _, _, .cons _ h => congrArg (· + 1) (daAll_len h)
theorem daAll_at {H : Hp} : ∀ {vs : List V} {ds : List PyData} (_ : DaAll H vs ds) (i : Nat) (d : PyData), ds[i]? = some d → ∃ v, vs[i]? = some v ∧ Da H v d
  | _, _, .nil, i, d, h => by simp at h
  | _, _, .cons h1 _, 0, d, h => by
    simp at h
    subst h
    exact ⟨_, rfl, h1⟩
  | _, _, .cons _ t, i + 1, d, h => by
    obtain ⟨v, e, q⟩ := daAll_at t i d (by simpa using h)
    exact ⟨v, by simpa using e, q⟩
def tyN : PyData → String
  | .none => "NoneType"
  | .bool _ => "bool"
  | .int _ => "int"
  | .str _ => "str"
  | .list _ => "list"
  | .tuple _ => "tuple"
  | .dict _ => "dict"
theorem da_ty {K : PySem.W.Frag} {H : Hp} {v : V} {d : PyData} (h : Da H v d) : TyX K H v (.type (tyN d)) := by
  cases h with
  | non => exact .base .non
  | bl b => exact .base (.bl b)
  | int i => exact .base (.int i)
  | str x => exact .base (.str x)
  | lst e _ => exact .base (.lst e)
  | tup e _ => exact .base (.tup e)
theorem r_isi {K : PySem.W.Frag} {H : Hp} {Q : VK} {v : V} {d : PyData} {T : String} {r : Bool} (h : Da H v d) (e : kitB (tyN d) T = some r) (q : Q (.bl r) H) : bIsi K [v, .ty T] H Q :=
  ⟨v, .ty T, _, _, r, rfl, .ty T, da_ty h, kit_ty e, q⟩
theorem kb_none : kitB "NoneType" "bool" = some false ∧ kitB "NoneType" "int" = some false ∧ kitB "NoneType" "str" = some false ∧ kitB "NoneType" "list" = some false ∧ kitB "NoneType" "tuple" = some false := ⟨by decide +kernel, by decide +kernel, by decide +kernel, by decide +kernel, by decide +kernel⟩
theorem kb_bool : kitB "bool" "bool" = some true := by decide +kernel
theorem kb_int : kitB "int" "bool" = some false ∧ kitB "int" "int" = some true := ⟨by decide +kernel, by decide +kernel⟩
theorem kb_str : kitB "str" "bool" = some false ∧ kitB "str" "int" = some false ∧ kitB "str" "str" = some true := ⟨by decide +kernel, by decide +kernel, by decide +kernel⟩
theorem kb_list : kitB "list" "bool" = some false ∧ kitB "list" "int" = some false ∧ kitB "list" "str" = some false ∧ kitB "list" "list" = some true ∧ kitB "list" "tuple" = some false := ⟨by decide +kernel, by decide +kernel, by decide +kernel, by decide +kernel, by decide +kernel⟩
theorem kb_tuple : kitB "tuple" "bool" = some false ∧ kitB "tuple" "int" = some false ∧ kitB "tuple" "str" = some false ∧ kitB "tuple" "list" = some false ∧ kitB "tuple" "tuple" = some true := ⟨by decide +kernel, by decide +kernel, by decide +kernel, by decide +kernel, by decide +kernel⟩
def dLess : Nat → PyData → Prop
  | 0, _ => False
  | n + 1, .list ds => ds.length ≤ 100000 ∧ ∀ d ∈ ds, dLess n d
  | n + 1, .tuple ds => ds.length ≤ 100000 ∧ ∀ d ∈ ds, dLess n d
  | _ + 1, .dict _ => False
  | _ + 1, _ => True
def spAlike (n : Nat) : Sp := fun vs H Q _ => ∃ (x y : V) (d : PyData), vs = [x, y] ∧ Da H x d ∧ Da H y d ∧ dLess n d ∧ Q (.bl true) H
theorem use_alike {n : Nat} {H : Hp} {Q : VK} {E : XK} {x y : V} {d : PyData} (h1 : Da H x d) (h2 : Da H y d) (h : dLess n d) (q : Q (.bl true) H) : spAlike n [x, y] H Q E := ⟨x, y, d, rfl, h1, h2, h, q⟩
theorem Df.triv {K : PySem.W.Frag} {mg : Str → Option Value} {x : Str} {st : Stmt} {ps : List Str} (F : Df K mg x st ps) {P : Program} {w : World} {base : Heap} {k : Nat} {sp : Sp} (h : ∀ vs H Q E, ¬ sp vs H Q E) : OkAt P w K mg base x k ps sp := by
  obtain ⟨f, fd, F, b, m⟩ := F.ex
  exact ⟨f, fd, ⟨fun vs H Q E z => absurd z (h vs H Q E), fun _ _ _ _ _ _ _ _ _ _ _ _ _ z => absurd z (h _ _ _ _)⟩, b, m, F.kp⟩
theorem ok__law_alike (T : TX mg) (F : Df K mg "_law_alike" s__law_alike ["_law_found", "_law_due"]) : ∀ n : Nat, OkAt P w K mg base "_law_alike" n ["_law_found", "_law_due"] (spAlike n)
  | 0 => F.triv fun vs H Q E z => by
    obtain ⟨_, _, _, _, _, _, z, _⟩ := z
    exact z
  | k + 1 => by
    have o__law_alike := ok__law_alike T F k
    refine F.ok sc__law_alike (fun vs H Q E h => ?_) (fun f cdv A outer s H vs Q E hr h => ?_)
    · obtain ⟨x, y, d, rfl, _⟩ := h
      rfl
    · obtain ⟨x, y, d, rfl, hx, hy, hd, q⟩ := h
      refine ⟨_, (pss_cons (ps_if (pt_cmpR op_uIsN (pv 1) pe_non (nomark _)) (pss_one (ps_ret (pe_cmpR op_uIsN (pv 0) pe_non (nomark _)))) pss_nil) (pss_cons (ps_if (pt_val (pe_callB (cr_isi K) (by rfl) T.b_isinstance (by decide +kernel) (pa_cons (pv 1) (pa_cons (pe_bltn (v := .ty "bool") (by rfl) T.b_bool (by decide +kernel) rfl) pa_nil)))) (pss_one (ps_ret (pe_and (pe_callB (cr_isi K) (by rfl) T.b_isinstance (by decide +kernel) (pa_cons (pv 0) (pa_cons (pe_bltn (v := .ty "bool") (by rfl) T.b_bool (by decide +kernel) rfl) pa_nil))) (pe_one (pe_cmpR (op_uEq K hr.units) (pv 0) (pv 1) (nomark _)))))) pss_nil) (pss_cons (ps_if (pt_val (pe_callB (cr_isi K) (by rfl) T.b_isinstance (by decide +kernel) (pa_cons (pv 1) (pa_cons (pe_bltn (v := .ty "int") (by rfl) T.b_int (by decide +kernel) rfl) pa_nil)))) (pss_one (ps_ret (pe_and (pe_callB (cr_isi K) (by rfl) T.b_isinstance (by decide +kernel) (pa_cons (pv 0) (pa_cons (pe_bltn (v := .ty "int") (by rfl) T.b_int (by decide +kernel) rfl) pa_nil))) (pe_and (pe_not (pe_callB (cr_isi K) (by rfl) T.b_isinstance (by decide +kernel) (pa_cons (pv 0) (pa_cons (pe_bltn (v := .ty "bool") (by rfl) T.b_bool (by decide +kernel) rfl) pa_nil)))) (pe_one (pe_cmpR (op_uEq K hr.units) (pv 0) (pv 1) (nomark _))))))) pss_nil) (pss_cons (ps_if (pt_val (pe_callB (cr_isi K) (by rfl) T.b_isinstance (by decide +kernel) (pa_cons (pv 1) (pa_cons (pe_bltn (v := .ty "str") (by rfl) T.b_str (by decide +kernel) rfl) pa_nil)))) (pss_one (ps_ret (pe_and (pe_callB (cr_isi K) (by rfl) T.b_isinstance (by decide +kernel) (pa_cons (pv 0) (pa_cons (pe_bltn (v := .ty "str") (by rfl) T.b_str (by decide +kernel) rfl) pa_nil))) (pe_one (pe_cmpR (op_uEq K hr.units) (pv 0) (pv 1) (nomark _)))))) pss_nil) (pss_cons (ps_if (PW.pt (pw_or (pt_cmpR (op_uNe K hr.units) (pe_callB (cr_isi K) (by rfl) T.b_isinstance (by decide +kernel) (pa_cons (pv 1) (pa_cons (pe_bltn (v := .ty "tuple") (by rfl) T.b_tuple (by decide +kernel) rfl) pa_nil))) (pe_callB (cr_isi K) (by rfl) T.b_isinstance (by decide +kernel) (pa_cons (pv 0) (pa_cons (pe_bltn (v := .ty "tuple") (by rfl) T.b_tuple (by decide +kernel) rfl) pa_nil))) (nomark _)) (pw_or1 (pt_cmpR (op_uNe K hr.units) (pe_callB (cr_isi K) (by rfl) T.b_isinstance (by decide +kernel) (pa_cons (pv 1) (pa_cons (pe_bltn (v := .ty "list") (by rfl) T.b_list (by decide +kernel) rfl) pa_nil))) (pe_callB (cr_isi K) (by rfl) T.b_isinstance (by decide +kernel) (pa_cons (pv 0) (pa_cons (pe_bltn (v := .ty "list") (by rfl) T.b_list (by decide +kernel) rfl) pa_nil))) (nomark _))))) (pss_one (ps_ret pe_bl)) pss_nil) (pss_cons (ps_if (pt_cmpR (op_uNe K hr.units) (pe_callB (cr_len K) (by rfl) T.b_len (by decide +kernel) (pa_cons (pv 0) pa_nil)) (pe_callB (cr_len K) (by rfl) T.b_len (by decide +kernel) (pa_cons (pv 1) pa_nil)) (nomark _)) (pss_one (ps_ret pe_bl)) pss_nil) (pss_cons (ps_for PassesOwn.never rfl (pi_range1 (by rfl) T.b_range (pa_cons (pe_callB (cr_len K) (by rfl) T.b_len (by decide +kernel) (pa_cons (pv 1) pa_nil)) pa_nil)) (pg_name (i := 2) sc__law_alike.nd rfl (by first | exact Or.inl rfl | exact Or.inr rfl)) (pss_one (ps_if (pt_not (pt_val (pe_cl o__law_alike hr (by rfl) (pa_cons (pe_ix (ix_u K) (pv 0) (pv 2) (fun _ _ => rfl)) (pa_cons (pe_ix (ix_u K) (pv 1) (pv 2) (fun _ _ => rfl)) pa_nil))))) (pss_one (ps_ret pe_bl)) pss_nil))) (pss_one (ps_ret pe_bl))))))))), ?_⟩
      cases d with
      | none =>
        cases hx
        cases hy
        walk_at "r"
        refine w_yes rfl ?_
        walk_at "r"
        rw [decide_eq_true rfl]
        exact q
      | bool b =>
        cases id hx
        cases id hy
        walk_at "r"
        refine w_no (fun z => nomatch z) ?_
        walk_at "r"
        refine r_isi hy kb_bool ?_
        walk_at "r"
        refine r_isi hx kb_bool ?_
        walk_at "r"
        rw [decide_eq_true rfl]
        exact q
      | int i =>
        cases id hx
        cases id hy
        walk_at "r"
        refine w_no (fun z => nomatch z) ?_
        walk_at "r"
        refine r_isi hy kb_int.1 ?_
        walk_at "r"
        refine r_isi hy kb_int.2 ?_
        walk_at "r"
        refine r_isi hx kb_int.2 ?_
        walk_at "r"
        refine r_isi hx kb_int.1 ?_
        walk_at "r"
        rw [decide_eq_true rfl]
        exact q
      | str z =>
        cases id hx
        cases id hy
        walk_at "r"
        refine w_no (fun z => nomatch z) ?_
        walk_at "r"
        refine r_isi hy kb_str.1 ?_
        walk_at "r"
        refine r_isi hy kb_str.2.1 ?_
        walk_at "r"
        refine r_isi hy kb_str.2.2 ?_
        walk_at "r"
        refine r_isi hx kb_str.2.2 ?_
        walk_at "r"
        rw [decide_eq_true rfl]
        exact q
      | dict _ => exact hd.elim
      | list ds =>
        obtain ⟨hlen, hall⟩ := hd
        cases id hx with
        | lst ex ax =>
          rename_i a xs
          cases id hy with
          | lst ey ay =>
            rename_i b ys
            have lx := daAll_len ax
            have ly := daAll_len ay
            walk_at "r"
            refine w_no (fun z => nomatch z) ?_
            walk_at "r"
            refine r_isi hy kb_list.1 ?_
            walk_at "r"
            refine r_isi hy kb_list.2.1 ?_
            walk_at "r"
            refine r_isi hy kb_list.2.2.1 ?_
            walk_at "r"
            refine r_isi hy kb_list.2.2.2.2 ?_
            walk_at "r"
            refine r_isi hx kb_list.2.2.2.2 ?_
            walk_at "r"
            refine w_nno rfl ?_
            walk_at "r"
            refine r_isi hy kb_list.2.2.2.1 ?_
            walk_at "r"
            refine r_isi hx kb_list.2.2.2.1 ?_
            walk_at "r"
            refine w_nno rfl ?_
            walk_at "r"
            refine w_nno (by omega) ?_
            walk_at "r"
            refine f_range1 (by omega) (by omega) (fun i σ H' => ∃ z, σ = [some (.ref a), some (.ref b), z] ∧ H' = H) ⟨none, rfl, rfl⟩ ?_ ?_
            · rintro i σ H' hi ⟨z, rfl, rfl⟩
              have hi2 : i < ds.length := by omega
              obtain ⟨u1, g1, d1⟩ := daAll_at ax i ds[i] (List.getElem?_eq_getElem hi2)
              obtain ⟨u2, g2, d2⟩ := daAll_at ay i ds[i] (List.getElem?_eq_getElem hi2)
              walk_at "r"
              refine r_ixL ex (atI_nat g1) ?_
              walk_at "r"
              refine r_ixL ey (atI_nat g2) ?_
              walk_at "r"
              refine use_alike d1 d2 (hall _ (List.getElem_mem hi2)) ?_
              walk_at "r"
              exact ⟨_, rfl, rfl⟩
            · rintro σ H' ⟨z, rfl, rfl⟩
              walk_at "r"
              exact q
      | tuple ds =>
        obtain ⟨hlen, hall⟩ := hd
        cases id hx with
        | tup ex ax =>
          rename_i a xs
          cases id hy with
          | tup ey ay =>
            rename_i b ys
            have lx := daAll_len ax
            have ly := daAll_len ay
            walk_at "r"
            refine w_no (fun z => nomatch z) ?_
            walk_at "r"
            refine r_isi hy kb_tuple.1 ?_
            walk_at "r"
            refine r_isi hy kb_tuple.2.1 ?_
            walk_at "r"
            refine r_isi hy kb_tuple.2.2.1 ?_
            walk_at "r"
            refine r_isi hy kb_tuple.2.2.2.2 ?_
            walk_at "r"
            refine r_isi hx kb_tuple.2.2.2.2 ?_
            walk_at "r"
            refine w_nno rfl ?_
            walk_at "r"
            refine r_isi hy kb_tuple.2.2.2.1 ?_
            walk_at "r"
            refine r_isi hx kb_tuple.2.2.2.1 ?_
            walk_at "r"
            refine w_nno rfl ?_
            walk_at "r"
            refine w_nno (by omega) ?_
            walk_at "r"
            refine f_range1 (by omega) (by omega) (fun i σ H' => ∃ z, σ = [some (.ref a), some (.ref b), z] ∧ H' = H) ⟨none, rfl, rfl⟩ ?_ ?_
            · rintro i σ H' hi ⟨z, rfl, rfl⟩
              have hi2 : i < ds.length := by omega
              obtain ⟨u1, g1, d1⟩ := daAll_at ax i ds[i] (List.getElem?_eq_getElem hi2)
              obtain ⟨u2, g2, d2⟩ := daAll_at ay i ds[i] (List.getElem?_eq_getElem hi2)
              walk_at "r"
              refine r_ixU ex (atI_nat g1) ?_
              walk_at "r"
              refine r_ixU ey (atI_nat g2) ?_
              walk_at "r"
              refine use_alike d1 d2 (hall _ (List.getElem_mem hi2)) ?_
              walk_at "r"
              exact ⟨_, rfl, rfl⟩
            · rintro σ H' ⟨z, rfl, rfl⟩
              walk_at "r"
              exact q

/-! ### slices -/
theorem cut_to {xs : List V} {k : Nat} : cutV xs none (some (k : Int)) = xs.take k := by
  unfold cutV
  rw [HT.sIx_none, HT.sIx_nat]
  show xs.take (min k xs.length - 0) = _
  rw [Nat.sub_zero, List.take_eq_take_iff]
  omega
theorem cut_from {xs : List V} {k : Nat} : cutV xs (some (k : Int)) none = xs.drop k := by
  unfold cutV
  rw [HT.sIx_none, HT.sIx_nat]
  by_cases h : k ≤ xs.length
  · rw [Nat.min_eq_left h]
    exact List.take_of_length_le (by rw [List.length_drop]; omega)
  · rw [Nat.min_eq_right (by omega), List.drop_of_length_le (Nat.le_refl _), List.drop_of_length_le (by omega)]
    exact List.take_nil
theorem getD_at {l : List Nat} {i : Nat} (h : i < l.length) : l[i]? = some (l.getD i 0) := by
  rw [List.getD_eq_getElem?_getD, List.getElem?_eq_getElem h]
  rfl
theorem pickN {xs : List V} {j : Nat} (h : j < xs.length) {Pd : V → Prop} (a : ∀ x ∈ xs, Pd x) : ∃ z, atI xs (j : Int) = some z ∧ Pd z :=
  ⟨xs[j], atI_nat (List.getElem?_eq_getElem h), a _ (List.getElem_mem h)⟩
theorem pick_nat {ns : List Nat} {m j : Nat} (h : j < ns.length) (a : ∀ n ∈ ns, n ≤ m) : ∃ n : Nat, atI (ns.map fun n => V.int (n : Nat)) (j : Int) = some (.int (n : Nat)) ∧ n ≤ m :=
  ⟨ns[j], atI_nat (by rw [List.getElem?_map, List.getElem?_eq_getElem h]; rfl), a _ (List.getElem_mem h)⟩
theorem setV_of {r : Nat} (h : (r : Int) < 2) : ∃ b : Bool, V.int (r : Int) = setV b := by
  by_cases e : r = 1
  · exact ⟨true, by rw [e]; rfl⟩
  · exact ⟨false, by rw [show r = 0 by omega]; rfl⟩
/-- texts -/
def strsV (l : List (List Nat)) : List V := l.map fun x => V.str (mkS x)
theorem strsV_at {l : List (List Nat)} {i : Nat} {x : List Nat} (h : l[i]? = some x) : (strsV l)[i]? = some (.str (mkS x)) := by
  unfold strsV
  rw [List.getElem?_map, h]
  rfl
theorem strsV_len (l : List (List Nat)) : (strsV l).length = l.length := List.length_map _
theorem tapeV_get {t : List Nat} {i c : Nat} (h : t[i]? = some c) : (tapeV t)[i]? = some (.int (c : Nat)) := by
  unfold tapeV
  rw [List.getElem?_map, h]
  rfl
theorem cutS_from {l : List Nat} {k : Nat} : cutS (mkS l) (some (k : Int)) none = mkS (l.drop k) := by
  unfold cutS
  rw [HT.sIx_none, HT.sIx_nat, len_mkS]
  refine congrArg (fun x : List Nat => mkS x) ?_
  show (l.drop (min k l.length)).take (l.length - min k l.length) = _
  by_cases h : k ≤ l.length
  · rw [Nat.min_eq_left h]
    exact List.take_of_length_le (by rw [List.length_drop]; omega)
  · rw [Nat.min_eq_right (by omega), List.drop_of_length_le (Nat.le_refl _), List.drop_of_length_le (by omega)]
    exact List.take_nil
theorem cutS_to {l : List Nat} {k : Nat} : cutS (mkS l) none (some (k : Int)) = mkS (l.take k) := by
  unfold cutS
  rw [HT.sIx_none, HT.sIx_nat, len_mkS]
  refine congrArg (fun x : List Nat => mkS x) ?_
  show (l.drop 0).take (min k l.length - 0) = _
  rw [Nat.sub_zero, List.drop_zero, List.take_eq_take_iff]
  omega
/-! ### data that may be compared -/
mutual
theorem da_dp {K : PySem.W.Frag} {H : Hp} : ∀ (d : PyData) (v : V), Da H v d → Dp K H v d
  | .none, _, h => by cases h; exact .non
  | .bool b, _, h => by cases h; exact .bl b
  | .int i, _, h => by cases h; exact .int i
  | .str s, _, h => by cases h; exact .str s
  | .list ds, _, h => by
    cases h with
    | lst hl ha => exact .lst (SqL.of hl) (da_dpAll ds _ ha)
  | .tuple ds, _, h => by
    cases h with
    | tup hl ha => exact .tup (SqT.of hl) (da_dpAll ds _ ha)
  | .dict _, _, h => by cases h
theorem da_dpAll {K : PySem.W.Frag} {H : Hp} : ∀ (ds : List PyData) (vs : List V), DaAll H vs ds → DpAll K H vs ds
  | [], _, h => by cases h; exact .nil
  | d :: ds, _, h => by
    cases h with
    | cons h1 h2 => exact .cons (da_dp d _ h1) (da_dpAll ds _ h2)
end
theorem shaped_all {n : Nat} (hn : n ≤ 60) : ∀ {ds : List PyData}, (∀ d ∈ ds, d.canLay0 = true ∧ d.depth ≤ n) → PyData.canLayAll0 ds = true ∧ PyData.depthAll ds ≤ n
  | [], _ => ⟨rfl, Nat.zero_le _⟩
  | d :: ds, h => by
    obtain ⟨h1, h2⟩ := shaped_all hn (ds := ds) fun d hd => h d (List.mem_cons_of_mem _ hd)
    obtain ⟨h3, h4⟩ := h d List.mem_cons_self
    rw [PyData.canLayAll0, PyData.depthAll, h1, h3]
    exact ⟨rfl, by omega⟩
theorem shaped_list {n : Nat} (hn : n ≤ 60) {ds : List PyData} (h : ∀ d ∈ ds, d.canLay0 = true ∧ d.depth ≤ n) : SeqAt.shaped (.list ds) = true := by
  obtain ⟨h1, h2⟩ := shaped_all hn h
  unfold SeqAt.shaped
  rw [show (PyData.list ds).canLay0 = true from h1, decide_eq_true (show (PyData.list ds).depth ≤ 64 by show PyData.depthAll ds + 1 ≤ 64; omega)]
  rfl
theorem eqv_nil (ds : List PyData) : PyData.eqv (.list ds) (.list []) = decide (ds = []) := by
  rw [PyData.eqv]
  cases ds <;> rfl
theorem r_eqNil {K : PySem.W.Frag} {H : Hp} {Q : VK} {a b : Addr} {xs : List V} {ds : List PyData} {n : Nat} (h1 : H a = some (.lst xs)) (d : DaAll H xs ds) (hn : n ≤ 60) (hd : ∀ d ∈ ds, d.canLay0 = true ∧ d.depth ≤ n) (h2 : H b = some (.lst [])) (q : Q (.bl (decide (ds = []))) H) : uEq K (.ref a) (.ref b) H Q :=
  r_eqD (da_dp (.list ds) _ (.lst h1 d)) (dp_nil h2) (shaped_list hn hd) rfl (by rw [eqv_nil]; exact q)
theorem da_tape {H : Hp} {a : Addr} {t : List Nat} (h : H a = some (.lst (tapeV t))) : Da H (.ref a) (.list (t.map fun c => .int (c : Nat))) := by
  refine .lst h ?_
  clear h
  unfold tapeV
  induction t with
  | nil => exact .nil
  | cons c r ih => exact .cons (.int _) ih
theorem less_tape {n : Nat} {t : List Nat} (h : t.length ≤ 100000) : dLess (n + 2) (.list (t.map fun c => .int (c : Nat))) := by
  refine ⟨by rw [List.length_map]; exact h, fun d hd => ?_⟩
  obtain ⟨c, _, rfl⟩ := List.mem_map.mp hd
  exact True.intro
theorem strsV_app (a b : List (List Nat)) : strsV a ++ strsV b = strsV (a ++ b) := (List.map_append ..).symm
theorem pick_natR {ns : List Nat} {lo m j : Nat} (h : j < ns.length) (a : ∀ n ∈ ns, lo ≤ n ∧ n ≤ m) : ∃ n : Nat, atI (ns.map fun n => V.int (n : Nat)) (j : Int) = some (.int (n : Nat)) ∧ lo ≤ n ∧ n ≤ m :=
  ⟨ns[j], atI_nat (by rw [List.getElem?_map, List.getElem?_eq_getElem h]; rfl), a _ (List.getElem_mem h)⟩
theorem div3 {r : Nat} (h : (r : Int) < 4) : ∃ j : Nat, (r : Int) / 3 = (j : Int) ∧ j < 2 := ⟨r / 3, by omega, by omega⟩
theorem joinL_nil : ∀ l : List (List Nat), TL.joinL [] l = l.flatten
  | [] => rfl
  | [a] => by rw [List.flatten_cons]; exact (List.append_nil _).symm
  | a :: b :: l => by
    rw [List.flatten_cons, ← joinL_nil (b :: l)]
    rfl
theorem join_strs (l : List (List Nat)) : Txt.join (Str.ofString "") (l.map mkS) = mkS l.flatten := by
  refine TL.ext_tl ?_
  rw [TL.join_eq, TL.tl_join, List.map_map]
  show TL.joinL [] (l.map fun x => x) = l.flatten
  rw [List.map_id']
  exact joinL_nil l
theorem strs_size {l : List (List Nat)} (h : l.flatten.length ≤ 100000) : ((l.map mkS).map (·.length)).sum + (l.map mkS).length * (Str.ofString "").length ≤ 16777216 := by
  have z : (Str.ofString "").length = 0 := by decide
  have e : ((l.map mkS).map (·.length)).sum = l.flatten.length := by
    rw [List.map_map, List.length_flatten]
    exact congrArg List.sum (List.map_congr_left fun x _ => len_mkS x)
  rw [z, e]
  omega
theorem strsV_mk (l : List (List Nat)) : strsV l = (l.map mkS).map V.str := by
  unfold strsV
  rw [List.map_map]
  rfl
theorem r_joinS {K : PySem.W.Frag} {H : Hp} {Q : VK} {p : Addr} {l : List (List Nat)} (h : H p = some (.lst (strsV l))) (hl : l.flatten.length ≤ 100000) (q : Q (.str (mkS l.flatten)) H) : mJoin K (.str (Str.ofString "")) [.ref p] H Q := by
  rw [strsV_mk] at h
  refine r_join h (strs_size hl) ?_
  rw [join_strs]
  exact q
theorem mkS_one (a b : Nat) : decide (mkS [a] = mkS [b]) = decide (a = b) := by
  rw [mkS_eq]
  by_cases e : a = b
  · rw [e, decide_eq_true rfl, decide_eq_true rfl]
  · rw [decide_eq_false e, decide_eq_false fun z => e (by injection z)]
theorem sing_ne (a b : Nat) : decide (sing a = sing b) = decide (a = b) := by
  by_cases e : a = b
  · rw [e, decide_eq_true rfl, decide_eq_true rfl]
  · rw [decide_eq_false e, decide_eq_false fun z => e (sing_inj z)]
theorem r_inC {K : PySem.W.Frag} {H : Hp} {Q : VK} {c : Nat} {l : List Nat} (q : Q (.bl (decide (c ∈ l))) H) : uIn K (.str (sing c)) (.str (mkS l)) H Q := r_inS q
theorem r_niC {K : PySem.W.Frag} {H : Hp} {Q : VK} {c : Nat} {l : List Nat} (q : Q (.bl (!decide (c ∈ l))) H) : uNi K (.str (sing c)) (.str (mkS l)) H Q := r_niS q

/-! ### rows of numbers -/
def rowD (q : Nat × Nat) : PyData := .tuple [.int (q.1 : Nat), .int (q.2 : Nat)]
theorem daAll_app {H : Hp} : ∀ {xs ys : List V} {ds es : List PyData}, DaAll H xs ds → DaAll H ys es → DaAll H (xs ++ ys) (ds ++ es)
  | _, _, _, _, .nil, h => h
  | _, _, _, _, .cons h1 h2, h => .cons h1 (daAll_app h2 h)
theorem but_rows {H H' : Hp} {p : Addr} {zs : List V} (b : But p H H') (hp : H p = some (.lst zs)) : ∀ {xs : List V} {l : List (Nat × Nat)}, DaAll H xs (l.map rowD) → DaAll H' xs (l.map rowD)
  | _, [], h => by
    cases h
    exact .nil
  | _, q :: l, h => by
    cases h with
    | cons h1 h2 =>
      cases h1 with
      | tup e a =>
        have ne := ne_of e hp (fun z => nomatch z)
        refine .cons (.tup (b _ _ ne e) ?_) (but_rows b hp h2)
        cases a with
        | cons a1 a2 =>
          cases a1
          cases a2 with
          | cons a3 a4 =>
            cases a3
            cases a4
            exact .cons (.int _) (.cons (.int _) .nil)
theorem range_snoc (n : Nat) (f : Nat → Bool) : (List.range (n + 1)).filter f = (List.range n).filter f ++ (if f n = true then [n] else []) := by
  rw [List.range_succ, List.filter_append]
  congr 1
  rw [List.filter_cons]
  rfl
theorem len_filter_range (n : Nat) (f : Nat → Bool) : ((List.range n).filter f).length ≤ n := by
  have := List.length_filter_le f (List.range n)
  rwa [List.length_range] at this
/-- what a comprehension over a range has so far -/
def fr (P : Nat → Bool) (g : Nat → V) (i : Nat) : List V := ((List.range i).filter P).map g
theorem fr_len (P : Nat → Bool) (g : Nat → V) (i : Nat) : (fr P g i).length ≤ i := by
  unfold fr
  rw [List.length_map]
  exact len_filter_range i P
theorem fr_yes {P : Nat → Bool} {g : Nat → V} {i : Nat} (h : P i = true) : fr P g (i + 1) = fr P g i ++ [g i] := by
  unfold fr
  rw [range_snoc, if_pos h, List.map_append]
  rfl
theorem fr_no {P : Nat → Bool} {g : Nat → V} {i : Nat} (h : P i = false) : fr P g (i + 1) = fr P g i := by
  unfold fr
  rw [range_snoc, if_neg (by rw [h]; decide), List.append_nil]
theorem less_rows {n : Nat} {l : List (Nat × Nat)} (h : l.length ≤ 100000) : dLess (n + 3) (.list (l.map rowD)) := by
  refine ⟨by rw [List.length_map]; exact h, fun d hd => ?_⟩
  obtain ⟨c, _, rfl⟩ := List.mem_map.mp hd
  refine ⟨show 2 ≤ 100000 by decide, fun d hd => ?_⟩
  rcases List.mem_cons.mp hd with z | z
  · rw [z]
    exact True.intro
  · rcases List.mem_cons.mp z with z | z
    · rw [z]
      exact True.intro
    · cases z
theorem fr_get (l : List Nat) (P : Nat → Bool) : fr (fun k => P (l.getD k 0)) (fun k => .int (l.getD k 0 : Nat)) l.length = tapeV (l.filter P) := by
  have e : (List.range l.length).map (fun k => l.getD k 0) = l := by
    refine List.ext_getElem? fun i => ?_
    rw [List.getElem?_map]
    by_cases h : i < l.length
    · rw [List.getElem?_range h, getD_at h]
      rfl
    · rw [List.getElem?_eq_none (by rw [List.length_range]; omega), List.getElem?_eq_none (by omega)]
      rfl
  have e2 : l.filter P = ((List.range l.length).filter (fun k => P (l.getD k 0))).map (fun k => l.getD k 0) := by
    conv => lhs; rw [← e, List.filter_map]
    rfl
  rw [e2]
  unfold fr tapeV
  rw [List.map_map]
  rfl
def selV (P : Nat × Nat → Bool) (xs : List V) (l : List (Nat × Nat)) (i : Nat) : List V := (((xs.zip l).take i).filter fun z => P z.2).map (·.1)
theorem selV_len (P : Nat × Nat → Bool) (xs : List V) (l : List (Nat × Nat)) (i : Nat) : (selV P xs l i).length ≤ i := by
  unfold selV
  rw [List.length_map]
  refine Nat.le_trans (List.length_filter_le _ _) ?_
  rw [List.length_take]
  exact Nat.min_le_left _ _
theorem selV_next {P : Nat × Nat → Bool} {xs : List V} {l : List (Nat × Nat)} {i : Nat} {x : V} {q : Nat × Nat} (h1 : xs[i]? = some x) (h2 : l[i]? = some q) : selV P xs l (i + 1) = selV P xs l i ++ (if P q = true then [x] else []) := by
  unfold selV
  rw [take_snoc (List.getElem?_zip_eq_some.mpr ⟨h1, h2⟩ : (xs.zip l)[i]? = some (x, q)), List.filter_append, List.map_append]
  congr 1
  rw [List.filter_cons]
  show List.map _ (if P q = true then _ else _) = _
  split <;> rfl
theorem selV_da {H : Hp} {P : Nat × Nat → Bool} : ∀ {xs : List V} {l : List (Nat × Nat)}, DaAll H xs (l.map rowD) → DaAll H (((xs.zip l).filter fun z => P z.2).map (·.1)) ((l.filter P).map rowD)
  | _, [], h => by
    cases h
    exact .nil
  | _, q :: l, h => by
    cases h with
    | cons h1 h2 =>
      have ih := selV_da (P := P) h2
      rw [List.zip_cons_cons, List.filter_cons, List.filter_cons]
      dsimp only
      by_cases e : P q = true
      · rw [if_pos e, if_pos e]
        exact .cons h1 ih
      · rw [if_neg e, if_neg e]
        exact ih
theorem rowD_flat {l : List (Nat × Nat)} : ∀ d ∈ l.map rowD, d.canLay0 = true ∧ d.depth ≤ 2 := fun d hd => by
  obtain ⟨q, _, rfl⟩ := List.mem_map.mp hd
  exact ⟨rfl, (by decide : (2 : Nat) ≤ 2) |> fun _ => by
    show PyData.depthAll [.int (q.1 : Nat), .int (q.2 : Nat)] + 1 ≤ 2
    rw [PyData.depthAll, PyData.depthAll, PyData.depthAll]
    show (max 0 (max 0 0)) + 1 ≤ 2
    decide⟩
theorem daRow {H : Hp} {x : V} {q : Nat × Nat} (h : Da H x (rowD q)) : ∃ a, x = .ref a ∧ H a = some (.tup [.int (q.1 : Nat), .int (q.2 : Nat)]) := by
  cases h with
  | tup e a =>
    refine ⟨_, rfl, ?_⟩
    rw [e]
    cases a with
    | cons a1 a2 =>
      cases a1
      cases a2 with
      | cons a3 a4 =>
        cases a3
        cases a4
        rfl
theorem rowAt {H : Hp} {xs : List V} {l : List (Nat × Nat)} (h : DaAll H xs (l.map rowD)) {i : Nat} {x : V} (hx : xs[i]? = some x) : ∃ q a, l[i]? = some q ∧ x = .ref a ∧ H a = some (.tup [.int (q.1 : Nat), .int (q.2 : Nat)]) := by
  have hl := daAll_len h
  have hi := (List.getElem?_eq_some_iff.mp hx).1
  rw [List.length_map] at hl
  obtain ⟨q, hq⟩ : ∃ q, l[i]? = some q := ⟨_, List.getElem?_eq_getElem (by omega)⟩
  obtain ⟨v, e, d⟩ := daAll_at h i (rowD q) (by rw [List.getElem?_map, hq]; rfl)
  obtain ⟨a, e2, ha⟩ := daRow d
  rw [hx] at e
  exact ⟨q, a, hq, by rw [Option.some.inj e]; exact e2, ha⟩

def spShiftTo : Sp := fun vs H Q E => ∃ (v : V) (sh : Sh) (b : Bool), vs = [v, setV b] ∧ (IsSh H v sh) ∧ (sh.Ok) ∧ (Q (.int ((sh.n + b2n b : Nat) : Int)) H)
theorem use_shift_to {H : Hp} {Q : VK} {E : XK} {v : V} {sh : Sh} {b : Bool} (hv : IsSh H v sh) (ok : sh.Ok) (q : Q (.int ((sh.n + b2n b : Nat) : Int)) H) : spShiftTo [v, setV b] H Q E := ⟨v, sh, b, rfl, hv, ok, q⟩

theorem ok_shift_to {k : Nat} (T : TX mg) (F : Df K mg "shift_to" s_shift_to ["sheet", "number"]) : OkAt P w K mg base "shift_to" (k + 1) ["sheet", "number"] spShiftTo := by
  refine F.ok sc_shift_to (fun vs H Q E h => ?_) (fun f cdv A outer s H vs Q E hr h => ?_)
  · obtain ⟨v, sh, b, rfl, _⟩ := h
    rfl
  obtain ⟨v, sh, b, rfl, hv, ok, q⟩ := h
  refine ⟨_, (pss_one (ps_ret (pe_op (op_uAdd K) (pe_callB (cr_len K) (by rfl) T.b_len (by decide +kernel) (pa_cons (pe_ix (ix_u K) (pv 0) pe_int (fun _ _ => rfl)) pa_nil)) (pv 1)))), ?_⟩
  obtain ⟨a, rfl, ha⟩ := id hv
  have h26 := ok.most
  walk_at "r"
  refine r_lenS (by rw [len_mkS]; exact le_size (by omega)) ?_
  rw [len_mkS]
  walk_at "r"
  refine r_addI ?_
  rw [show (sh.zero.length : Int) + ((b2n b : Nat) : Int) = ((sh.n + b2n b : Nat) : Int) by unfold Sh.n; omega]
  exact q
namespace Sh
theorem behind_shift (s : Sh) (b h : Bool) : s.behind (s.n + b2n b) h = b := by
  unfold behind
  rw [if_pos (Nat.le_add_right _ _)]
  cases b
  · exact decide_eq_false (by show ¬ s.n + 0 = s.n + 1; omega)
  · exact decide_eq_true rfl
theorem txt_shift (s : Sh) (t : List Nat) (b h : Bool) : s.txt ((s.n + b2n b) :: t) h = s.txt t b := by
  show (if s.n ≤ s.n + b2n b then [] else _) ++ s.txt t (s.behind _ h) = _
  rw [if_pos (Nat.le_add_right _ _), behind_shift]
  rfl
theorem last_shift (s : Sh) (t : List Nat) (b h : Bool) : s.last ((s.n + b2n b) :: t) h = s.last t b := by
  show s.last t (s.behind _ h) = _
  rw [behind_shift]
end Sh
theorem r_flip {H : Hp} {Q : VK} {b : Bool} (q : Q (setV (!b)) H) : uSub (.int 1) (setV b) H Q := by
  refine ⟨1, (b2n b : Nat), rfl, rfl, ?_⟩
  have e : V.int (1 - ((b2n b : Nat) : Int)) = setV (!b) := by cases b <;> rfl
  show Q (V.int (1 - ((b2n b : Nat) : Int))) H
  rw [e]
  exact q

/-! ### signs and their codes -/
namespace Sh
def code (s : Sh) (c : Nat) (b : Bool) : Option Nat := if c ∈ s.signs b then some ((s.signs b).idxOf c) else none
theorem nd {s : Sh} (ok : s.Ok) (b : Bool) : (s.signs b).Nodup := by
  cases b
  · exact ok.nd0
  · exact ok.nd1
theorem idx_uniq {l : List Nat} (nd : l.Nodup) {i c : Nat} (h : l[i]? = some c) : l.idxOf c = i := by
  obtain ⟨hi, e⟩ := List.getElem?_eq_some_iff.mp h
  rw [← e]
  exact nd.idxOf_getElem i hi
theorem code_at {s : Sh} {c : Nat} {b : Bool} {k : Nat} (h : s.code c b = some k) : (s.signs b)[k]? = some c := by
  unfold code at h
  split at h
  · rename_i hm
    rw [← Option.some.inj h, List.getElem?_eq_getElem (List.idxOf_lt_length_iff.mpr hm), List.getElem_idxOf]
  · cases h
theorem code_lt {s : Sh} (ok : s.Ok) {c : Nat} {b : Bool} {k : Nat} (h : s.code c b = some k) : k < s.n := by
  have := (List.getElem?_eq_some_iff.mp (code_at h)).1
  rwa [signs_len ok] at this
theorem code_sign {s : Sh} {c : Nat} {b : Bool} {k : Nat} (h : s.code c b = some k) : s.sign k b = c := by
  unfold sign
  rw [List.getD_eq_getElem?_getD, code_at h]
  rfl
theorem code_of_at {s : Sh} (ok : s.Ok) {c : Nat} {b : Bool} {k : Nat} (h : (s.signs b)[k]? = some c) : s.code c b = some k := by
  unfold code
  rw [if_pos (List.mem_of_getElem? h), idx_uniq (nd ok b) h]
/-- the signs that may be sent -/
def Can (s : Sh) (x : List Nat) : Prop := ∀ c ∈ x, c ∈ s.zero ∨ c ∈ s.one
theorem can_code {s : Sh} {x : List Nat} (h : s.Can x) {c : Nat} (hc : c ∈ x) (b : Bool) (hn : s.code c b = none) : ∃ k, s.code c (!b) = some k := by
  have hn2 : c ∉ s.signs b := fun z => by
    unfold code at hn
    rw [if_pos z] at hn
    cases hn
  have h2 : c ∈ s.signs (!b) := by
    cases b
    · rcases h c hc with z | z
      · exact absurd z hn2
      · exact z
    · rcases h c hc with z | z
      · exact z
      · exact absurd z hn2
  exact ⟨_, if_pos h2⟩
end Sh
def spCodeOf : Sp := fun vs H Q E => ∃ (v : V) (sh : Sh) (c : Nat) (b : Bool), vs = [v, .str (sing c), setV b] ∧ (IsSh H v sh) ∧ (sh.Ok) ∧ (Q (hV (sh.code c b)) H)
theorem use_code_of {H : Hp} {Q : VK} {E : XK} {v : V} {sh : Sh} {c : Nat} {b : Bool} (hv : IsSh H v sh) (ok : sh.Ok) (q : Q (hV (sh.code c b)) H) : spCodeOf [v, .str (sing c), setV b] H Q E := ⟨v, sh, c, b, rfl, hv, ok, q⟩

theorem ok_code_of {k : Nat} (T : TX mg) (F : Df K mg "code_of" s_code_of ["sheet", "sign", "number"]) : OkAt P w K mg base "code_of" (k + 1) ["sheet", "sign", "number"] spCodeOf := by
  refine F.ok sc_code_of (fun vs H Q E h => ?_) (fun f cdv A outer s H vs Q E hr h => ?_)
  · obtain ⟨v, sh, c, b, rfl, _⟩ := h
    rfl
  obtain ⟨v, sh, c, b, rfl, hv, ok, q⟩ := h
  refine ⟨_, (pss_cons (ps_set (i := 3) sc_code_of.nd rfl (by first | exact Or.inl rfl | exact Or.inr rfl) (pe_ix (ix_u K) (pv 0) (pv 2) (fun _ _ => rfl))) (pss_one (ps_ret (pe_ifExp (pt_cmpR (op_uIn K) (pv 1) (pv 3) (by rfl)) (pe_bmK K PySem.F.plainAttrs_str PySem.F.slot_str_index PySem.F.type_str_index mt_indexN (pv 3) (pa_cons (pv 1) pa_nil)) pe_non)))), ?_⟩
  have h26 := ok.most
  have hl := Sh.signs_len ok b
  walk_at "r"
  refine r_ixSh hv ?_
  walk_at "r"
  refine r_inC ?_
  walk_at "r"
  refine w_dec (fun h => ?_) (fun h => ?_)
  · walk_at "r"
    refine ⟨_, c, rfl, rfl, by rw [tl_mkS]; exact h, fun i hi => ?_⟩
    rw [tl_mkS] at hi
    rw [Sh.code_of_at ok hi] at q
    exact q
  · walk_at "r"
    have e : sh.code c b = none := if_neg h
    rw [e] at q
    exact q
def spNeedText : Sp := fun vs H Q E => ∃ (v : V) (sh : Sh) (x : List Nat), vs = [v, .str (mkS x)] ∧ (IsSh H v sh) ∧ (sh.Ok) ∧ (sh.Can x) ∧ (x.length ≤ 32) ∧ (∀ H', Same H H' → Q .non H')
theorem use_need_text {H : Hp} {Q : VK} {E : XK} {v : V} {sh : Sh} {x : List Nat} (hv : IsSh H v sh) (ok : sh.Ok) (hc : sh.Can x) (hl : x.length ≤ 32) (q : ∀ H', Same H H' → Q .non H') : spNeedText [v, .str (mkS x)] H Q E := ⟨v, sh, x, rfl, hv, ok, hc, hl, q⟩

theorem ok_need_text {k : Nat} (T : TX mg) (F : Df K mg "need_text" s_need_text ["sheet", "text"]) : OkAt P w K mg base "need_text" (k + 1) ["sheet", "text"] spNeedText := by
  refine F.ok sc_need_text (fun vs H Q E h => ?_) (fun f cdv A outer s H vs Q E hr h => ?_)
  · obtain ⟨v, sh, x, rfl, _⟩ := h
    rfl
  obtain ⟨v, sh, x, rfl, hv, ok, hc, hl, q⟩ := h
  refine ⟨_, (pss_one (ps_for PassesOwn.never rfl (pi_enumS (by rfl) T.b_enumerate (pa_cons (pv 1) pa_nil)) (pg_tupK K (n := 2) rfl (pgs_cons (pg_name (i := 2) sc_need_text.nd rfl (by first | exact Or.inl rfl | exact Or.inr rfl)) (pgs_cons (pg_name (i := 3) sc_need_text.nd rfl (by first | exact Or.inl rfl | exact Or.inr rfl)) pgs_nil))) (pss_one (ps_if (PW.pt (pw_or (pt_cmpR op_uGe (pv 2) (pe_gInt (by rfl) T.c_MOST_TEXT) (nomark _)) (pw_or1 (pt_cmpR (op_uNi K) (pv 3) (pe_op (op_uAdd K) (pe_ix (ix_u K) (pv 0) pe_int (fun _ _ => rfl)) (pe_ix (ix_u K) (pv 0) pe_int (fun _ _ => rfl))) (by rfl))))) (pss_one ps_never) pss_nil)))), ?_⟩
  have h26 := ok.most
  have hlo := ok.len
  obtain ⟨a, rfl, ha⟩ := id hv
  walk_at "r"
  refine f_enumS (fun i σ H' => ∃ y z, σ = [some (.ref a), some (.str (mkS x)), y, z] ∧ Same H H') ⟨none, none, rfl, Same.refl _⟩ ?_ ?_
  · rintro i c σ H1 T1 H2 hx ⟨y, z, rfl, s⟩ hT s1 e1
    rw [tl_mkS] at hx
    have hi : i < 32 := Nat.lt_of_lt_of_le (List.getElem?_eq_some_iff.mp hx).1 hl
    have ha2 := s1 _ _ (s _ _ ha)
    walk_at "r"
    refine w_no (by omega) ?_
    walk_at "r"
    refine r_addS (by rw [len_mkS, len_mkS]; exact le_size (by omega)) ?_
    rw [mkS_app]
    walk_at "r"
    refine r_niC ?_
    walk_at "r"
    refine w_nno (List.mem_append.mpr (hc c (List.mem_of_getElem? hx))) ?_
    walk_at "r"
    exact ⟨_, _, rfl, s.trans s1⟩
  · rintro σ H' ⟨y, z, rfl, s⟩
    exact q H' s

/-! ### costs -/
namespace Sh
def stOf (o : Option Nat) (f : Nat → Nat) : Nat := match o with
  | none => 1000000
  | some k => 1 + f k
def cost (s : Sh) : List Nat → Bool → Nat
  | [], _ => 0
  | c :: t, b => min (stOf (s.code c b) fun k => s.cost t (s.behind k b)) (1 + stOf (s.code c (!b)) fun k => s.cost t (s.behind k (!b)))
def st (s : Sh) (c : Nat) (t : List Nat) (b : Bool) : Nat := stOf (s.code c b) fun k => s.cost t (s.behind k b)
theorem cost_cons (s : Sh) (c : Nat) (t : List Nat) (b : Bool) : s.cost (c :: t) b = min (s.st c t b) (1 + s.st c t (!b)) := rfl
theorem st_none {s : Sh} {c : Nat} {t : List Nat} {b : Bool} (h : s.code c b = none) : s.st c t b = 1000000 := by
  unfold st
  rw [h]
  rfl
theorem st_some {s : Sh} {c : Nat} {t : List Nat} {b : Bool} {k : Nat} (h : s.code c b = some k) : s.st c t b = 1 + s.cost t (s.behind k b) := by
  unfold st
  rw [h]
  rfl
theorem cost_le (s : Sh) : ∀ (x : List Nat) (b : Bool), s.Can x → s.cost x b ≤ 2 * x.length
  | [], _, _ => Nat.zero_le _
  | c :: t, b, h => by
    have ht : s.Can t := fun d hd => h d (List.mem_cons_of_mem _ hd)
    rw [cost_cons, List.length_cons]
    cases e : s.code c b with
    | some k =>
      have := cost_le s t (s.behind k b) ht
      rw [st_some e]
      omega
    | none =>
      obtain ⟨k, hk⟩ := can_code h List.mem_cons_self b e
      have := cost_le s t (s.behind k (!b)) ht
      rw [st_some hk]
      omega
theorem cost_top (s : Sh) : ∀ (x : List Nat) (b : Bool), s.cost x b ≤ 1000001 + x.length
  | [], _ => Nat.zero_le _
  | c :: t, b => by
    rw [cost_cons, List.length_cons]
    cases e : s.code c b with
    | some k =>
      have := cost_top s t (s.behind k b)
      rw [st_some e]
      omega
    | none =>
      rw [st_none e]
      omega
/-- for each tail of the text, what is left to send -/
def costs (s : Sh) : List Nat → List (Nat × Nat)
  | [] => [(0, 0)]
  | c :: t => (s.cost (c :: t) false, s.cost (c :: t) true) :: s.costs t
theorem costs_len (s : Sh) : ∀ x : List Nat, (s.costs x).length = x.length + 1
  | [] => rfl
  | c :: t => congrArg (· + 1) (costs_len s t)
theorem costs_at (s : Sh) : ∀ (x : List Nat) (i : Nat), i ≤ x.length → (s.costs x)[i]? = some (s.cost (x.drop i) false, s.cost (x.drop i) true)
  | [], 0, _ => rfl
  | c :: t, 0, _ => rfl
  | c :: t, i + 1, h => costs_at s t i (by simpa using h)
end Sh
def rowGet (q : Nat × Nat) (b : Bool) : Nat := if b then q.2 else q.1
theorem rowGet_cost (s : Sh) (x : List Nat) (b : Bool) : rowGet (s.cost x false, s.cost x true) b = s.cost x b := by cases b <;> rfl
theorem r_ixRow {K : PySem.W.Frag} {H : Hp} {Q : VK} {a : Addr} {q : Nat × Nat} {b : Bool} (h : H a = some (.tup [.int (q.1 : Nat), .int (q.2 : Nat)])) (k : Q (.int (rowGet q b : Nat)) H) : uIx K (.ref a) (setV b) H Q := by
  refine r_ixU h (n := (b2n b : Nat)) ?_ k
  cases b <;> rfl
theorem daRowAt {H : Hp} {xs : List V} {l : List (Nat × Nat)} (h : DaAll H xs (l.map rowD)) {i : Nat} {q : Nat × Nat} (hq : l[i]? = some q) : ∃ a, xs[i]? = some (.ref a) ∧ H a = some (.tup [.int (q.1 : Nat), .int (q.2 : Nat)]) := by
  obtain ⟨v, e, d⟩ := daAll_at h i (rowD q) (by rw [List.getElem?_map, hq]; rfl)
  obtain ⟨a, rfl, ha⟩ := daRow d
  exact ⟨a, e, ha⟩
theorem drop_prev {x : List Nat} {i c : Nat} (h : x[i]? = some c) : x.drop i = c :: x.drop (i + 1) := by
  obtain ⟨hi, e⟩ := List.getElem?_eq_some_iff.mp h
  rw [← e, List.getElem_cons_drop]
theorem bool_of {i : Nat} (h : (i : Int) < 2) : ∃ b : Bool, V.int (i : Int) = setV b ∧ b2n b = i := by
  by_cases e : i = 1
  · exact ⟨true, by rw [e]; rfl, e.symm⟩
  · have : i = 0 := by omega
    exact ⟨false, by rw [this]; rfl, this.symm⟩
def spCostsOf : Sp := fun vs H Q E => ∃ (v : V) (sh : Sh) (x : List Nat), vs = [v, .str (mkS x)] ∧ (IsSh H v sh) ∧ (sh.Ok) ∧ (x.length ≤ 32) ∧ (∀ p xs H', H p = none → Same H H' → H' p = some (.lst xs) → DaAll H' xs ((sh.costs x).map rowD) → Q (.ref p) H')
theorem use_costs_of {H : Hp} {Q : VK} {E : XK} {v : V} {sh : Sh} {x : List Nat} (hv : IsSh H v sh) (ok : sh.Ok) (hl : x.length ≤ 32) (q : ∀ p xs H', H p = none → Same H H' → H' p = some (.lst xs) → DaAll H' xs ((sh.costs x).map rowD) → Q (.ref p) H') : spCostsOf [v, .str (mkS x)] H Q E := ⟨v, sh, x, rfl, hv, ok, hl, q⟩

theorem ok_costs_of {k : Nat} (T : TX mg) (F : Df K mg "costs_of" s_costs_of ["sheet", "text"]) (o_code_of : OkAt P w K mg base "code_of" k ["sheet", "sign", "number"] spCodeOf) (o_set_behind : OkAt P w K mg base "set_behind" k ["sheet", "code", "number"] spSetBehind) : OkAt P w K mg base "costs_of" (k + 1) ["sheet", "text"] spCostsOf := by
  refine F.ok sc_costs_of (fun vs H Q E h => ?_) (fun f cdv A outer s H vs Q E hr h => ?_)
  · obtain ⟨v, sh, x, rfl, _⟩ := h
    rfl
  obtain ⟨v, sh, x, rfl, hv, ok, hl, q⟩ := h
  refine ⟨_, (pss_cons (ps_set (i := 2) sc_costs_of.nd rfl (by first | exact Or.inl rfl | exact Or.inr rfl) (pe_lstN (pa_cons (pe_tupN (pa_cons pe_int (pa_cons pe_int pa_nil))) pa_nil))) (pss_cons (ps_for PassesOwn.never rfl (pi_revS (by rfl) T.b_reversed (pa_cons (pv 1) pa_nil)) (pg_name (i := 3) sc_costs_of.nd rfl (by first | exact Or.inl rfl | exact Or.inr rfl)) (pss_cons (ps_set (i := 4) sc_costs_of.nd rfl (by first | exact Or.inl rfl | exact Or.inr rfl) (pe_lstN pa_nil)) (pss_cons (ps_for PassesOwn.never rfl (pi_range1 (by rfl) T.b_range (pa_cons pe_int pa_nil)) (pg_name (i := 5) sc_costs_of.nd rfl (by first | exact Or.inl rfl | exact Or.inr rfl)) (pss_cons (ps_set (i := 6) sc_costs_of.nd rfl (by first | exact Or.inl rfl | exact Or.inr rfl) (pe_cl o_code_of hr (by rfl) (pa_cons (pv 0) (pa_cons (pv 3) (pa_cons (pv 5) pa_nil))))) (pss_one (ps_expr (pe_bmK K PySem.F.plainAttrs_list PySem.F.slot_list_append PySem.F.type_list_append mt_appendN (pv 4) (pa_cons (pe_ifExp (pt_cmpR op_uIsN (pv 6) pe_non (nomark _)) (pe_gInt (by rfl) T.c_NEVER) (pe_op (op_uAdd K) pe_int (pe_ix (ix_u K) (pe_ix (ix_u K) (pv 2) pe_int (fun _ _ => rfl)) (pe_cl o_set_behind hr (by rfl) (pa_cons (pv 0) (pa_cons (pv 6) (pa_cons (pv 5) pa_nil)))) (fun _ _ => rfl)))) pa_nil)))))) (pss_one (ps_expr (pe_bmK K PySem.F.plainAttrs_list PySem.F.slot_list_insert PySem.F.type_list_insert mt_insertN (pv 2) (pa_cons pe_int (pa_cons (pe_tupN (pa_cons (pe_callB cr_minI (by rfl) T.b_min (by decide +kernel) (pa_cons (pe_ix (ix_u K) (pv 4) pe_int (fun _ _ => rfl)) (pa_cons (pe_op (op_uAdd K) pe_int (pe_ix (ix_u K) (pv 4) pe_int (fun _ _ => rfl))) pa_nil))) (pa_cons (pe_callB cr_minI (by rfl) T.b_min (by decide +kernel) (pa_cons (pe_ix (ix_u K) (pv 4) pe_int (fun _ _ => rfl)) (pa_cons (pe_op (op_uAdd K) pe_int (pe_ix (ix_u K) (pv 4) pe_int (fun _ _ => rfl))) pa_nil))) pa_nil))) pa_nil)))))))) (pss_one (ps_ret (pv 2))))), ?_⟩
  obtain ⟨a, rfl, ha⟩ := id hv
  walk_at "r"
  intro p1 H1 n1 s1 e1
  walk_at "r"
  intro p2 H2 n2 s2 e2
  walk_at "r"
  have p2H : H p2 = none := s1.free n2
  refine f_revS (by rw [len_mkS]; omega) (fun i σ H' => ∃ y3 y4 y5 y6 xs, σ = [some (.ref a), some (.str (mkS x)), some (.ref p2), y3, y4, y5, y6] ∧ Same H H' ∧ H' p2 = some (.lst xs) ∧ DaAll H' xs ((sh.costs (x.drop (x.length - i))).map rowD)) ?_ ?_ ?_
  · refine ⟨_, _, _, _, [.ref p1], rfl, s1.trans s2, e2, ?_⟩
    rw [Nat.sub_zero, List.drop_length]
    exact .cons (.tup (s2 _ _ e1) (.cons (.int _) (.cons (.int _) .nil))) .nil
  · rintro i c σ H3 hi hx ⟨y3, y4, y5, y6, xs, rfl, s, g, d⟩
    rw [len_mkS] at hi hx
    rw [tl_mkS] at hx
    have hd : x.drop (x.length - (i + 1)) = c :: x.drop (x.length - i) := by
      rw [show x.length - (i + 1) = x.length - 1 - i by omega, drop_prev hx, show x.length - 1 - i + 1 = x.length - i by omega]
    generalize ht : x.drop (x.length - i) = t at d hd
    have tl : t.length ≤ 32 := by rw [← ht, List.length_drop]; omega
    obtain ⟨ra, hra, hrow⟩ := daRowAt d (i := 0) (sh.costs_at t 0 (Nat.zero_le _))
    rw [List.drop_zero] at hrow
    walk_at "r"
    intro p4 H4 n4 s4 e4
    walk_at "r"
    have sH4 := s.trans s4
    have p4H : H p4 = none := s.free n4
    refine f_range1 (by decide) (by decide) (fun j σ H' => ∃ y5 y6, σ = [some (.ref a), some (.str (mkS x)), some (.ref p2), some (.str (sing c)), some (.ref p4), y5, y6] ∧ Same H3 H' ∧
      H' p4 = some (.lst (([false, true].take j).map fun b => .int (sh.st c t b : Nat)))) ⟨_, _, rfl, s4, e4⟩ ?_ ?_
    · rintro j σ H5 hj ⟨y5, y6, rfl, s5, e5⟩
      obtain ⟨b, hb, hbj⟩ := bool_of hj
      have sH5 := s.trans s5
      have g5 := s5 _ _ g
      have hrow5 := s5 _ _ hrow
      have hj2 : j < 2 := by omega
      have app : ∀ (n : Nat) (Q' : VK), n = sh.st c t b → (∀ H', But p4 H5 H' → H' p4 = some (.lst (([false, true].take (j + 1)).map fun b => .int (sh.st c t b : Nat))) → Q' .non H') → mAppend (.ref p4) [.int (n : Nat)] H5 Q' := fun n Q' en k =>
        r_app e5 (by rw [List.length_map, List.length_take]; exact lt_size (by show min j 2 < _; omega)) fun H6 k6 e6 => k H6 k6 (by
          rw [e6, en]
          match j, hj2, hbj with
          | 0, _, hbj => cases b
                         · rfl
                         · cases hbj
          | 1, _, hbj => cases b
                         · cases hbj
                         · rfl)
      walk_at "r"
      rw [hb]
      refine use_code_of (same_sh sH5 hv) ok ?_
      walk_at "r"
      cases ec : sh.code c b with
      | none =>
        walk_at "r"
        rw [decide_eq_true (show hV none = V.non from rfl)]
        walk_at "r"
        exact app 1000000 _ (Sh.st_none ec).symm fun H6 k6 e6 => ⟨_, _, rfl, k6.same s5 n4, e6⟩
      | some k =>
        have hk := Sh.code_lt ok ec
        walk_at "r"
        rw [decide_eq_false (show ¬ hV (some k) = V.non from (fun z => nomatch z))]
        walk_at "r"
        refine r_ixL g5 (atI_nat hra) ?_
        walk_at "r"
        refine use_set_behind (same_sh sH5 hv) ok (by omega) ?_
        walk_at "r"
        refine r_ixRow hrow5 ?_
        rw [rowGet_cost]
        walk_at "r"
        rw [show (1 : Int) + ((sh.cost t (sh.behind k b) : Nat) : Int) = ((1 + sh.cost t (sh.behind k b) : Nat) : Int) by omega]
        exact app _ _ (Sh.st_some ec).symm fun H6 k6 e6 => ⟨_, _, rfl, k6.same s5 n4, e6⟩
    · rintro σ H5 ⟨y5, y6, rfl, s5, e5⟩
      have e5' : H5 p4 = some (.lst [.int (sh.st c t false : Nat), .int (sh.st c t true : Nat)]) := e5
      have hmin : ∀ m n : Nat, (if (n : Int) < (m : Int) then (n : Int) else (m : Int)) = ((min m n : Nat) : Int) := fun m n => by
        split <;> omega
      walk_at "r"
      rw [show ∀ n : Nat, (1 : Int) + (n : Int) = ((1 + n : Nat) : Int) from fun n => by omega, hmin]
      walk_at "r"
      rw [show ∀ n : Nat, (1 : Int) + (n : Int) = ((1 + n : Nat) : Int) from fun n => by omega, hmin]
      intro p6 H6 n6 s6 e6
      walk_at "r"
      have lx := daAll_len d
      rw [List.length_map, sh.costs_len] at lx
      have g6 := s6 _ _ (s5 _ _ g)
      refine r_ins0 g6 (lt_size (by omega)) fun H7 k7 e7 => ?_
      have ne := ne_of e6 g6 (fun z => nomatch z)
      refine ⟨_, _, _, _, _, rfl, k7.same ((s.trans s5).trans s6) p2H, e7, ?_⟩
      rw [hd]
      exact .cons (.tup (k7 _ _ ne e6) (.cons (.int _) (.cons (.int _) .nil))) (but_rows k7 g6 (same_daAll (s5.trans s6) _ _ d))
  · rintro σ H' ⟨y3, y4, y5, y6, xs, rfl, s, g, d⟩
    rw [len_mkS, Nat.sub_self, List.drop_zero] at d
    walk_at "r"
    exact q p2 xs H' p2H s g d

/-! ### the shortest tape -/
namespace Sh
def good (s : Sh) (c : Nat) (t : List Nat) (b : Bool) : Option Nat := match s.code c b with
  | none => none
  | some k => if 1 + s.cost t (s.behind k b) = s.cost (c :: t) b then some k else none
def short (s : Sh) : List Nat → Bool → List Nat
  | [], _ => []
  | c :: t, b => match s.good c t b with
    | some k => k :: s.short t (s.behind k b)
    | none => (s.n + b2n (!b)) :: (s.code c (!b)).getD 0 :: s.short t (s.behind ((s.code c (!b)).getD 0) (!b))
theorem good_some {s : Sh} {c : Nat} {t : List Nat} {b : Bool} {k : Nat} (h : s.good c t b = some k) : s.code c b = some k ∧ 1 + s.cost t (s.behind k b) = s.cost (c :: t) b := by
  unfold good at h
  cases e : s.code c b with
  | none => rw [e] at h; cases h
  | some j =>
    rw [e] at h
    dsimp only at h
    by_cases hh : 1 + s.cost t (s.behind j b) = s.cost (c :: t) b
    · rw [if_pos hh] at h
      cases h
      exact ⟨rfl, hh⟩
    · rw [if_neg hh] at h
      cases h
theorem good_none {s : Sh} {c : Nat} {t : List Nat} {b : Bool} (hc : s.Can (c :: t)) (hl : t.length ≤ 1000) (h : s.good c t b = none) :
    ∃ k, s.code c (!b) = some k ∧ s.good c t (!b) = some k ∧ s.cost (c :: t) b = 1 + s.cost (c :: t) (!b) := by
  have ht : s.Can t := fun d hd => hc d (List.mem_cons_of_mem _ hd)
  have cb := s.cost_cons c t b
  have cn := s.cost_cons c t (!b)
  rw [Bool.not_not] at cn
  have key : ∃ k, s.code c (!b) = some k ∧ s.st c t (!b) + 1 ≤ s.st c t b := by
    cases e : s.code c b with
    | none =>
      obtain ⟨k, hk⟩ := can_code hc List.mem_cons_self b e
      have := s.cost_le t (s.behind k (!b)) ht
      exact ⟨k, hk, by rw [st_none e, st_some hk]; omega⟩
    | some j =>
      unfold good at h
      rw [e] at h
      dsimp only at h
      have hne : ¬ 1 + s.cost t (s.behind j b) = s.cost (c :: t) b := fun z => by
        rw [if_pos z] at h
        cases h
      rw [← st_some e] at hne
      have := s.cost_le t (s.behind j b) ht
      have hj := st_some (t := t) e
      cases e2 : s.code c (!b) with
      | none =>
        have := st_none (t := t) e2
        omega
      | some k => exact ⟨k, rfl, by omega⟩
  obtain ⟨k, hk, hle⟩ := key
  have hn : s.cost (c :: t) (!b) = s.st c t (!b) := by omega
  refine ⟨k, hk, ?_, by omega⟩
  unfold good
  rw [hk]
  dsimp only
  rw [if_pos (by rw [hn, st_some hk])]
theorem short_good {s : Sh} {c : Nat} {t : List Nat} {b : Bool} {k : Nat} (h : s.good c t b = some k) : s.short (c :: t) b = k :: s.short t (s.behind k b) := by
  rw [short, h]
theorem short_wait {s : Sh} {c : Nat} {t : List Nat} {b : Bool} (hc : s.Can (c :: t)) (hl : t.length ≤ 1000) (h : s.good c t b = none) : s.short (c :: t) b = (s.n + b2n (!b)) :: s.short (c :: t) (!b) := by
  obtain ⟨k, hk, hg, _⟩ := good_none hc hl h
  rw [short_good hg, short, h, hk]
  rfl
theorem txt_code {s : Sh} (ok : s.Ok) {c : Nat} {t : List Nat} {b : Bool} {k : Nat} (h : s.code c b = some k) : s.txt (k :: t) b = c :: s.txt t (s.behind k b) := by
  have := code_lt ok h
  show (if s.n ≤ k then [] else [s.sign k b]) ++ _ = _
  rw [if_neg (by omega), code_sign h]
  rfl
theorem short_all {s : Sh} (ok : s.Ok) : ∀ (x : List Nat) (b : Bool), s.Can x → x.length ≤ 1000 → s.txt (s.short x b) b = x ∧ s.Codes (s.short x b) ∧ (s.short x b).length = s.cost x b
  | [], _, _, _ => ⟨rfl, fun c hc => (nomatch hc), rfl⟩
  | c :: t, b, hc, hl => by
    have ht : s.Can t := fun d hd => hc d (List.mem_cons_of_mem _ hd)
    rw [List.length_cons] at hl
    have go : ∀ (d : Bool) (k : Nat), s.good c t d = some k → s.txt (s.short (c :: t) d) d = c :: t ∧ s.Codes (s.short (c :: t) d) ∧ (s.short (c :: t) d).length = s.cost (c :: t) d := fun d k h => by
      obtain ⟨hk, hg⟩ := good_some h
      obtain ⟨h1, h2, h3⟩ := short_all ok t (s.behind k d) ht (by omega)
      have := code_lt ok hk
      rw [short_good h]
      refine ⟨by rw [txt_code ok hk, h1], fun e he => ?_, by rw [List.length_cons, h3]; omega⟩
      rcases List.mem_cons.mp he with z | z
      · omega
      · exact h2 e z
    cases e : s.good c t b with
    | some k => exact go b k e
    | none =>
      obtain ⟨k, hk, hg, hcost⟩ := good_none hc (by omega) e
      obtain ⟨h1, h2, h3⟩ := go (!b) k hg
      rw [short_wait hc (by omega) e]
      refine ⟨by rw [txt_shift, h1], fun e he => ?_, by rw [List.length_cons, h3]; omega⟩
      rcases List.mem_cons.mp he with z | z
      · have : b2n (!b) ≤ 1 := by cases b <;> decide
        omega
      · exact h2 e z
/-- a shift comes first -/
def wait (s : Sh) (x : List Nat) (b : Bool) : Nat := match x with
  | [] => 0
  | c :: t => if (s.good c t b).isSome then 0 else 1
theorem wait_le (s : Sh) (x : List Nat) (b : Bool) : s.wait x b ≤ 1 := by
  cases x with
  | nil => exact Nat.zero_le _
  | cons c t => unfold wait; dsimp only; split <;> decide
end Sh
def spShortest : Sp := fun vs H Q E => ∃ (v : V) (sh : Sh) (x : List Nat) (b : Bool), vs = [v, .str (mkS x), setV b] ∧ (IsSh H v sh) ∧ (sh.Ok) ∧ (sh.Can x) ∧ (x.length ≤ 32) ∧ (∀ p H', H p = none → Same H H' → H' p = some (.lst (tapeV (sh.short x b))) → Q (.ref p) H')
theorem use_shortest {H : Hp} {Q : VK} {E : XK} {v : V} {sh : Sh} {x : List Nat} {b : Bool} (hv : IsSh H v sh) (ok : sh.Ok) (hc : sh.Can x) (hl : x.length ≤ 32) (q : ∀ p H', H p = none → Same H H' → H' p = some (.lst (tapeV (sh.short x b))) → Q (.ref p) H') : spShortest [v, .str (mkS x), setV b] H Q E := ⟨v, sh, x, b, rfl, hv, ok, hc, hl, q⟩

theorem ok_shortest {k : Nat} (T : TX mg) (F : Df K mg "shortest" s_shortest ["sheet", "text", "begin"]) (o_need_sheet : OkAt P w K mg base "need_sheet" k ["sheet"] spNeedSheet) (o_need_text : OkAt P w K mg base "need_text" k ["sheet", "text"] spNeedText) (o_need_set : OkAt P w K mg base "need_set" k ["number"] spNeedSet) (o_costs_of : OkAt P w K mg base "costs_of" k ["sheet", "text"] spCostsOf) (o_code_of : OkAt P w K mg base "code_of" k ["sheet", "sign", "number"] spCodeOf) (o_set_behind : OkAt P w K mg base "set_behind" k ["sheet", "code", "number"] spSetBehind) (o_shift_to : OkAt P w K mg base "shift_to" k ["sheet", "number"] spShiftTo) : OkAt P w K mg base "shortest" (k + 1) ["sheet", "text", "begin"] spShortest := by
  refine F.ok sc_shortest (fun vs H Q E h => ?_) (fun f cdv A outer s H vs Q E hr h => ?_)
  · obtain ⟨v, sh, x, b, rfl, _⟩ := h
    rfl
  obtain ⟨v, sh, x, b, rfl, hv, ok, hc, hl, q⟩ := h
  refine ⟨_, (pss_cons (ps_expr (pe_cl o_need_sheet hr (by rfl) (pa_cons (pv 0) pa_nil))) (pss_cons (ps_expr (pe_cl o_need_text hr (by rfl) (pa_cons (pv 0) (pa_cons (pv 1) pa_nil)))) (pss_cons (ps_expr (pe_cl o_need_set hr (by rfl) (pa_cons (pv 2) pa_nil))) (pss_cons (ps_set (i := 3) sc_shortest.nd rfl (by first | exact Or.inl rfl | exact Or.inr rfl) (pe_cl o_costs_of hr (by rfl) (pa_cons (pv 0) (pa_cons (pv 1) pa_nil)))) (pss_cons (ps_set (i := 4) sc_shortest.nd rfl (by first | exact Or.inl rfl | exact Or.inr rfl) (pe_lstN pa_nil)) (pss_cons (ps_set (i := 5) sc_shortest.nd rfl (by first | exact Or.inl rfl | exact Or.inr rfl) (pv 2)) (pss_cons (ps_set (i := 6) sc_shortest.nd rfl (by first | exact Or.inl rfl | exact Or.inr rfl) pe_int) (pss_cons (ps_while PassesOwn.never (pt_cmpR op_uLt (pv 6) (pe_callB (cr_len K) (by rfl) T.b_len (by decide +kernel) (pa_cons (pv 1) pa_nil)) (nomark _)) (pss_cons (ps_set (i := 7) sc_shortest.nd rfl (by first | exact Or.inl rfl | exact Or.inr rfl) (pe_cl o_code_of hr (by rfl) (pa_cons (pv 0) (pa_cons (pe_ix (ix_u K) (pv 1) (pv 6) (fun _ _ => rfl)) (pa_cons (pv 5) pa_nil))))) (pss_cons (ps_if (PW.pt (pw_and (pt_cmpR op_uNotN (pv 7) pe_non (nomark _)) (pw_and1 (pt_cmpR (op_uEq K hr.units) (pe_op (op_uAdd K) pe_int (pe_ix (ix_u K) (pe_ix (ix_u K) (pv 3) (pe_op (op_uAdd K) (pv 6) pe_int) (fun _ _ => rfl)) (pe_cl o_set_behind hr (by rfl) (pa_cons (pv 0) (pa_cons (pv 7) (pa_cons (pv 5) pa_nil)))) (fun _ _ => rfl))) (pe_ix (ix_u K) (pe_ix (ix_u K) (pv 3) (pv 6) (fun _ _ => rfl)) (pv 5) (fun _ _ => rfl)) (nomark _))))) (pss_one (ps_set (i := 6) sc_shortest.nd rfl (by first | exact Or.inl rfl | exact Or.inr rfl) (pe_op (op_uAdd K) (pv 6) pe_int))) (pss_one (ps_set (i := 7) sc_shortest.nd rfl (by first | exact Or.inl rfl | exact Or.inr rfl) (pe_cl o_shift_to hr (by rfl) (pa_cons (pv 0) (pa_cons (pe_op op_uSub pe_int (pv 5)) pa_nil)))))) (pss_cons (ps_expr (pe_bmK K PySem.F.plainAttrs_list PySem.F.slot_list_append PySem.F.type_list_append mt_appendN (pv 4) (pa_cons (pv 7) pa_nil))) (pss_one (ps_set (i := 5) sc_shortest.nd rfl (by first | exact Or.inl rfl | exact Or.inr rfl) (pe_cl o_set_behind hr (by rfl) (pa_cons (pv 0) (pa_cons (pv 7) (pa_cons (pv 5) pa_nil)))))))))) (pss_one (ps_ret (pv 4))))))))))), ?_⟩
  obtain ⟨a, rfl, ha⟩ := id hv
  walk_at "r"
  refine use_need_sheet hv ok fun H1 s1 => ?_
  walk_at "r"
  refine use_need_text (same_sh s1 hv) ok hc hl fun H2 s2 => ?_
  walk_at "r"
  have s12 := s1.trans s2
  refine use_need_set fun H3 s3 => ?_
  walk_at "r"
  have s13 := s12.trans s3
  refine use_costs_of (same_sh s13 hv) ok hl fun pc xs H4 n4 s4 e4 d4 => ?_
  walk_at "r"
  intro pt H5 n5 s5 e5
  walk_at "r"
  have s15 := (s13.trans s4).trans s5
  have ptH : H pt = none := (s13.trans s4).free n5
  have e45 := s5 _ _ e4
  have d45 := same_daAll s5 _ _ d4
  refine r_while (fun m σ H' => ∃ (i : Nat) (d : Bool) (tp : List Nat) (y7 : Option V), i ≤ x.length ∧ σ = [some (.ref a), some (.str (mkS x)), some (setV b), some (.ref pc), some (.ref pt), some (setV d), some (.int (i : Int)), y7] ∧
    Same H H' ∧ H' pc = some (.lst xs) ∧ DaAll H' xs ((sh.costs x).map rowD) ∧ H' pt = some (.lst (tapeV tp)) ∧ tp ++ sh.short (x.drop i) d = sh.short x b ∧ m = 2 * (x.length - i) + sh.wait (x.drop i) d)
    (2 * x.length + sh.wait x b) ⟨0, b, [], none, Nat.zero_le _, rfl, s15, e45, d45, e5, rfl, rfl⟩ ?_
  rintro m σ H6 ⟨i, d, tp, y7, hi, rfl, s6, g1, g2, g3, he, hm⟩
  have cl := (Sh.short_all ok x b hc (by omega)).2.2
  have cl2 := sh.cost_le x b hc
  have tl : tp.length ≤ 64 := by
    have := congrArg List.length he
    rw [List.length_append] at this
    omega
  have hv6 := same_sh s6 hv
  walk_at "r"
  refine r_lenS (by rw [len_mkS]; exact le_size (by omega)) ?_
  rw [len_mkS]
  walk_at "r"
  refine w_dec (fun h => ?_) (fun h => ?_)
  · have hi2 : i < x.length := by omega
    have hx := getD_at hi2
    generalize x.getD i 0 = c at hx
    have hd := drop_prev hx
    have ct : sh.Can (c :: x.drop (i + 1)) := fun e hm => hc e (List.mem_of_mem_drop (i := i) (by rw [hd]; exact hm))
    have tl2 : (x.drop (i + 1)).length ≤ 32 := by rw [List.length_drop]; omega
    have hmem : c ∈ x := List.mem_of_getElem? hx
    rw [hd] at he hm
    refine ⟨fun σ H' => ∃ m', m' < m ∧ ∃ (i : Nat) (d : Bool) (tp : List Nat) (y7 : Option V), i ≤ x.length ∧ σ = [some (.ref a), some (.str (mkS x)), some (setV b), some (.ref pc), some (.ref pt), some (setV d), some (.int (i : Int)), y7] ∧
      Same H H' ∧ H' pc = some (.lst xs) ∧ DaAll H' xs ((sh.costs x).map rowD) ∧ H' pt = some (.lst (tapeV tp)) ∧ tp ++ sh.short (x.drop i) d = sh.short x b ∧ m' = 2 * (x.length - i) + sh.wait (x.drop i) d, fun _ _ h => h, ?_⟩
    have fin : ∀ (k : Nat) (i' : Nat) (d' : Bool), i' ≤ x.length → sh.short (c :: x.drop (i + 1)) d = k :: sh.short (x.drop i') d' → 2 * (x.length - i') + sh.wait (x.drop i') d' < m →
        ∀ (Q' : VK), (∀ H' : Hp, Same H H' → (∀ y7 : Option V, ∃ m', m' < m ∧ ∃ (i : Nat) (d : Bool) (tp : List Nat) (y7' : Option V), i ≤ x.length ∧ ([some (.ref a), some (.str (mkS x)), some (setV b), some (.ref pc), some (.ref pt), some (setV d'), some (.int (i' : Int)), y7] : List (Option V)) = [some (.ref a), some (.str (mkS x)), some (setV b), some (.ref pc), some (.ref pt), some (setV d), some (.int (i : Int)), y7'] ∧
      Same H H' ∧ H' pc = some (.lst xs) ∧ DaAll H' xs ((sh.costs x).map rowD) ∧ H' pt = some (.lst (tapeV tp)) ∧ tp ++ sh.short (x.drop i) d = sh.short x b ∧ m' = 2 * (x.length - i) + sh.wait (x.drop i) d) → Q' .non H') → mAppend (.ref pt) [.int (k : Nat)] H6 Q' := fun k i' d' hi' hs hlt Q' q' =>
      r_app g3 (by rw [tapeV_len]; exact lt_size (by omega)) fun H7 k7 e7 => q' H7 (k7.same s6 ptH) fun y7 => by
        refine ⟨_, hlt, i', d', tp ++ [k], y7, hi', rfl, k7.same s6 ptH, ?_, ?_, ?_, ?_, rfl⟩
        · exact k7 _ _ (ne_of_none e4 n5) g1
        · exact but_rows k7 g3 g2
        · rw [e7]
          exact congrArg (fun l => some (HO.lst l)) (tapeV_app tp [k])
        · rw [List.append_assoc, ← he, hs]
          rfl
    walk_at "r"
    refine r_ixC hx (by omega) ?_
    walk_at "r"
    refine use_code_of (c := c) hv6 ok ?_
    walk_at "r"
    -- what is sent: a sign or a shift
    have sendS : sh.good c (x.drop (i + 1)) d = none → ∀ (Q' : VK), (∀ H', Same H H' → (∀ y7 : Option V, ∃ m', m' < m ∧ ∃ (i_1 : Nat) (d_1 : Bool) (tp : List Nat) (y7' : Option V), i_1 ≤ x.length ∧ ([some (.ref a), some (.str (mkS x)), some (setV b), some (.ref pc), some (.ref pt), some (setV (!d)), some (.int (i : Int)), y7] : List (Option V)) = [some (.ref a), some (.str (mkS x)), some (setV b), some (.ref pc), some (.ref pt), some (setV d_1), some (.int (i_1 : Int)), y7'] ∧
      Same H H' ∧ H' pc = some (.lst xs) ∧ DaAll H' xs ((sh.costs x).map rowD) ∧ H' pt = some (.lst (tapeV tp)) ∧ tp ++ sh.short (x.drop i_1) d_1 = sh.short x b ∧ m' = 2 * (x.length - i_1) + sh.wait (x.drop i_1) d_1) → Q' .non H') → mAppend (.ref pt) [.int ((sh.n + b2n (!d) : Nat) : Int)] H6 Q' := fun hg Q' q' => by
      obtain ⟨k, hk, hg2, _⟩ := Sh.good_none ct (by omega) hg
      refine fin _ i (!d) hi (by rw [hd]; exact Sh.short_wait ct (by omega) hg) ?_ Q' q'
      rw [hd, hm]
      unfold Sh.wait
      dsimp only
      rw [hg, hg2]
      show _ + 0 < _ + 1
      omega
    have hb1 : b2n (!d) ≤ 1 := by cases d <;> decide
    have hbs : sh.behind (sh.n + b2n (!d)) d = !d := Sh.behind_shift sh (!d) d
    cases ec : sh.code c d with
    | none =>
      have hg : sh.good c (x.drop (i + 1)) d = none := by unfold Sh.good; rw [ec]
      rw [decide_eq_true (show hV none = V.non from rfl)]
      walk_at "r"
      refine r_flip ?_
      walk_at "r"
      refine use_shift_to hv6 ok ?_
      walk_at "r"
      refine sendS hg _ fun H7 s7 st7 => ?_
      walk_at "r"
      refine use_set_behind (same_sh s7 hv) ok (by omega) ?_
      rw [hbs]
      walk_at "r"
      exact st7 _
    | some k =>
      have hk := Sh.code_lt ok ec
      obtain ⟨ra, hra, hrow⟩ := daRowAt g2 (sh.costs_at x (i + 1) (by omega))
      obtain ⟨rb, hrb, hrow2⟩ := daRowAt g2 (sh.costs_at x i hi)
      rw [decide_eq_false (show ¬ hV (some k) = V.non from (fun z => nomatch z))]
      walk_at "r"
      rw [show (i : Int) + 1 = ((i + 1 : Nat) : Int) by omega]
      refine r_ixL g1 (atI_nat hra) ?_
      walk_at "r"
      refine use_set_behind hv6 ok (by omega) ?_
      walk_at "r"
      refine r_ixRow hrow ?_
      rw [rowGet_cost]
      walk_at "r"
      refine r_ixL g1 (atI_nat hrb) ?_
      walk_at "r"
      refine r_ixRow hrow2 ?_
      rw [rowGet_cost, hd]
      walk_at "r"
      refine w_dec (fun h2 => ?_) (fun h2 => ?_)
      · have hg : sh.good c (x.drop (i + 1)) d = some k := by
          unfold Sh.good
          rw [ec]
          dsimp only
          rw [if_pos (by omega)]
        walk_at "r"
        refine fin k (i + 1) (sh.behind k d) hi2 (Sh.short_good hg) (by have := sh.wait_le (x.drop (i + 1)) (sh.behind k d); omega) _ fun H7 s7 st7 => ?_
        walk_at "r"
        refine use_set_behind (same_sh s7 hv) ok (by omega) ?_
        walk_at "r"
        exact st7 _
      · have hg : sh.good c (x.drop (i + 1)) d = none := by
          unfold Sh.good
          rw [ec]
          dsimp only
          rw [if_neg (by omega)]
        walk_at "r"
        refine r_flip ?_
        walk_at "r"
        refine use_shift_to hv6 ok ?_
        walk_at "r"
        refine sendS hg _ fun H7 s7 st7 => ?_
        walk_at "r"
        refine use_set_behind (same_sh s7 hv) ok (by omega) ?_
        rw [hbs]
        walk_at "r"
        exact st7 _
  · have hi2 : i = x.length := by omega
    subst hi2
    rw [List.drop_length] at he
    have : tp = sh.short x b := by rw [← he]; exact (List.append_nil _).symm
    rw [this] at g3
    walk_at "r"
    exact q pt H6 ptH s6 g3

def spLawText : Sp := fun vs H Q E => ∃ (v u : V) (sh : Sh) (m : Nat), vs = [v, u, .int m] ∧ (Box H v) ∧ (IsSh H u sh) ∧ (sh.Ok) ∧ (m ≤ 100) ∧ (∀ x H', Same H H' → sh.Can x → x.length ≤ m → Q (.str (mkS x)) H')
theorem use_law_text {H : Hp} {Q : VK} {E : XK} {v u : V} {sh : Sh} {m : Nat} (hb : Box H v) (hs : IsSh H u sh) (ok : sh.Ok) (hm : m ≤ 100) (q : ∀ x H', Same H H' → sh.Can x → x.length ≤ m → Q (.str (mkS x)) H') : spLawText [v, u, .int m] H Q E := ⟨v, u, sh, m, rfl, hb, hs, ok, hm, q⟩

theorem can_app {s : Sh} {x : List Nat} {c : Nat} {b : Bool} (h : s.Can x) (hc : c ∈ s.signs b) : s.Can (x ++ [c]) := fun d hd => by
  rcases List.mem_append.mp hd with z | z
  · exact h d z
  · have : d = c := by simpa using z
    rw [this]
    cases b
    · exact .inl hc
    · exact .inr hc
theorem ok__law_text {k : Nat} (T : TX mg) (F : Df K mg "_law_text" s__law_text ["_law_box", "_law_sheet_here", "_law_most"]) (o__law_take : OkAt P w K mg base "_law_take" k ["_law_box", "_law_many"] spTake) : OkAt P w K mg base "_law_text" (k + 1) ["_law_box", "_law_sheet_here", "_law_most"] spLawText := by
  refine F.ok sc__law_text (fun vs H Q E h => ?_) (fun f cdv A outer s H vs Q E hr h => ?_)
  · obtain ⟨v, u, sh, m, rfl, _⟩ := h
    rfl
  obtain ⟨v, u, sh, m, rfl, hb, hs, ok, hm, q⟩ := h
  refine ⟨_, (pss_cons (ps_set (i := 3) sc__law_text.nd rfl (by first | exact Or.inl rfl | exact Or.inr rfl) pe_str) (pss_cons (ps_set (i := 4) sc__law_text.nd rfl (by first | exact Or.inl rfl | exact Or.inr rfl) pe_int) (pss_cons (ps_set (i := 5) sc__law_text.nd rfl (by first | exact Or.inl rfl | exact Or.inr rfl) (pe_op (op_uAdd K) pe_int (pe_cl o__law_take hr (by rfl) (pa_cons (pv 0) (pa_cons pe_int pa_nil))))) (pss_cons (ps_for PassesOwn.never rfl (pi_range1 (by rfl) T.b_range (pa_cons (pe_cl o__law_take hr (by rfl) (pa_cons (pv 0) (pa_cons (pe_op (op_uAdd K) (pv 2) pe_int) pa_nil))) pa_nil)) (pg_name (i := 6) sc__law_text.nd rfl (by first | exact Or.inl rfl | exact Or.inr rfl)) (pss_cons (ps_if (pt_cmpR (op_uEq K hr.units) (pe_cl o__law_take hr (by rfl) (pa_cons (pv 0) (pa_cons (pv 5) pa_nil))) pe_int (nomark _)) (pss_one (ps_set (i := 4) sc__law_text.nd rfl (by first | exact Or.inl rfl | exact Or.inr rfl) (pe_op op_uSub pe_int (pv 4)))) pss_nil) (pss_one (ps_set (i := 3) sc__law_text.nd rfl (by first | exact Or.inl rfl | exact Or.inr rfl) (pe_op (op_uAdd K) (pv 3) (pe_ix (ix_u K) (pe_ix (ix_u K) (pv 1) (pv 4) (fun _ _ => rfl)) (pe_cl o__law_take hr (by rfl) (pa_cons (pv 0) (pa_cons (pe_callB (cr_len K) (by rfl) T.b_len (by decide +kernel) (pa_cons (pe_ix (ix_u K) (pv 1) pe_int (fun _ _ => rfl)) pa_nil)) pa_nil))) (fun _ _ => rfl))))))) (pss_one (ps_ret (pv 3))))))), ?_⟩
  obtain ⟨a, rfl, ha⟩ := id hs
  have h26 := ok.most
  have h1 := ok.pos
  walk_at "r"
  refine use_take hb (by decide) (by decide) fun r1 H1 hr1 s1 => ?_
  walk_at "r"
  refine use_take (same_box s1 hb) (by omega) (by omega) fun r2 H2 hr2 s2 => ?_
  walk_at "r"
  have s12 := s1.trans s2
  refine f_range1 (by omega) (by omega) (fun i σ H' => ∃ x b y, σ = [some v, some (.ref a), some (.int m), some (.str (mkS x)), some (setV b), some (.int (2 + (r1 : Int))), y] ∧ Same H H' ∧ sh.Can x ∧ x.length = i) ⟨[], false, _, rfl, s12, fun c hc => (nomatch hc), rfl⟩ ?_ ?_
  · rintro i σ H3 hi ⟨x, b, y, rfl, s3, hc, hl⟩
    walk_at "r"
    refine use_take (same_box s3 hb) (by omega) (by omega) fun r4 H4 hr4 s4 => ?_
    walk_at "r"
    have s34 := s3.trans s4
    have ha4 := s34 _ _ ha
    refine w_dec (fun _ => ?_) (fun _ => ?_)
    walk_at "r"
    refine r_flip ?_
    generalize (!b) = b
    rotate_left
    all_goals
      walk_at "r"
      refine r_ixSh (same_sh s34 hs) ?_
      walk_at "r"
      refine r_lenS (by rw [len_mkS]; exact le_size (by omega)) ?_
      rw [len_mkS]
      walk_at "r"
      refine use_take (same_box s34 hb) (by omega) (by omega) fun r5 H5 hr5 s5 => ?_
      have hn : (sh.signs b).length = sh.n := Sh.signs_len ok b
      have hr : r5 < (sh.signs b).length := by rw [hn]; unfold Sh.n; omega
      walk_at "r"
      refine r_ixC (getD_at hr) (by rw [hn]; unfold Sh.n; omega) ?_
      walk_at "r"
      refine r_addS (by rw [len_mkS, len_mkS]; exact le_size (by show _ + 1 ≤ _; omega)) ?_
      rw [mkS_app]
      walk_at "r"
      refine ⟨_, b, _, rfl, s34.trans s5, can_app (b := b) hc ?_, by rw [List.length_append, hl]; rfl⟩
      exact List.mem_of_getElem? (getD_at hr)
  · rintro σ H' ⟨x, b, y, rfl, s, hc, hl⟩
    walk_at "r"
    exact q x H' s hc (by omega)

/-! ### what is lost -/
def diffs (a b : List Nat) : List Nat := (List.range a.length).filter fun k => !decide (a.getD k 0 = b.getD k 0)
def wo (t : List Nat) (i : Nat) : List Nat := t.take i ++ t.drop (i + 1)
namespace Sh
def places (s : Sh) (t : List Nat) : List Nat := (List.range t.length).filter fun i => decide (s.n ≤ t.getD i 0)
def rows (s : Sh) (t : List Nat) (b : Bool) : List (Nat × Nat) := (s.places t).map fun i => (i, (diffs (s.txt t b) (s.txt (wo t i) b)).length)
def lost (s : Sh) (t : List Nat) (b : Bool) (x : List Nat) : List Nat := (s.places t).filter fun i => decide (s.txt (wo t i) b = x)
def many (s : Sh) : List Nat → Nat
  | [] => 0
  | c :: t => (if s.n ≤ c then 0 else 1) + many s t
theorem txt_many (s : Sh) : ∀ (t : List Nat) (b : Bool), (s.txt t b).length = s.many t
  | [], _ => rfl
  | c :: t, b => by
    show ((if s.n ≤ c then [] else [s.sign c b]) ++ s.txt t (s.behind c b)).length = (if s.n ≤ c then 0 else 1) + s.many t
    rw [List.length_append, txt_many s t]
    congr 1
    split <;> rfl
theorem many_app (s : Sh) : ∀ t u : List Nat, s.many (t ++ u) = s.many t + s.many u
  | [], u => (Nat.zero_add _).symm
  | c :: t, u => by
    show (if s.n ≤ c then 0 else 1) + s.many (t ++ u) = (if s.n ≤ c then 0 else 1) + s.many t + s.many u
    rw [many_app s t u, Nat.add_assoc]
theorem many_wo (s : Sh) {t : List Nat} {i c : Nat} (h : t[i]? = some c) (hs : s.n ≤ c) : s.many (wo t i) = s.many t := by
  obtain ⟨hi, e⟩ := List.getElem?_eq_some_iff.mp h
  have et : t = t.take i ++ (c :: t.drop (i + 1)) := by
    rw [← e, List.getElem_cons_drop, List.take_append_drop]
  unfold wo
  rw [many_app]
  conv => rhs; rw [et]
  rw [many_app]
  show _ = s.many (t.take i) + ((if s.n ≤ c then 0 else 1) + s.many (t.drop (i + 1)))
  rw [if_pos hs, Nat.zero_add]
theorem wo_codes (s : Sh) {t : List Nat} {i : Nat} (h : s.Codes t) : s.Codes (wo t i) := fun c hc => by
  rcases List.mem_append.mp hc with z | z
  · exact h c (List.mem_of_mem_take z)
  · exact h c (List.mem_of_mem_drop z)
end Sh
theorem wo_len (t : List Nat) (i : Nat) : (wo t i).length ≤ t.length := by
  unfold wo
  rw [List.length_append, List.length_take, List.length_drop]
  omega
def spWithout : Sp := fun vs H Q _ => ∃ (u : V) (t : List Nat) (i : Nat), vs = [u, .int i] ∧ IsTape H u t ∧ t.length ≤ 10000 ∧ ∀ p H', H p = none → Same H H' → H' p = some (.lst (tapeV (wo t i))) → Q (.ref p) H'
theorem use_without {H : Hp} {Q : VK} {E : XK} {u : V} {t : List Nat} {i : Nat} (ht : IsTape H u t) (hl : t.length ≤ 10000) (q : ∀ p H', H p = none → Same H H' → H' p = some (.lst (tapeV (wo t i))) → Q (.ref p) H') : spWithout [u, .int i] H Q E := ⟨u, t, i, rfl, ht, hl, q⟩
theorem ok_without {k : Nat} (T : TX mg) (F : Df K mg "without" s_without ["tape", "place"]) : OkAt P w K mg base "without" (k + 1) ["tape", "place"] spWithout := by
  refine F.ok sc_without (fun vs H Q E h => ?_) (fun f cdv A outer s H vs Q E hr h => ?_)
  · obtain ⟨u, t, i, rfl, _⟩ := h
    rfl
  · obtain ⟨u, t, i, rfl, ⟨a, rfl, ha⟩, hl, q⟩ := h
    refine ⟨_, (pss_one (ps_ret (pe_op (op_uAdd K) (pe_slice (sl_u K) (pv 0) po_none (po_some (pv 1))) (pe_slice (sl_u K) (pv 0) (po_some (pe_op (op_uAdd K) (pv 1) pe_int)) po_none)))), ?_⟩
    walk_at "r"
    refine r_slL ha fun p1 H1 n1 s1 e1 => ?_
    rw [cut_to] at e1
    walk_at "r"
    refine r_slL (s1 _ _ ha) fun p2 H2 n2 s2 e2 => ?_
    rw [show ((i : Int) + 1) = ((i + 1 : Nat) : Int) by omega, cut_from] at e2
    refine r_addL (s2 _ _ e1) e2 ?_ fun p3 H3 n3 s3 e3 => ?_
    · rw [List.length_take, List.length_drop, tapeV_len]
      exact le_size (by omega)
    · refine q p3 H3 (s1.free (s2.free n3)) ((s1.trans s2).trans s3) ?_
      rw [e3]
      unfold tapeV wo
      rw [List.map_append, List.map_take, List.map_drop]
def spAllSpoilt : Sp := fun vs H Q _ => ∃ (v u : V) (sh : Sh) (t : List Nat) (b : Bool), vs = [v, u, setV b] ∧ IsSh H v sh ∧ sh.Ok ∧ IsTape H u t ∧ sh.Codes t ∧ t.length ≤ 10000 ∧
  ∀ p xs H', H p = none → Same H H' → H' p = some (.lst xs) → DaAll H' xs ((sh.rows t b).map rowD) → Q (.ref p) H'
theorem use_all_spoilt {H : Hp} {Q : VK} {E : XK} {v u : V} {sh : Sh} {t : List Nat} {b : Bool} (h : IsSh H v sh) (ok : sh.Ok) (ht : IsTape H u t) (hc : sh.Codes t) (hl : t.length ≤ 10000)
    (q : ∀ p xs H', H p = none → Same H H' → H' p = some (.lst xs) → DaAll H' xs ((sh.rows t b).map rowD) → Q (.ref p) H') : spAllSpoilt [v, u, setV b] H Q E := ⟨v, u, sh, t, b, rfl, h, ok, ht, hc, hl, q⟩
/-- the places up to i, their rows -/
def Sh.placesTo (s : Sh) (t : List Nat) (i : Nat) : List Nat := (List.range i).filter fun i => decide (s.n ≤ t.getD i 0)
def Sh.rowsTo (s : Sh) (t : List Nat) (b : Bool) (i : Nat) : List (Nat × Nat) := (s.placesTo t i).map fun i => (i, (diffs (s.txt t b) (s.txt (wo t i) b)).length)
theorem ok_all_spoilt {k : Nat} (T : TX mg) (F : Df K mg "all_spoilt" s_all_spoilt ["sheet", "tape", "begin"]) (o_gone : OkAt P w K mg base "gone" k ["sheet", "tape", "begin"] spGone) (o_is_shift : OkAt P w K mg base "is_shift" k ["sheet", "code"] spIsShift)
    (o_without : OkAt P w K mg base "without" k ["tape", "place"] spWithout) : OkAt P w K mg base "all_spoilt" (k + 1) ["sheet", "tape", "begin"] spAllSpoilt := by
  refine F.ok sc_all_spoilt (fun vs H Q E h => ?_) (fun f cdv A outer s H vs Q E hr h => ?_)
  · obtain ⟨v, u, sh, t, b, rfl, _⟩ := h
    rfl
  · obtain ⟨v, u, sh, t, b, rfl, hv, ok, ⟨a, rfl, ha⟩, hc, hl, q⟩ := h
    refine ⟨_, (pss_cons (ps_set (i := 3) sc_all_spoilt.nd rfl (by first | exact Or.inl rfl | exact Or.inr rfl) (pe_ix (ix_u K) (pe_cl o_gone hr (by rfl) (pa_cons (pv 0) (pa_cons (pv 1) (pa_cons (pv 2) pa_nil)))) pe_int (fun _ _ => rfl))) (pss_cons (ps_set (i := 4) sc_all_spoilt.nd rfl (by first | exact Or.inl rfl | exact Or.inr rfl) (pe_lstN pa_nil)) (pss_cons (ps_for PassesOwn.never rfl (pi_enumK K (by rfl) T.b_enumerate (pa_cons (pv 1) pa_nil)) (pg_tupK K (n := 2) rfl (pgs_cons (pg_name (i := 5) sc_all_spoilt.nd rfl (by first | exact Or.inl rfl | exact Or.inr rfl)) (pgs_cons (pg_name (i := 6) sc_all_spoilt.nd rfl (by first | exact Or.inl rfl | exact Or.inr rfl)) pgs_nil))) (pss_one (ps_if (pt_val (pe_cl o_is_shift hr (by rfl) (pa_cons (pv 0) (pa_cons (pv 6) pa_nil)))) (pss_cons (ps_set (i := 7) sc_all_spoilt.nd rfl (by first | exact Or.inl rfl | exact Or.inr rfl) (pe_ix (ix_u K) (pe_cl o_gone hr (by rfl) (pa_cons (pv 0) (pa_cons (pe_cl o_without hr (by rfl) (pa_cons (pv 1) (pa_cons (pv 5) pa_nil))) (pa_cons (pv 2) pa_nil)))) pe_int (fun _ _ => rfl))) (pss_one (ps_expr (pe_bmK K PySem.F.plainAttrs_list PySem.F.slot_list_append PySem.F.type_list_append mt_appendN (pv 4) (pa_cons (pe_tupN (pa_cons (pv 5) (pa_cons (pe_callB (cr_len K) (by rfl) T.b_len (by decide +kernel) (pa_cons (pe_lc (own := [("k", 8)]) (g := gName 8) rfl sc_all_spoilt.nd (pi_range1 (by rfl) T.b_range (pa_cons (pe_callB (cr_len K) (by rfl) T.b_len (by decide +kernel) (pa_cons (pv 3) pa_nil)) pa_nil)) (blkOk_by (own := [("k", 8)]) (N := ["sheet", "tape", "begin", "right", "found", "place", "code", "other", "k"]) (sc := defScope s_all_spoilt) (by decide +kernel)) (fun _ _ _ _ _ => (pg_name (i := 8) sc_all_spoilt.nd rfl (by first | exact Or.inl rfl | exact Or.inr rfl))) (fun _ _ _ _ _ => (pts_one (pt_cmpR (op_uNe K hr.units) (pe_ix (ix_u K) (pv 3) (pv 8) (fun _ _ => rfl)) (pe_ix (ix_u K) (pv 7) (pv 8) (fun _ _ => rfl)) (nomark _)))) (fun _ _ _ _ _ => (pv 8))) pa_nil)) pa_nil))) pa_nil))))) pss_nil))) (pss_one (ps_ret (pv 4)))))), ?_⟩
    walk_at "r"
    refine use_gone hv ok ⟨a, rfl, ha⟩ hc hl fun p1 ps1 H1 s1 e1 _ => ?_
    walk_at "r"
    intro p H2 n2 s2 e2
    walk_at "r"
    have s12 := s1.trans s2
    refine f_enum (s12 _ _ ha) (fun i σ H' => ∃ y5 y6 y7 y8 xs, σ = [some v, some (.ref a), some (setV b), some (.str (mkS (sh.txt t b))), some (.ref p), y5, y6, y7, y8] ∧ Same H H' ∧
      H' p = some (.lst xs) ∧ DaAll H' xs ((sh.rowsTo t b i).map rowD)) ⟨_, _, _, _, [], rfl, s12, e2, .nil⟩ (fun i σ H' _ ⟨_, _, _, _, _, _, s, _⟩ => s _ _ ha) (fun i x σ H' TT H3 hx => ?_) ?_
    · rintro ⟨y5, y6, y7, y8, xs, rfl, s, g, rw⟩ hT s3 e3
      obtain ⟨c, hx2, rfl⟩ := tapeV_at hx
      have hi : i < t.length := (List.getElem?_eq_some_iff.mp hx2).1
      have ec : t.getD i 0 = c := by rw [List.getD_eq_getElem?_getD, hx2]; rfl
      have sH3 := s.trans s3
      have pH : H p = none := s1.free n2
      walk_at "r"
      refine use_is_shift (same_sh sH3 hv) ok ?_
      walk_at "r"
      refine w_dec (fun h1 => ?_) (fun h1 => ?_)
      · have pt : sh.placesTo t (i + 1) = sh.placesTo t i ++ [i] := by
          unfold Sh.placesTo
          rw [range_snoc, if_pos (by rw [ec]; exact decide_eq_true h1)]
        walk_at "r"
        refine use_without ⟨a, rfl, sH3 _ _ ha⟩ hl fun p4 H4 n4 s4 e4 => ?_
        walk_at "r"
        refine use_gone (same_sh (sH3.trans s4) hv) ok ⟨p4, rfl, e4⟩ (sh.wo_codes hc) (Nat.le_trans (wo_len t i) hl) fun p5 ps5 H5 s5 e5 _ => ?_
        have s35 := s4.trans s5
        have gp := s35 _ _ (s3 _ _ g)
        walk_at "r"
        have hl1 : (sh.txt t b).length ≤ 10000 := Nat.le_trans (sh.txt_len t b) hl
        have hl2 : (sh.txt (wo t i) b).length = (sh.txt t b).length := by rw [sh.txt_many, sh.txt_many, sh.many_wo hx2 h1]
        refine r_lenS (by rw [len_mkS]; exact le_size (by omega)) ?_
        rw [len_mkS]
        walk_at "r"
        refine c_range1 (fr (fun k => !decide ((sh.txt t b).getD k 0 = (sh.txt (wo t i) b).getD k 0)) fun k => .int (k : Nat)) (by omega) (by omega) rfl (fr_len _ _) (fun k H' hk s Ky Kn hy hn => ?_) (fun p6 H6 n6 s6 e6 => ?_)
        · have hk' : k < (sh.txt t b).length := by omega
          walk_at "r"
          refine ⟨rfl, ?_⟩
          walk_at "r"
          refine r_ixC (getD_at hk') (by omega) ?_
          walk_at "r"
          have hk2 : k < (sh.txt (wo t i) b).length := by omega
          refine r_ixC (getD_at hk2) (by omega) ?_
          walk_at "r"
          rw [mkS_one]
          refine w_nd (fun h => ?_) (fun h => ?_)
          · walk_at "r"
            exact hy _ _ (Same.refl _) (fr_yes (by rw [decide_eq_false h]; rfl))
          · exact hn _ (Same.refl _) (fr_no (by rw [decide_eq_true h]; rfl))
        · walk_at "r"
          intro p7 H7 n7 s7 e7
          walk_at "r"
          have gp7 := s7 _ _ (s6 _ _ gp)
          have rw7 := same_daAll (s3.trans (s35.trans (s6.trans s7))) _ _ rw
          refine r_app gp7 ?_ fun H8 k8 e8 => ?_
          · have := daAll_len rw
            rw [this, List.length_map]
            unfold Sh.rowsTo Sh.placesTo
            rw [List.length_map]
            exact lt_size (Nat.lt_of_le_of_lt (len_filter_range _ _) (by omega))
          · refine ⟨_, _, _, _, _, rfl, k8.same ((sH3.trans s35).trans (s6.trans s7)) pH, e8, ?_⟩
            have ne := ne_of e7 gp7 (fun z => nomatch z)
            unfold Sh.rowsTo
            rw [pt, List.map_append, List.map_append]
            refine daAll_app (but_rows k8 gp7 rw7) (.cons (.tup (k8 _ _ ne e7) ?_) .nil)
            have el : (fr (fun k => !decide ((sh.txt t b).getD k 0 = (sh.txt (wo t i) b).getD k 0)) (fun k => V.int (k : Nat)) ((sh.txt t b).length : Int).toNat).length = (diffs (sh.txt t b) (sh.txt (wo t i) b)).length := by
              unfold fr diffs
              rw [List.length_map, Int.toNat_natCast]
            rw [el]
            exact .cons (.int _) (.cons (.int _) .nil)
      · have pt : sh.placesTo t (i + 1) = sh.placesTo t i := by
          unfold Sh.placesTo
          rw [range_snoc, if_neg (by rw [ec, decide_eq_false h1]; decide), List.append_nil]
        walk_at "r"
        refine ⟨_, _, _, _, xs, rfl, sH3, s3 _ _ g, ?_⟩
        unfold Sh.rowsTo
        rw [pt]
        exact same_daAll s3 _ _ rw
    · rintro σ H' ⟨y5, y6, y7, y8, xs, rfl, s, g, rw⟩
      walk_at "r"
      rw [tapeV_len] at rw
      exact q p xs H' (s1.free n2) s g rw
def spSpoilt : Sp := fun vs H Q _ => ∃ (v u : V) (sh : Sh) (t : List Nat) (b : Bool), vs = [v, u, setV b] ∧ IsSh H v sh ∧ sh.Ok ∧ IsTape H u t ∧ sh.Codes t ∧ t.length ≤ 100 ∧
  ∀ p xs H', H p = none → Same H H' → H' p = some (.lst xs) → DaAll H' xs ((sh.rows t b).map rowD) → Q (.ref p) H'
theorem use_spoilt {H : Hp} {Q : VK} {E : XK} {v u : V} {sh : Sh} {t : List Nat} {b : Bool} (h : IsSh H v sh) (ok : sh.Ok) (ht : IsTape H u t) (hc : sh.Codes t) (hl : t.length ≤ 100)
    (q : ∀ p xs H', H p = none → Same H H' → H' p = some (.lst xs) → DaAll H' xs ((sh.rows t b).map rowD) → Q (.ref p) H') : spSpoilt [v, u, setV b] H Q E := ⟨v, u, sh, t, b, rfl, h, ok, ht, hc, hl, q⟩
theorem ok_spoilt {k : Nat} (T : TX mg) (F : Df K mg "spoilt" s_spoilt ["sheet", "tape", "begin"]) (o_need_all : OkAt P w K mg base "need_all" k ["sheet", "tape", "begin"] spNeedAll)
    (o_all_spoilt : OkAt P w K mg base "all_spoilt" k ["sheet", "tape", "begin"] spAllSpoilt) : OkAt P w K mg base "spoilt" (k + 1) ["sheet", "tape", "begin"] spSpoilt := by
  refine F.ok sc_spoilt (fun vs H Q E h => ?_) (fun f cdv A outer s H vs Q E hr h => ?_)
  · obtain ⟨v, u, sh, t, b, rfl, _⟩ := h
    rfl
  · obtain ⟨v, u, sh, t, b, rfl, hv, ok, hu, hc, hl, q⟩ := h
    refine ⟨_, (pss_cons (ps_expr (pe_cl o_need_all hr (by rfl) (pa_cons (pv 0) (pa_cons (pv 1) (pa_cons (pv 2) pa_nil))))) (pss_one (ps_ret (pe_cl o_all_spoilt hr (by rfl) (pa_cons (pv 0) (pa_cons (pv 1) (pa_cons (pv 2) pa_nil))))))), ?_⟩
    walk_at "r"
    refine use_need_all hv ok hu hc hl fun H1 s1 => ?_
    walk_at "r"
    refine use_all_spoilt (same_sh s1 hv) ok (same_tape s1 hu) hc (by omega) fun p xs H2 n2 s2 e2 d2 => ?_
    exact q p xs H2 (s1.free n2) (s1.trans s2) e2 d2
def Sh.lostTo (s : Sh) (t : List Nat) (b : Bool) (x : List Nat) (i : Nat) : List Nat := (List.range i).filter fun i => decide (s.n ≤ t.getD i 0) && decide (s.txt (wo t i) b = x)
theorem lostTo_all (s : Sh) (t : List Nat) (b : Bool) (x : List Nat) : s.lostTo t b x t.length = s.lost t b x := by
  unfold Sh.lostTo Sh.lost Sh.places
  rw [List.filter_filter]
  refine List.filter_congr fun i _ => ?_
  rw [Bool.and_comm]
def spLostAt : Sp := fun vs H Q _ => ∃ (v u : V) (sh : Sh) (t : List Nat) (b : Bool) (x : List Nat), vs = [v, u, setV b, .str (mkS x)] ∧ IsSh H v sh ∧ sh.Ok ∧ IsTape H u t ∧ sh.Codes t ∧ t.length ≤ 100 ∧
  ∀ p H', H p = none → Same H H' → H' p = some (.lst (tapeV (sh.lost t b x))) → Q (.ref p) H'
theorem use_lost_at {H : Hp} {Q : VK} {E : XK} {v u : V} {sh : Sh} {t : List Nat} {b : Bool} {x : List Nat} (h : IsSh H v sh) (ok : sh.Ok) (ht : IsTape H u t) (hc : sh.Codes t) (hl : t.length ≤ 100)
    (q : ∀ p H', H p = none → Same H H' → H' p = some (.lst (tapeV (sh.lost t b x))) → Q (.ref p) H') : spLostAt [v, u, setV b, .str (mkS x)] H Q E := ⟨v, u, sh, t, b, x, rfl, h, ok, ht, hc, hl, q⟩
theorem ok_lost_at {k : Nat} (T : TX mg) (F : Df K mg "lost_at" s_lost_at ["sheet", "tape", "begin", "text"]) (o_need_all : OkAt P w K mg base "need_all" k ["sheet", "tape", "begin"] spNeedAll)
    (o_gone : OkAt P w K mg base "gone" k ["sheet", "tape", "begin"] spGone) (o_is_shift : OkAt P w K mg base "is_shift" k ["sheet", "code"] spIsShift)
    (o_without : OkAt P w K mg base "without" k ["tape", "place"] spWithout) : OkAt P w K mg base "lost_at" (k + 1) ["sheet", "tape", "begin", "text"] spLostAt := by
  refine F.ok sc_lost_at (fun vs H Q E h => ?_) (fun f cdv A outer s H vs Q E hr h => ?_)
  · obtain ⟨v, u, sh, t, b, x, rfl, _⟩ := h
    rfl
  · obtain ⟨v, u, sh, t, b, x, rfl, hv, ok, hu, hc, hl, q⟩ := h
    obtain ⟨a, rfl, ha⟩ := id hu
    refine ⟨_, (pss_cons (ps_expr (pe_cl o_need_all hr (by rfl) (pa_cons (pv 0) (pa_cons (pv 1) (pa_cons (pv 2) pa_nil))))) (pss_cons (ps_set (i := 4) sc_lost_at.nd rfl (by first | exact Or.inl rfl | exact Or.inr rfl) (pe_lstN pa_nil)) (pss_cons (ps_for PassesOwn.never rfl (pi_enumK K (by rfl) T.b_enumerate (pa_cons (pv 1) pa_nil)) (pg_tupK K (n := 2) rfl (pgs_cons (pg_name (i := 5) sc_lost_at.nd rfl (by first | exact Or.inl rfl | exact Or.inr rfl)) (pgs_cons (pg_name (i := 6) sc_lost_at.nd rfl (by first | exact Or.inl rfl | exact Or.inr rfl)) pgs_nil))) (pss_one (ps_if (PW.pt (pw_and (pt_val (pe_cl o_is_shift hr (by rfl) (pa_cons (pv 0) (pa_cons (pv 6) pa_nil)))) (pw_and1 (pt_cmpR (op_uEq K hr.units) (pe_ix (ix_u K) (pe_cl o_gone hr (by rfl) (pa_cons (pv 0) (pa_cons (pe_cl o_without hr (by rfl) (pa_cons (pv 1) (pa_cons (pv 5) pa_nil))) (pa_cons (pv 2) pa_nil)))) pe_int (fun _ _ => rfl)) (pv 3) (nomark _))))) (pss_one (ps_expr (pe_bmK K PySem.F.plainAttrs_list PySem.F.slot_list_append PySem.F.type_list_append mt_appendN (pv 4) (pa_cons (pv 5) pa_nil)))) pss_nil))) (pss_one (ps_ret (pv 4)))))), ?_⟩
    walk_at "r"
    refine use_need_all hv ok hu hc hl fun H1 s1 => ?_
    walk_at "r"
    intro p H2 n2 s2 e2
    walk_at "r"
    have s12 := s1.trans s2
    have pH : H p = none := s1.free n2
    refine f_enum (s12 _ _ ha) (fun i σ H' => ∃ y5 y6, σ = [some v, some (.ref a), some (setV b), some (.str (mkS x)), some (.ref p), y5, y6] ∧ Same H H' ∧
      H' p = some (.lst (tapeV (sh.lostTo t b x i)))) ⟨_, _, rfl, s12, e2⟩ (fun i σ H' _ ⟨_, _, _, s, _⟩ => s _ _ ha) (fun i z σ H' TT H3 hx => ?_) ?_
    · rintro ⟨y5, y6, rfl, s, g⟩ hT s3 e3
      obtain ⟨c, hx2, rfl⟩ := tapeV_at hx
      have hi : i < t.length := (List.getElem?_eq_some_iff.mp hx2).1
      have ec : t.getD i 0 = c := by rw [List.getD_eq_getElem?_getD, hx2]; rfl
      have sH3 := s.trans s3
      have pl : ∀ r : Bool, (decide (sh.n ≤ c) && decide (sh.txt (wo t i) b = x)) = r → sh.lostTo t b x (i + 1) = sh.lostTo t b x i ++ (if r = true then [i] else []) := fun r e => by
        unfold Sh.lostTo
        rw [range_snoc, ec, e]
      walk_at "r"
      refine use_is_shift (same_sh sH3 hv) ok ?_
      walk_at "r"
      refine w_dec (fun h1 => ?_) (fun h1 => ?_)
      · walk_at "r"
        refine use_without ⟨a, rfl, sH3 _ _ ha⟩ (by omega) fun p4 H4 n4 s4 e4 => ?_
        walk_at "r"
        have lw := wo_len t i
        refine use_gone (same_sh (sH3.trans s4) hv) ok ⟨p4, rfl, e4⟩ (sh.wo_codes hc) (by omega) fun p5 ps5 H5 s5 e5 _ => ?_
        have gp := s5 _ _ (s4 _ _ (s3 _ _ g))
        walk_at "r"
        rw [mkS_eq]
        refine w_dec (fun h2 => ?_) (fun h2 => ?_)
        · walk_at "r"
          refine r_app gp ?_ fun H6 k6 e6 => ?_
          · rw [tapeV_len]
            exact lt_size (Nat.lt_of_le_of_lt (len_filter_range _ _) (by omega))
          · refine ⟨_, _, rfl, k6.same ((sH3.trans s4).trans s5) pH, ?_⟩
            rw [e6, pl true (by rw [decide_eq_true h1, decide_eq_true h2]; rfl)]
            exact congrArg (fun l => some (HO.lst l)) (tapeV_app _ [i])
        · walk_at "r"
          refine ⟨_, _, rfl, (sH3.trans s4).trans s5, ?_⟩
          rw [pl false (by rw [decide_eq_false h2, Bool.and_false])]
          show _ = some (HO.lst (tapeV (_ ++ [])))
          rw [List.append_nil]
          exact gp
      · walk_at "r"
        refine ⟨_, _, rfl, sH3, ?_⟩
        rw [pl false (by rw [decide_eq_false h1, Bool.false_and])]
        show _ = some (HO.lst (tapeV (_ ++ [])))
        rw [List.append_nil]
        exact s3 _ _ g
    · rintro σ H' ⟨y5, y6, rfl, s, g⟩
      walk_at "r"
      rw [tapeV_len, lostTo_all] at g
      exact q p H' pH s g

/-! ### need_most -/
def spNeedMost : Sp := fun vs H Q E => ∃ (m : Nat), vs = [.int m] ∧ (m ≤ 32) ∧ (Q .non H)
theorem use_need_most {H : Hp} {Q : VK} {E : XK} {m : Nat} (hm : m ≤ 32) (q : Q .non H) : spNeedMost [.int m] H Q E := ⟨m, rfl, hm, q⟩

theorem ok_need_most {k : Nat} (T : TX mg) (F : Df K mg "need_most" s_need_most ["most"]) : OkAt P w K mg base "need_most" (k + 1) ["most"] spNeedMost := by
  refine F.ok sc_need_most (fun vs H Q E h => ?_) (fun f cdv A outer s H vs Q E hr h => ?_)
  · obtain ⟨m, rfl, _⟩ := h
    rfl
  obtain ⟨m, rfl, hm, q⟩ := h
  refine ⟨_, (pss_one (ps_if (pt_not (pt_chain op_uLe op_uLe pe_int (pv 0) (pe_gInt (by rfl) T.c_MOST_TEXT))) (pss_one ps_never) pss_nil)), ?_⟩
  walk_at "r"
  refine w_yes (by omega) ?_
  walk_at "r"
  refine w_nno (by omega) ?_
  walk_at "r"
  exact q

def spIsGuarded : Sp := fun vs H Q E => ∃ (v u : V) (sh : Sh) (t : List Nat) (b : Bool) (m : Nat), vs = [v, u, setV b, .int m] ∧ (IsSh H v sh) ∧ (sh.Ok) ∧ (IsTape H u t) ∧ (sh.Codes t) ∧ (t.length ≤ 100) ∧ (m ≤ 32) ∧ (∀ H', Same H H' → Q (.bl ((sh.rows t b).all fun r => decide (r.2 ≤ m))) H')
theorem use_is_guarded {H : Hp} {Q : VK} {E : XK} {v u : V} {sh : Sh} {t : List Nat} {b : Bool} {m : Nat} (hv : IsSh H v sh) (ok : sh.Ok) (hu : IsTape H u t) (hc : sh.Codes t) (hl : t.length ≤ 100) (hm : m ≤ 32) (q : ∀ H', Same H H' → Q (.bl ((sh.rows t b).all fun r => decide (r.2 ≤ m))) H') : spIsGuarded [v, u, setV b, .int m] H Q E := ⟨v, u, sh, t, b, m, rfl, hv, ok, hu, hc, hl, hm, q⟩

theorem rows_len (s : Sh) (t : List Nat) (b : Bool) : (s.rows t b).length ≤ t.length := by
  unfold Sh.rows Sh.places
  rw [List.length_map]
  exact len_filter_range _ _
theorem ok_is_guarded {k : Nat} (T : TX mg) (F : Df K mg "is_guarded" s_is_guarded ["sheet", "tape", "begin", "most"]) (o_need_all : OkAt P w K mg base "need_all" k ["sheet", "tape", "begin"] spNeedAll) (o_need_most : OkAt P w K mg base "need_most" k ["most"] spNeedMost) (o_all_spoilt : OkAt P w K mg base "all_spoilt" k ["sheet", "tape", "begin"] spAllSpoilt) : OkAt P w K mg base "is_guarded" (k + 1) ["sheet", "tape", "begin", "most"] spIsGuarded := by
  refine F.ok sc_is_guarded (fun vs H Q E h => ?_) (fun f cdv A outer s H vs Q E hr h => ?_)
  · obtain ⟨v, u, sh, t, b, m, rfl, _⟩ := h
    rfl
  obtain ⟨v, u, sh, t, b, m, rfl, hv, ok, hu, hc, hl, hm, q⟩ := h
  refine ⟨_, (pss_cons (ps_expr (pe_cl o_need_all hr (by rfl) (pa_cons (pv 0) (pa_cons (pv 1) (pa_cons (pv 2) pa_nil))))) (pss_cons (ps_expr (pe_cl o_need_most hr (by rfl) (pa_cons (pv 3) pa_nil))) (pss_one (ps_ret (pe_callB (cr_allB K) (by rfl) T.b_all (by decide +kernel) (pa_cons (pe_lc (own := [("place", 4), ("many", 5)]) (tt := tYes) rfl sc_is_guarded.nd (pi_listK K (pe_cl o_all_spoilt hr (by rfl) (pa_cons (pv 0) (pa_cons (pv 1) (pa_cons (pv 2) pa_nil))))) (blkOk_by (own := [("place", 4), ("many", 5)]) (N := ["sheet", "tape", "begin", "most", "place", "many"]) (sc := defScope s_is_guarded) (by decide +kernel)) (fun _ _ _ _ _ => (pg_tupK K (n := 2) rfl (pgs_cons (pg_name (i := 4) sc_is_guarded.nd rfl (by first | exact Or.inl rfl | exact Or.inr rfl)) (pgs_cons (pg_name (i := 5) sc_is_guarded.nd rfl (by first | exact Or.inl rfl | exact Or.inr rfl)) pgs_nil)))) (fun _ _ _ _ _ => pts_nil) (fun _ _ _ _ _ => (pe_cmpR op_uLe (pv 5) (pv 3) (nomark _)))) pa_nil)))))), ?_⟩
  walk_at "r"
  refine use_need_all hv ok hu hc hl fun H1 s1 => ?_
  walk_at "r"
  refine use_need_most hm ?_
  walk_at "r"
  refine use_all_spoilt (same_sh s1 hv) ok (same_tape s1 hu) hc (by omega) fun p xs H2 n2 s2 e2 d2 => ?_
  have hr1 := rows_len sh t b
  have lx := daAll_len d2
  rw [List.length_map] at lx
  refine c_list (fun i => (((sh.rows t b).take i).map fun r => decide (r.2 ≤ m)).map V.bl) e2 (by omega) rfl (fun i => by rw [List.length_map, List.length_map, List.length_take]; omega) (fun i x H' hx s Ky Kn hy hn => ?_) (fun p3 H3 n3 s3 e3 => ?_)
  · obtain ⟨q2, a, hq, rfl, ha⟩ := rowAt d2 hx
    have ha' := s _ _ ha
    walk_at "r"
    refine ⟨rfl, ?_⟩
    walk_at "r"
    refine hy _ _ (Same.refl _) ?_
    dsimp only
    rw [take_snoc hq, List.map_append, List.map_append]
    have e : decide ((q2.2 : Int) ≤ (m : Int)) = decide (q2.2 ≤ m) := by
      by_cases h : q2.2 ≤ m
      · rw [decide_eq_true h, decide_eq_true (by omega)]
      · rw [decide_eq_false h, decide_eq_false (by omega)]
    rw [e]
    rfl
  · rw [lx, List.take_length] at e3
    walk_at "r"
    refine r_all e3 ?_
    rw [List.all_map]
    exact q H3 ((s1.trans s2).trans s3)

namespace Sh
/-! ### guarded: the least by going from the end -/
def diff (s : Sh) (k : Nat) : Nat := if s.sign k false = s.sign k true then 0 else 1
def more (s : Sh) (k : Nat) : Option Nat → Option Nat
  | none => none
  | some j => some (j + s.diff k)
def mB (s : Sh) (k : Nat) (m : Option Nat) : Option Nat := if s.home = some k then none else s.more k m
def okM (most : Nat) : Option Nat → Bool
  | none => true
  | some j => decide (j ≤ most)
theorem okM_zero (most : Nat) : okM most (some 0) = true := by unfold okM; exact decide_eq_true (Nat.zero_le most)
def gs (s : Sh) (most : Nat) (o : Option Nat) (m : Option Nat) (f : Nat → Nat) : Nat := match o with
  | none => 1000
  | some k => if okM most (s.more k m) = true then min 1000 (1 + f k) else 1000
def G (s : Sh) (most : Nat) : List Nat → Bool → Option Nat → Nat
  | [], _, _ => 0
  | c :: t, b, m => min (s.gs most (s.code c b) m fun k => s.G most t (s.behind k b) (s.mB k m))
      (min (1 + s.gs most (s.code c b) none fun k => s.G most t (s.behind k b) (s.mB k none))
        (1 + min (s.gs most (s.code c (!b)) (some 0) fun k => s.G most t (s.behind k (!b)) (s.mB k (some 0))) (1 + s.gs most (s.code c (!b)) none fun k => s.G most t (s.behind k (!b)) (s.mB k none))))
def gS (s : Sh) (most : Nat) (c : Nat) (t : List Nat) (b : Bool) (m : Option Nat) : Nat := s.gs most (s.code c b) m fun k => s.G most t (s.behind k b) (s.mB k m)
theorem G_cons (s : Sh) (most c : Nat) (t : List Nat) (b : Bool) (m : Option Nat) :
    s.G most (c :: t) b m = min (s.gS most c t b m) (min (1 + s.gS most c t b none) (1 + min (s.gS most c t (!b) (some 0)) (1 + s.gS most c t (!b) none))) := rfl
theorem mB_none (s : Sh) (k : Nat) : s.mB k none = none := by unfold mB; split <;> rfl
theorem gS_none {s : Sh} {most c : Nat} {t : List Nat} {b : Bool} {m : Option Nat} (h : s.code c b = none) : s.gS most c t b m = 1000 := by
  unfold gS; rw [h]; rfl
theorem gS_no {s : Sh} {most c : Nat} {t : List Nat} {b : Bool} {m : Option Nat} {k : Nat} (h : s.code c b = some k) (hm : okM most (s.more k m) = false) : s.gS most c t b m = 1000 := by
  unfold gS gs; rw [h]; dsimp only; rw [if_neg (by rw [hm]; decide)]
theorem gS_yes {s : Sh} {most c : Nat} {t : List Nat} {b : Bool} {m : Option Nat} {k : Nat} (h : s.code c b = some k) (hm : okM most (s.more k m) = true) : s.gS most c t b m = min 1000 (1 + s.G most t (s.behind k b) (s.mB k m)) := by
  unfold gS gs; rw [h]; dsimp only; rw [if_pos hm]
theorem G_mono (s : Sh) (most : Nat) : ∀ (x : List Nat) (b : Bool) (m : Option Nat), s.G most x b none ≤ s.G most x b m
  | [], _, _ => Nat.le_refl _
  | c :: t, b, m => by
    rw [G_cons, G_cons]
    have h : s.gS most c t b none ≤ s.gS most c t b m := by
      cases e : s.code c b with
      | none => rw [gS_none e, gS_none e]; exact Nat.le_refl _
      | some k =>
        rw [gS_yes (m := none) e rfl]
        cases hm : okM most (s.more k m) with
        | false => rw [gS_no e hm]; exact Nat.min_le_left _ _
        | true =>
          rw [gS_yes e hm]
          have h1 := G_mono s most t (s.behind k b) (s.mB k m)
          rw [mB_none]
          omega
    omega
theorem gS_mono (s : Sh) (most c : Nat) (t : List Nat) (b : Bool) (m : Option Nat) : s.gS most c t b none ≤ s.gS most c t b m := by
  cases e : s.code c b with
  | none => rw [gS_none e, gS_none e]; exact Nat.le_refl _
  | some k =>
    rw [gS_yes (m := none) e rfl]
    cases hm : okM most (s.more k m) with
    | false => rw [gS_no e hm]; exact Nat.min_le_left _ _
    | true =>
      rw [gS_yes e hm]
      have h1 := G_mono s most t (s.behind k b) (s.mB k m)
      rw [mB_none]
      omega
theorem okM_le {a b : Nat} (h : a ≤ b) {m : Option Nat} (e : okM a m = true) : okM b m = true := by
  cases m with
  | none => rfl
  | some j => exact decide_eq_true (Nat.le_trans (of_decide_eq_true e) h)
theorem G_most (s : Sh) {p q : Nat} (h : p ≤ q) : ∀ (x : List Nat) (b : Bool) (m : Option Nat), s.G q x b m ≤ s.G p x b m
  | [], _, _ => Nat.le_refl _
  | c :: t, b, m => by
    have hh : ∀ b m, s.gS q c t b m ≤ s.gS p c t b m := fun b m => by
      cases e : s.code c b with
      | none => rw [gS_none e, gS_none e]; exact Nat.le_refl _
      | some k =>
        cases hm : okM p (s.more k m) with
        | false =>
          rw [gS_no e hm]
          cases hq : okM q (s.more k m) with
          | false => rw [gS_no e hq]; exact Nat.le_refl _
          | true => rw [gS_yes e hq]; exact Nat.min_le_left _ _
        | true =>
          rw [gS_yes e hm, gS_yes e (okM_le h hm)]
          have := G_most s h t (s.behind k b) (s.mB k m)
          omega
    rw [G_cons, G_cons]
    have h1 := hh b m
    have h2 := hh b none
    have h3 := hh (!b) (some 0)
    have h4 := hh (!b) none
    omega
theorem G_le (s : Sh) (most : Nat) : ∀ (x : List Nat) (b : Bool) (m : Option Nat), s.Can x → s.G most x b m ≤ 3 * x.length
  | [], _, _, _ => Nat.zero_le _
  | c :: t, b, m, h => by
    have ht : s.Can t := fun d hd => h d (List.mem_cons_of_mem _ hd)
    rw [G_cons, List.length_cons]
    cases e : s.code c b with
    | some k =>
      have := G_le s most t (s.behind k b) (s.mB k none) ht
      rw [gS_yes (m := none) e rfl]
      omega
    | none =>
      obtain ⟨k, hk⟩ := can_code h List.mem_cons_self b e
      have := G_le s most t (s.behind k (!b)) (s.mB k none) ht
      rw [gS_yes (m := none) hk rfl]
      omega
/-! ### its steps -/
abbrev GS := Nat × Bool × Option Nat
def gEdge (s : Sh) (most : Nat) (x : List Nat) (g : GS) : List (Nat × GS) := match x[g.1]? with
  | none => []
  | some c => (match s.code c g.2.1 with
    | none => []
    | some k => if okM most (s.more k g.2.2) = true then [(k, (g.1 + 1, s.behind k g.2.1, s.mB k g.2.2))] else []) ++ [(s.n + b2n g.2.1, (g.1, g.2.1, none)), (s.n + b2n (!g.2.1), (g.1, !g.2.1, some 0))]
def gAt (s : Sh) (most : Nat) (x : List Nat) (g : GS) : Nat := s.G most (x.drop g.1) g.2.1 g.2.2
/-- a step of a tape -/
def gStep (s : Sh) (most : Nat) (x : List Nat) (k : Nat) (g : GS) : Option GS :=
  if s.n ≤ k then (if k = s.n + b2n g.2.1 then some (g.1, g.2.1, none) else if k = s.n + b2n (!g.2.1) then some (g.1, !g.2.1, some 0) else none)
  else match x[g.1]? with
    | none => none
    | some c => if s.code c g.2.1 = some k ∧ okM most (s.more k g.2.2) = true then some (g.1 + 1, s.behind k g.2.1, s.mB k g.2.2) else none
def gRun (s : Sh) (most : Nat) (x : List Nat) : List Nat → GS → Option GS
  | [], g => some g
  | k :: t, g => (s.gStep most x k g).bind (s.gRun most x t)
theorem gRun_app (s : Sh) (most : Nat) (x : List Nat) : ∀ (t u : List Nat) (g : GS), s.gRun most x (t ++ u) g = (s.gRun most x t g).bind (s.gRun most x u)
  | [], _, _ => rfl
  | k :: t, u, g => by
    show (s.gStep most x k g).bind (s.gRun most x (t ++ u)) = ((s.gStep most x k g).bind (s.gRun most x t)).bind (s.gRun most x u)
    cases s.gStep most x k g with
    | none => rfl
    | some g' => exact gRun_app s most x t u g'
theorem b2n_lt (b : Bool) : b2n b < 2 := by cases b <;> decide
theorem b2n_ne (b : Bool) : b2n (!b) ≠ b2n b := by cases b <;> decide
theorem gEdge_step {s : Sh} (ok : s.Ok) {most : Nat} {x : List Nat} {g : GS} {e : Nat × GS} (h : e ∈ s.gEdge most x g) : s.gStep most x e.1 g = some e.2 ∧ e.1 < s.n + 2 ∧ e.2.1 ≤ x.length ∧ okM most e.2.2.2 = true := by
  unfold gEdge at h
  cases hx : x[g.1]? with
  | none => rw [hx] at h; cases h
  | some c =>
    rw [hx] at h
    dsimp only at h
    have hp : g.1 < x.length := (List.getElem?_eq_some_iff.mp hx).1
    have sh : ∀ (d : Bool) (m : Option Nat), e = (s.n + b2n d, (g.1, d, m)) → (d = g.2.1 ∧ m = none ∨ d = (!g.2.1) ∧ m = some 0) → s.gStep most x e.1 g = some e.2 ∧ e.1 < s.n + 2 ∧ e.2.1 ≤ x.length ∧ okM most e.2.2.2 = true := by
      rintro d m rfl hd
      have := b2n_lt d
      refine ⟨?_, by dsimp only; omega, by dsimp only; omega, ?_⟩
      · unfold gStep
        dsimp only
        rw [if_pos (Nat.le_add_right _ _)]
        rcases hd with ⟨rfl, rfl⟩ | ⟨rfl, rfl⟩
        · rw [if_pos rfl]
        · rw [if_neg (by have := b2n_ne g.2.1; omega), if_pos rfl]
      · rcases hd with ⟨_, rfl⟩ | ⟨_, rfl⟩
        · rfl
        · exact okM_zero most
    rcases List.mem_append.mp h with h | h
    · cases hk : s.code c g.2.1 with
      | none => rw [hk] at h; cases h
      | some k =>
        rw [hk] at h
        dsimp only at h
        have hlt := code_lt ok hk
        by_cases hm : okM most (s.more k g.2.2) = true
        · rw [if_pos hm] at h
          obtain rfl := List.mem_singleton.mp h
          refine ⟨?_, by dsimp only; omega, by dsimp only; omega, ?_⟩
          · unfold gStep
            dsimp only
            rw [if_neg (by omega), hx]
            dsimp only
            rw [if_pos ⟨hk, hm⟩]
          · dsimp only
            unfold mB
            split
            · rfl
            · exact hm
        · rw [if_neg hm] at h
          cases h
    · rcases List.mem_cons.mp h with h | h
      · exact sh _ _ h (.inl ⟨rfl, rfl⟩)
      · exact sh _ _ (List.mem_singleton.mp h) (.inr ⟨rfl, rfl⟩)
theorem drop_at {x : List Nat} {p c : Nat} (h : x[p]? = some c) : x.drop p = c :: x.drop (p + 1) := by
  obtain ⟨h1, h2⟩ := List.getElem?_eq_some_iff.mp h
  rw [← h2, List.getElem_cons_drop]
/-- no step leads nearer than one -/
theorem gStep_le {s : Sh} {most : Nat} {x : List Nat} {g g' : GS} {k : Nat} (h : s.gStep most x k g = some g') : s.gAt most x g ≤ 1 + s.gAt most x g' := by
  unfold gAt
  unfold gStep at h
  by_cases hk : s.n ≤ k
  · rw [if_pos hk] at h
    cases hx : x.drop g.1 with
    | nil => exact Nat.zero_le _
    | cons c t =>
      have m1 := s.gS_mono most c t g.2.1 (some 0)
      split at h
      · obtain rfl := Option.some.inj h
        dsimp only
        rw [hx, G_cons, G_cons]
        omega
      · split at h
        · obtain rfl := Option.some.inj h
          dsimp only
          rw [hx, G_cons, G_cons, Bool.not_not]
          omega
        · cases h
  · rw [if_neg hk] at h
    cases hx : x[g.1]? with
    | none => rw [hx] at h; cases h
    | some c =>
      rw [hx] at h
      dsimp only at h
      split at h
      · rename_i hc
        obtain rfl := Option.some.inj h
        dsimp only
        rw [drop_at hx, G_cons, gS_yes hc.1 hc.2]
        omega
      · cases h
theorem gRun_le {s : Sh} {most : Nat} {x : List Nat} : ∀ {t : List Nat} {g g' : GS}, s.gRun most x t g = some g' → s.gAt most x g ≤ t.length + s.gAt most x g'
  | [], g, g', h => by
    obtain rfl := Option.some.inj h
    omega
  | k :: t, g, g', h => by
    unfold gRun at h
    cases e : s.gStep most x k g with
    | none => rw [e] at h; cases h
    | some g1 =>
      rw [e] at h
      have h1 := gStep_le e
      have h2 := gRun_le (t := t) (g := g1) (g' := g') h
      rw [List.length_cons]
      omega
/-- some step leads nearer -/
theorem gEdge_best {s : Sh} {most : Nat} {x : List Nat} (hc : s.Can x) (hl : x.length ≤ 300) {g : GS} (hp : g.1 < x.length) (ok : s.Ok) : ∃ e ∈ s.gEdge most x g, s.gAt most x g = 1 + s.gAt most x e.2 := by
  have hx := getD_at hp
  generalize x.getD g.1 0 = c at hx
  have hd := drop_at hx
  have le : ∀ e ∈ s.gEdge most x g, s.gAt most x e.2 + 1 ≤ s.gAt most x g → s.gAt most x g = 1 + s.gAt most x e.2 := fun e he h => by
    have := gStep_le (gEdge_step ok he).1
    omega
  have ht : s.Can (x.drop g.1) := fun e he => hc e (List.mem_of_mem_drop he)
  have h3 := s.G_le most (x.drop g.1) g.2.1 g.2.2 ht
  rw [List.length_drop] at h3
  have e0 : s.gAt most x g = s.G most (c :: x.drop (g.1 + 1)) g.2.1 g.2.2 := by unfold gAt; rw [hd]
  have e1 : s.gAt most x (g.1, g.2.1, none) = s.G most (c :: x.drop (g.1 + 1)) g.2.1 none := by unfold gAt; dsimp only; rw [hd]
  have e2 : s.gAt most x (g.1, !g.2.1, some 0) = s.G most (c :: x.drop (g.1 + 1)) (!g.2.1) (some 0) := by unfold gAt; dsimp only; rw [hd]
  have g3 : s.gAt most x g ≤ 900 := by unfold gAt; omega
  rw [G_cons] at e0 e1 e2
  have m1 : (s.n + b2n g.2.1, ((g.1, g.2.1, none) : GS)) ∈ s.gEdge most x g := by
    unfold gEdge
    rw [hx]
    exact List.mem_append_right _ List.mem_cons_self
  have m2 : (s.n + b2n (!g.2.1), ((g.1, !g.2.1, some 0) : GS)) ∈ s.gEdge most x g := by
    unfold gEdge
    rw [hx]
    exact List.mem_append_right _ (List.mem_cons_of_mem _ List.mem_cons_self)
  by_cases h1 : s.gAt most x g = s.gS most c (x.drop (g.1 + 1)) g.2.1 g.2.2
  · cases ek : s.code c g.2.1 with
    | none =>
      rw [gS_none ek] at h1
      omega
    | some k =>
      cases hm : okM most (s.more k g.2.2) with
      | false =>
        rw [gS_no ek hm] at h1
        omega
      | true =>
        rw [gS_yes ek hm] at h1
        have m0 : (k, ((g.1 + 1, s.behind k g.2.1, s.mB k g.2.2) : GS)) ∈ s.gEdge most x g := by
          unfold gEdge
          rw [hx]
          dsimp only
          rw [ek]
          dsimp only
          rw [if_pos hm]
          exact List.mem_append_left _ (List.mem_singleton.mpr rfl)
        refine ⟨_, m0, le _ m0 ?_⟩
        show s.G most (x.drop (g.1 + 1)) (s.behind k g.2.1) (s.mB k g.2.2) + 1 ≤ _
        omega
  · by_cases h2 : s.gAt most x g = 1 + s.gS most c (x.drop (g.1 + 1)) g.2.1 none
    · refine ⟨_, m1, le _ m1 ?_⟩
      dsimp only
      omega
    · refine ⟨_, m2, le _ m2 ?_⟩
      dsimp only
      omega

/-! ### what is lost of a tape, step by step -/
end Sh
theorem diffs_app (a b A B : List Nat) (h : a.length = b.length) : (diffs a b).length ≤ (diffs (a ++ A) (b ++ B)).length := by
  unfold diffs
  rw [List.length_append, List.range_add, List.filter_append, List.length_append]
  have e : (List.range a.length).filter (fun k => !decide ((a ++ A).getD k 0 = (b ++ B).getD k 0)) = (List.range a.length).filter (fun k => !decide (a.getD k 0 = b.getD k 0)) := by
    refine List.filter_congr fun k hk => ?_
    have hk := List.mem_range.mp hk
    rw [List.getD_eq_getElem?_getD, List.getD_eq_getElem?_getD, List.getElem?_append_left hk, List.getElem?_append_left (by omega), ← List.getD_eq_getElem?_getD, ← List.getD_eq_getElem?_getD]
  rw [e]
  omega
theorem diffs_snoc (a b : List Nat) (x y : Nat) (h : a.length = b.length) : (diffs (a ++ [x]) (b ++ [y])).length = (diffs a b).length + if x = y then 0 else 1 := by
  unfold diffs
  rw [List.length_append, List.length_singleton, List.range_succ, List.filter_append, List.length_append]
  have e : (List.range a.length).filter (fun k => !decide ((a ++ [x]).getD k 0 = (b ++ [y]).getD k 0)) = (List.range a.length).filter (fun k => !decide (a.getD k 0 = b.getD k 0)) := by
    refine List.filter_congr fun k hk => ?_
    have hk := List.mem_range.mp hk
    rw [List.getD_eq_getElem?_getD, List.getD_eq_getElem?_getD, List.getElem?_append_left hk, List.getElem?_append_left (by omega), ← List.getD_eq_getElem?_getD, ← List.getD_eq_getElem?_getD]
  rw [e]
  congr 1
  have e1 : (a ++ [x]).getD a.length 0 = x := by rw [List.getD_eq_getElem?_getD, List.getElem?_append_right (Nat.le_refl _), Nat.sub_self]; rfl
  have e2 : (b ++ [y]).getD a.length 0 = y := by rw [h, List.getD_eq_getElem?_getD, List.getElem?_append_right (Nat.le_refl _), Nat.sub_self]; rfl
  rw [List.filter_cons, e1, e2]
  by_cases q : x = y
  · rw [if_pos q, decide_eq_true q]; rfl
  · rw [if_neg q, decide_eq_false q]; rfl
theorem diffs_self (a : List Nat) : (diffs a a).length = 0 := by
  unfold diffs
  rw [List.length_eq_zero_iff, List.filter_eq_nil_iff]
  intro k _
  rw [decide_eq_true rfl]
  decide
theorem wo_app {t : List Nat} {i : Nat} (u : List Nat) (h : i < t.length) : wo (t ++ u) i = wo t i ++ u := by
  unfold wo
  rw [List.take_append_of_le_length (by omega), List.drop_append_of_le_length (by omega), List.append_assoc]
theorem wo_snoc (t : List Nat) (k : Nat) : wo (t ++ [k]) t.length = t := by
  unfold wo
  rw [List.take_left, List.drop_of_length_le (by simp), List.append_nil]
namespace Sh
theorem txt_snoc_shift (s : Sh) (t : List Nat) {k : Nat} (h : s.n ≤ k) (b : Bool) : s.txt (t ++ [k]) b = s.txt t b := by
  rw [txt_app]
  show _ ++ ((if s.n ≤ k then [] else [s.sign k _]) ++ []) = _
  rw [if_pos h]
  exact List.append_nil _
theorem txt_snoc_sign (s : Sh) (t : List Nat) {k : Nat} (h : ¬ s.n ≤ k) (b : Bool) : s.txt (t ++ [k]) b = s.txt t b ++ [s.sign k (s.last t b)] := by
  rw [txt_app]
  show _ ++ ((if s.n ≤ k then [] else [s.sign k _]) ++ []) = _
  rw [if_neg h]
  rfl
theorem last_snoc (s : Sh) (t : List Nat) (k : Nat) (b : Bool) : s.last (t ++ [k]) b = s.behind k (s.last t b) := by
  rw [last_app]
  rfl
theorem behind_to (s : Sh) (d h : Bool) : s.behind (s.n + b2n d) h = d := by
  unfold behind
  rw [if_pos (Nat.le_add_right _ _)]
  cases d
  · exact decide_eq_false (by show ¬ s.n + 0 = s.n + 1; omega)
  · exact decide_eq_true rfl
def ham (s : Sh) (t : List Nat) (i : Nat) (b : Bool) : Nat := (diffs (s.txt t b) (s.txt (wo t i) b)).length
theorem ham_shift {s : Sh} {t : List Nat} {i k : Nat} (h : s.n ≤ k) (hi : i < t.length) (b : Bool) : s.ham (t ++ [k]) i b = s.ham t i b := by
  unfold ham
  rw [wo_app _ hi, txt_snoc_shift s _ h, txt_snoc_shift s _ h]
theorem ham_new {s : Sh} {t : List Nat} {k : Nat} (h : s.n ≤ k) (b : Bool) : s.ham (t ++ [k]) t.length b = 0 := by
  unfold ham
  rw [wo_snoc, txt_snoc_shift s _ h]
  exact diffs_self _
theorem ham_sign {s : Sh} {t : List Nat} {i k c : Nat} (h : ¬ s.n ≤ k) (hi : t[i]? = some c) (hc : s.n ≤ c) (b : Bool) : s.ham (t ++ [k]) i b = s.ham t i b + if s.sign k (s.last t b) = s.sign k (s.last (wo t i) b) then 0 else 1 := by
  unfold ham
  rw [wo_app _ (List.getElem?_eq_some_iff.mp hi).1, txt_snoc_sign s _ h, txt_snoc_sign s _ h]
  exact diffs_snoc _ _ _ _ (by rw [txt_many, txt_many, many_wo s hi hc])
theorem ham_le {s : Sh} {t : List Nat} {i c : Nat} (u : List Nat) (hi : t[i]? = some c) (hc : s.n ≤ c) (b : Bool) : s.ham t i b ≤ s.ham (t ++ u) i b := by
  unfold ham
  rw [wo_app _ (List.getElem?_eq_some_iff.mp hi).1, txt_app, txt_app]
  exact diffs_app _ _ _ _ (by rw [txt_many, txt_many, many_wo s hi hc])
/-- what is true of a tape that leads to g -/
structure Safe (s : Sh) (most : Nat) (x : List Nat) (b0 : Bool) (t : List Nat) (g : GS) : Prop where
  last : s.last t b0 = g.2.1
  txt : s.txt t b0 = x.take g.1
  len : g.1 ≤ x.length
  lost : ∀ i c, t[i]? = some c → s.n ≤ c → (s.last (wo t i) b0 = g.2.1 ∧ s.ham t i b0 ≤ most) ∨ (s.last (wo t i) b0 = (!g.2.1) ∧ g.2.2 = some (s.ham t i b0) ∧ s.ham t i b0 ≤ most)
  live : ∀ j, g.2.2 = some j → ∃ i c, t[i]? = some c ∧ s.n ≤ c ∧ s.last (wo t i) b0 = (!g.2.1) ∧ j = s.ham t i b0
theorem safe0 (s : Sh) (most : Nat) (x : List Nat) (b0 : Bool) : s.Safe most x b0 [] (0, b0, none) := ⟨rfl, rfl, Nat.zero_le _, fun i c h => by simp at h, fun j h => nomatch h⟩
theorem Safe.shift {s : Sh} {most : Nat} {x : List Nat} {b0 : Bool} {t : List Nat} {g : GS} (S : s.Safe most x b0 t g) (d : Bool) (m : Option Nat) (h : d = g.2.1 ∧ m = none ∨ d = (!g.2.1) ∧ m = some 0) : s.Safe most x b0 (t ++ [s.n + b2n d]) (g.1, d, m) := by
  have hk : s.n ≤ s.n + b2n d := Nat.le_add_right _ _
  refine ⟨by rw [last_snoc, behind_to], by rw [txt_snoc_shift s _ hk]; exact S.txt, S.len, fun i c hi hc => ?_, fun j hj => ?_⟩
  · by_cases hlt : i < t.length
    · rw [List.getElem?_append_left hlt] at hi
      rw [ham_shift hk hlt, wo_app _ hlt, last_snoc, behind_to]
      refine .inl ⟨rfl, ?_⟩
      rcases S.lost i c hi hc with z | z
      · exact z.2
      · exact z.2.2
    · have e : i = t.length := by
        have := (List.getElem?_eq_some_iff.mp hi).1
        rw [List.length_append, List.length_singleton] at this
        omega
      subst e
      rw [ham_new hk, wo_snoc, S.last]
      rcases h with ⟨rfl, rfl⟩ | ⟨rfl, rfl⟩
      · exact .inl ⟨rfl, Nat.zero_le _⟩
      · exact .inr ⟨(Bool.not_not _).symm, rfl, Nat.zero_le _⟩
  · rcases h with ⟨_, rfl⟩ | ⟨rfl, rfl⟩
    · cases hj
    · refine ⟨t.length, s.n + b2n (!g.2.1), by simp, hk, ?_, ?_⟩
      · rw [wo_snoc, S.last, Bool.not_not]
      · rw [ham_new hk]
        exact (Option.some.inj hj).symm
theorem behind_sign {s : Sh} {k : Nat} (h : ¬ s.n ≤ k) (b : Bool) : s.behind k b = if s.home = some k then false else b := by
  unfold behind
  rw [if_neg h]
theorem Safe.sign {s : Sh} {most : Nat} {x : List Nat} {b0 : Bool} {t : List Nat} {g : GS} (S : s.Safe most x b0 t g) {k c : Nat} (hk : ¬ s.n ≤ k) (hx : x[g.1]? = some c) (hc : s.sign k g.2.1 = c) (hm : okM most (s.more k g.2.2) = true) :
    s.Safe most x b0 (t ++ [k]) (g.1 + 1, s.behind k g.2.1, s.mB k g.2.2) := by
  have hp := (List.getElem?_eq_some_iff.mp hx).1
  refine ⟨by rw [last_snoc, S.last], ?_, hp, fun i d hi hd => ?_, fun j hj => ?_⟩
  · rw [txt_snoc_sign s _ hk, S.last, hc, S.txt]
    exact (take_snoc hx).symm
  · have hlt : i < t.length := by
      have := (List.getElem?_eq_some_iff.mp hi).1
      rw [List.length_append, List.length_singleton] at this
      by_cases e : i = t.length
      · subst e
        rw [List.getElem?_append_right (Nat.le_refl _), Nat.sub_self] at hi
        have : k = d := Option.some.inj hi
        omega
      · omega
    rw [List.getElem?_append_left hlt] at hi
    rw [ham_sign hk hi hd, wo_app _ hlt, last_snoc, S.last]
    rcases S.lost i d hi hd with ⟨z1, z2⟩ | ⟨z1, z2, z3⟩
    · rw [z1, if_pos rfl]
      exact .inl ⟨rfl, z2⟩
    · have ed : (if s.sign k g.2.1 = s.sign k (s.last (wo t i) b0) then 0 else 1) = s.diff k := by
        rw [z1]
        unfold diff
        cases g.2.1
        · rfl
        · show (if s.sign k true = s.sign k false then 0 else 1) = _
          by_cases q : s.sign k false = s.sign k true
          · rw [if_pos q, if_pos q.symm]
          · rw [if_neg q, if_neg (fun z => q z.symm)]
      rw [ed]
      rw [z2] at hm
      have hle : s.ham t i b0 + s.diff k ≤ most := of_decide_eq_true hm
      rw [z1, behind_sign hk, behind_sign hk]
      unfold mB
      by_cases hh : s.home = some k
      · rw [if_pos hh, if_pos hh]
        exact .inl ⟨rfl, hle⟩
      · rw [if_neg hh, if_neg hh, if_neg hh, z2]
        exact .inr ⟨rfl, rfl, hle⟩
  · unfold mB at hj
    by_cases hh : s.home = some k
    · rw [if_pos hh] at hj
      cases hj
    · rw [if_neg hh] at hj
      cases em : g.2.2 with
      | none => rw [em] at hj; cases hj
      | some j0 =>
        rw [em] at hj
        have ej : j0 + s.diff k = j := Option.some.inj hj
        obtain ⟨i, d, hi, hd, hl, e⟩ := S.live j0 em
        have hlt := (List.getElem?_eq_some_iff.mp hi).1
        refine ⟨i, d, by rw [List.getElem?_append_left hlt]; exact hi, hd, ?_, ?_⟩
        · rw [wo_app _ hlt, last_snoc, hl]
          dsimp only
          rw [behind_sign hk, behind_sign hk, if_neg hh, if_neg hh]
        · rw [ham_sign hk hi hd, S.last, hl, ← e, ← ej]
          congr 1
          unfold diff
          cases g.2.1
          · rfl
          · show _ = (if s.sign k true = s.sign k false then 0 else 1)
            by_cases q : s.sign k false = s.sign k true
            · rw [if_pos q, if_pos q.symm]
            · rw [if_neg q, if_neg (fun z => q z.symm)]
theorem Safe.step {s : Sh} {most : Nat} {x : List Nat} {b0 : Bool} {t : List Nat} {g g' : GS} {k : Nat} (S : s.Safe most x b0 t g) (h : s.gStep most x k g = some g') : s.Safe most x b0 (t ++ [k]) g' := by
  unfold gStep at h
  by_cases hk : s.n ≤ k
  · rw [if_pos hk] at h
    split at h
    · rename_i e
      obtain rfl := Option.some.inj h
      rw [e]
      exact S.shift _ _ (.inl ⟨rfl, rfl⟩)
    · split at h
      · rename_i e
        obtain rfl := Option.some.inj h
        rw [e]
        exact S.shift _ _ (.inr ⟨rfl, rfl⟩)
      · cases h
  · rw [if_neg hk] at h
    cases hx : x[g.1]? with
    | none => rw [hx] at h; cases h
    | some c =>
      rw [hx] at h
      dsimp only at h
      split at h
      · rename_i hc
        obtain rfl := Option.some.inj h
        exact S.sign hk hx (code_sign hc.1) hc.2
      · cases h
theorem Safe.run {s : Sh} {most : Nat} {x : List Nat} {b0 : Bool} : ∀ {u t : List Nat} {g g' : GS}, s.Safe most x b0 t g → s.gRun most x u g = some g' → s.Safe most x b0 (t ++ u) g'
  | [], t, g, g', S, h => by
    obtain rfl := Option.some.inj h
    rw [List.append_nil]
    exact S
  | k :: u, t, g, g', S, h => by
    unfold gRun at h
    cases e : s.gStep most x k g with
    | none => rw [e] at h; cases h
    | some g1 =>
      rw [e] at h
      have := Safe.run (u := u) (S.step e) h
      rw [List.append_assoc] at this
      exact this
/-- a tape that keeps the bound is one of those that are gone through -/
theorem run_of_kept {s : Sh} (ok : s.Ok) {most : Nat} {x : List Nat} {b0 : Bool} {t : List Nat} (hc : s.Codes t) (hx : s.txt t b0 = x) (kept : ∀ i c, t[i]? = some c → s.n ≤ c → s.ham t i b0 ≤ most) :
    ∀ (u v : List Nat) (g : GS), t = u ++ v → s.Safe most x b0 u g → ∃ g', s.gRun most x v g = some g' ∧ s.Safe most x b0 t g'
  | u, [], g, e, S => ⟨g, rfl, by rw [e, List.append_nil]; exact S⟩
  | u, k :: v, g, e, S => by
    have e2 : t = (u ++ [k]) ++ v := by rw [e, List.append_assoc]; rfl
    have hk2 : k < s.n + 2 := hc k (by rw [e]; exact List.mem_append_right _ List.mem_cons_self)
    have lu : (s.txt u b0).length = g.1 := by rw [S.txt, List.length_take, Nat.min_eq_left S.len]
    have st : ∃ g1, s.gStep most x k g = some g1 := by
      unfold gStep
      by_cases hk : s.n ≤ k
      · rw [if_pos hk]
        by_cases h1 : k = s.n + b2n g.2.1
        · exact ⟨_, if_pos h1⟩
        · rw [if_neg h1]
          by_cases h2 : k = s.n + b2n (!g.2.1)
          · exact ⟨_, if_pos h2⟩
          · refine absurd hk2 ?_
            have := b2n_lt g.2.1
            have := b2n_lt (!g.2.1)
            have := b2n_ne g.2.1
            omega
      · rw [if_neg hk]
        have hxp : x[g.1]? = some (s.sign k g.2.1) := by
          rw [← hx, e2, txt_app, txt_snoc_sign s _ hk, S.last, ← lu, List.append_assoc, List.getElem?_append_right (Nat.le_refl _), Nat.sub_self]
          rfl
        rw [hxp]
        dsimp only
        refine ⟨_, if_pos ⟨code_of_at ok (sign_at ok (by omega)), ?_⟩⟩
        cases em : g.2.2 with
        | none => rfl
        | some j =>
          obtain ⟨i, d, hi, hd, hl, ej⟩ := S.live j em
          have hlt := (List.getElem?_eq_some_iff.mp hi).1
          have h1 := ham_sign (k := k) hk hi hd b0
          have h2 := ham_le (s := s) (t := u ++ [k]) (i := i) (c := d) v (by rw [List.getElem?_append_left hlt]; exact hi) hd b0
          have h3 := kept i d (by rw [e, List.getElem?_append_left hlt]; exact hi) hd
          rw [← e2] at h2
          refine decide_eq_true (show j + s.diff k ≤ most from ?_)
          have ed : (if s.sign k (s.last u b0) = s.sign k (s.last (wo u i) b0) then 0 else 1) = s.diff k := by
            rw [hl, S.last]
            unfold diff
            cases g.2.1
            · rfl
            · show (if s.sign k true = s.sign k false then 0 else 1) = _
              by_cases q : s.sign k false = s.sign k true
              · rw [if_pos q, if_pos q.symm]
              · rw [if_neg q, if_neg (fun z => q z.symm)]
          rw [ed] at h1
          omega
    obtain ⟨g1, h1⟩ := st
    obtain ⟨g', h2, h3⟩ := run_of_kept ok hc hx kept (u ++ [k]) v g1 e2 (S.step h1)
    refine ⟨g', ?_, h3⟩
    unfold gRun
    rw [h1]
    exact h2
theorem kept_long {s : Sh} (ok : s.Ok) {most : Nat} {x : List Nat} {b0 : Bool} {t : List Nat} (hc : s.Codes t) (hx : s.txt t b0 = x) (kept : ∀ i c, t[i]? = some c → s.n ≤ c → s.ham t i b0 ≤ most) : s.G most x b0 none ≤ t.length := by
  obtain ⟨g, h1, S⟩ := run_of_kept ok hc hx kept [] t (0, b0, none) rfl (s.safe0 most x b0)
  have h2 := gRun_le h1
  have e : g.1 = x.length := by
    have := congrArg List.length S.txt
    rw [hx, List.length_take] at this
    have := S.len
    omega
  have h3 : s.gAt most x g = 0 := by
    unfold gAt
    rw [e, List.drop_length]
    rfl
  rw [h3] at h2
  exact h2
end Sh

/-! ### guarded's steps: a state is a place, a set and what may still be spoilt -/
def mI : Option Nat → Int
  | none => -1
  | some j => (j : Int)
def gK (g : Sh.GS) : List Key := [.inl (g.1 : Nat), .inl (b2n g.2.1 : Nat), .inl (mI g.2.2)]
def gV (g : Sh.GS) : List V := [.int (g.1 : Nat), setV g.2.1, .int (mI g.2.2)]
theorem gK_V (g : Sh.GS) : (gK g).map kV = gV g := rfl
theorem mI_inj {a b : Option Nat} (h : mI a = mI b) : a = b := by
  cases a with
  | none => cases b with
    | none => rfl
    | some j => exact absurd h (show ¬ (-1 : Int) = (j : Int) by omega)
  | some i => cases b with
    | none => exact absurd h (show ¬ (i : Int) = (-1 : Int) by omega)
    | some j =>
      have h : (i : Int) = (j : Int) := h
      rw [show i = j by omega]
theorem b2n_inj {a b : Bool} (h : b2n a = b2n b) : a = b := by
  cases a <;> cases b <;> first | rfl | (exact absurd h (by decide))
theorem gK_inj {g h : Sh.GS} (e : gK g = gK h) : g = h := by
  obtain ⟨p, b, m⟩ := g
  obtain ⟨p', b', m'⟩ := h
  unfold gK at e
  injection e with e1 e2
  injection e2 with e2 e3
  injection e3 with e3 _
  injection e1 with e1
  injection e2 with e2
  injection e3 with e3
  have e1 : (p : Int) = (p' : Int) := e1
  have e2 : ((b2n b : Nat) : Int) = ((b2n b' : Nat) : Int) := e2
  have e2' : b2n b = b2n b' := by omega
  have e3 : mI m = mI m' := e3
  rw [show p = p' by omega, b2n_inj e2', mI_inj e3]
def EdgeAt (H : Hp) (v : V) (e : Nat × Sh.GS) : Prop := ∃ a b, v = .ref a ∧ H a = some (.tup [.int (e.1 : Nat), .ref b]) ∧ H b = some (.tup (gV e.2))
structure AllE (H : Hp) (xs : List V) (es : List (Nat × Sh.GS)) : Prop where
  len : xs.length = es.length
  at_ : ∀ (i : Nat) v, xs[i]? = some v → ∃ e, es[i]? = some e ∧ EdgeAt H v e
theorem allE0 (H : Hp) : AllE H [] [] := ⟨rfl, fun i v h => by simp at h⟩
theorem AllE.keep {H H' : Hp} {xs : List V} {es : List (Nat × Sh.GS)} (h : AllE H xs es) (k : ∀ a ys, H a = some (.tup ys) → H' a = some (.tup ys)) : AllE H' xs es := ⟨h.len, fun i v hv => by
  obtain ⟨e, he, a, b, r1, r2, r3⟩ := h.at_ i v hv
  exact ⟨e, he, a, b, r1, k _ _ r2, k _ _ r3⟩⟩
theorem AllE.same {H H' : Hp} {xs : List V} {es : List (Nat × Sh.GS)} (h : AllE H xs es) (s : Same H H') : AllE H' xs es := h.keep fun a ys e => s _ _ e
theorem AllE.snoc {H : Hp} {xs : List V} {es : List (Nat × Sh.GS)} {v : V} {e : Nat × Sh.GS} (h : AllE H xs es) (k : EdgeAt H v e) : AllE H (xs ++ [v]) (es ++ [e]) := ⟨by rw [List.length_append, List.length_append, h.len]; rfl, fun i u hu => by
  by_cases hi : i < xs.length
  · rw [List.getElem?_append_left hi] at hu
    obtain ⟨e', h1, h2⟩ := h.at_ i u hu
    exact ⟨e', by rw [List.getElem?_append_left (by rw [← h.len]; exact hi)]; exact h1, h2⟩
  · rw [List.getElem?_append_right (by omega)] at hu
    have i0 : i - xs.length = 0 := by
      have := (List.getElem?_eq_some_iff.mp hu).1
      simpa using this
    rw [i0] at hu
    have hu : v = u := Option.some.inj hu
    refine ⟨e, ?_, hu ▸ k⟩
    rw [List.getElem?_append_right (by rw [← h.len]; omega), ← h.len, i0]
    rfl⟩
def spStepsFrom : Sp := fun vs H Q E => ∃ (v : V) (sh : Sh) (x : List Nat) (m : Nat) (a : Addr) (g : Sh.GS), vs = [v, .str (mkS x), .int m, .ref a] ∧ (IsSh H v sh) ∧ (sh.Ok) ∧ (x.length ≤ 32) ∧ (H a = some (.tup (gV g))) ∧ (∀ p xs H', H p = none → Same H H' → H' p = some (.lst xs) → AllE H' xs (sh.gEdge m x g) → Q (.ref p) H')
theorem use_steps_from {H : Hp} {Q : VK} {E : XK} {v : V} {sh : Sh} {x : List Nat} {m : Nat} {a : Addr} {g : Sh.GS} (hv : IsSh H v sh) (ok : sh.Ok) (hl : x.length ≤ 32) (ha : H a = some (.tup (gV g))) (q : ∀ p xs H', H p = none → Same H H' → H' p = some (.lst xs) → AllE H' xs (sh.gEdge m x g) → Q (.ref p) H') : spStepsFrom [v, .str (mkS x), .int m, .ref a] H Q E := ⟨v, sh, x, m, a, g, rfl, hv, ok, hl, ha, q⟩

/-- what a sign leads to -/
def signE (s : Sh) (m : Nat) (g : Sh.GS) (o : Option Nat) : List (Nat × Sh.GS) := match o with
  | none => []
  | some k => if Sh.okM m (s.more k g.2.2) = true then [(k, (g.1 + 1, s.behind k g.2.1, s.mB k g.2.2))] else []
theorem gEdge_eq {s : Sh} {m p c : Nat} {x : List Nat} {b : Bool} {mm o : Option Nat} (hx : x[p]? = some c) (hc : s.code c b = o) : s.gEdge m x (p, b, mm) = signE s m (p, b, mm) o ++ [(s.n + b2n b, (p, b, none)), (s.n + b2n (!b), (p, !b, some 0))] := by
  unfold Sh.gEdge
  dsimp only
  rw [hx]
  dsimp only
  rw [hc]
  cases o <;> rfl
theorem okM_dec (m : Nat) (o : Option Nat) : decide (mI o ≤ (m : Int)) = Sh.okM m o := by
  cases o with
  | none => exact decide_eq_true (show (-1 : Int) ≤ (m : Int) by omega)
  | some j =>
    show decide ((j : Int) ≤ (m : Int)) = decide (j ≤ m)
    by_cases h : j ≤ m
    · rw [decide_eq_true h, decide_eq_true (by omega)]
    · rw [decide_eq_false h, decide_eq_false (by omega)]
theorem diff_int (s : Sh) (k : Nat) : (if (!decide (mkS [s.sign k false] = mkS [s.sign k true])) = true then (1 : Int) else 0) = ((s.diff k : Nat) : Int) := by
  have e : decide (mkS [s.sign k false] = mkS [s.sign k true]) = decide (s.sign k false = s.sign k true) := sing_ne _ _
  rw [e]
  unfold Sh.diff
  by_cases h : s.sign k false = s.sign k true
  · rw [decide_eq_true h, if_pos h]; rfl
  · rw [decide_eq_false h, if_neg h]; rfl
theorem ok_steps_from {k : Nat} (T : TX mg) (F : Df K mg "steps_from" s_steps_from ["sheet", "text", "most", "state"]) (o_code_of : OkAt P w K mg base "code_of" k ["sheet", "sign", "number"] spCodeOf) (o_shift_to : OkAt P w K mg base "shift_to" k ["sheet", "number"] spShiftTo) (o_set_behind : OkAt P w K mg base "set_behind" k ["sheet", "code", "number"] spSetBehind) : OkAt P w K mg base "steps_from" (k + 1) ["sheet", "text", "most", "state"] spStepsFrom := by
  refine F.ok sc_steps_from (fun vs H Q E h => ?_) (fun f cdv A outer s H vs Q E hr h => ?_)
  · obtain ⟨v, sh, x, m, a, g, rfl, _⟩ := h
    rfl
  obtain ⟨v, sh, x, m, a, g, rfl, hv, ok, hl, ha, q⟩ := h
  refine ⟨_, (pss_cons (ps_asg (pv 3) (pg_tupK K (n := 3) rfl (pgs_cons (pg_name (i := 4) sc_steps_from.nd rfl (by first | exact Or.inl rfl | exact Or.inr rfl)) (pgs_cons (pg_name (i := 5) sc_steps_from.nd rfl (by first | exact Or.inl rfl | exact Or.inr rfl)) (pgs_cons (pg_name (i := 6) sc_steps_from.nd rfl (by first | exact Or.inl rfl | exact Or.inr rfl)) pgs_nil))))) (pss_cons (ps_set (i := 7) sc_steps_from.nd rfl (by first | exact Or.inl rfl | exact Or.inr rfl) (pe_lstN pa_nil)) (pss_cons (ps_set (i := 8) sc_steps_from.nd rfl (by first | exact Or.inl rfl | exact Or.inr rfl) (pe_ifExp (pt_cmpR op_uLt (pv 4) (pe_callB (cr_len K) (by rfl) T.b_len (by decide +kernel) (pa_cons (pv 1) pa_nil)) (nomark _)) (pe_cl o_code_of hr (by rfl) (pa_cons (pv 0) (pa_cons (pe_ix (ix_u K) (pv 1) (pv 4) (fun _ _ => rfl)) (pa_cons (pv 5) pa_nil)))) pe_non)) (pss_mid (ps_if (pt_cmpR op_uNotN (pv 8) pe_non (nomark _)) (pss_cons (ps_set (i := 9) sc_steps_from.nd rfl (by first | exact Or.inl rfl | exact Or.inr rfl) (pv 6)) (pss_mid (ps_if (pt_cmpR (op_uNe K hr.units) (pv 6) (pe_gInt (by rfl) T.c_NONE) (nomark _)) (pss_one (ps_set (i := 9) sc_steps_from.nd rfl (by first | exact Or.inl rfl | exact Or.inr rfl) (pe_op (op_uAdd K) (pv 6) (pe_callTy cr_int (by rfl) T.b_int (by decide +kernel) (pa_cons (pe_cmpR (op_uNe K hr.units) (pe_ix (ix_u K) (pe_ix (ix_u K) (pv 0) pe_int (fun _ _ => rfl)) (pv 8) (fun _ _ => rfl)) (pe_ix (ix_u K) (pe_ix (ix_u K) (pv 0) pe_int (fun _ _ => rfl)) (pv 8) (fun _ _ => rfl)) (nomark _)) pa_nil))))) pss_nil) (pss_one (ps_if (pt_cmpR op_uLe (pv 9) (pv 2) (nomark _)) (pss_one (ps_expr (pe_bmK K PySem.F.plainAttrs_list PySem.F.slot_list_append PySem.F.type_list_append mt_appendN (pv 7) (pa_cons (pe_tupN (pa_cons (pv 8) (pa_cons (pe_tupN (pa_cons (pe_op (op_uAdd K) (pv 4) pe_int) (pa_cons (pe_cl o_set_behind hr (by rfl) (pa_cons (pv 0) (pa_cons (pv 8) (pa_cons (pv 5) pa_nil)))) (pa_cons (pe_ifExp (pt_cmpR (op_uEq K hr.units) (pv 8) (pe_ix (ix_u K) (pv 0) pe_int (fun _ _ => rfl)) (nomark _)) (pe_gInt (by rfl) T.c_NONE) (pv 9)) pa_nil)))) pa_nil))) pa_nil)))) pss_nil)))) pss_nil) (pss_cons (ps_if (pt_cmpR op_uLt (pv 4) (pe_callB (cr_len K) (by rfl) T.b_len (by decide +kernel) (pa_cons (pv 1) pa_nil)) (nomark _)) (pss_cons (ps_expr (pe_bmK K PySem.F.plainAttrs_list PySem.F.slot_list_append PySem.F.type_list_append mt_appendN (pv 7) (pa_cons (pe_tupN (pa_cons (pe_cl o_shift_to hr (by rfl) (pa_cons (pv 0) (pa_cons (pv 5) pa_nil))) (pa_cons (pe_tupN (pa_cons (pv 4) (pa_cons (pv 5) (pa_cons (pe_gInt (by rfl) T.c_NONE) pa_nil)))) pa_nil))) pa_nil))) (pss_one (ps_expr (pe_bmK K PySem.F.plainAttrs_list PySem.F.slot_list_append PySem.F.type_list_append mt_appendN (pv 7) (pa_cons (pe_tupN (pa_cons (pe_cl o_shift_to hr (by rfl) (pa_cons (pv 0) (pa_cons (pe_op op_uSub pe_int (pv 5)) pa_nil))) (pa_cons (pe_tupN (pa_cons (pv 4) (pa_cons (pe_op op_uSub pe_int (pv 5)) (pa_cons pe_int pa_nil)))) pa_nil))) pa_nil))))) pss_nil) (pss_one (ps_ret (pv 7)))))))), ?_⟩
  obtain ⟨av, rfl, hav⟩ := id hv
  obtain ⟨p, b, mm⟩ := g
  have h26 := ok.most
  have ha' : H a = some (.tup [.int (p : Nat), setV b, .int (mI mm)]) := ha
  clear ha
  walk_at "r"
  intro p1 H1 n1 s1 e1
  have ld : ∀ {H' : Hp} {Q' : VK}, Q' (.int (x.length : Int)) H' → bLen K [.str (mkS x)] H' Q' := fun q => r_lenS (by rw [len_mkS]; exact le_size (by omega)) (by rw [len_mkS]; exact q)
  walk_at "r"
  refine ld ?_
  walk_at "r"
  refine w_dec (fun h => ?_) (fun h => ?_)
  · have hp : p < x.length := by omega
    have hx := getD_at hp
    generalize x.getD p 0 = c at hx
    walk_at "r"
    refine r_ixC hx (by omega) ?_
    walk_at "r"
    refine use_code_of (c := c) (same_sh s1 hv) ok ?_
    walk_at "r"
    generalize hcode : sh.code c b = o
    refine r_mid (fun σ H' => ∃ y9 xs, σ = [some (.ref av), some (.str (mkS x)), some (.int m), some (.ref a), some (.int (p : Nat)), some (setV b), some (.int (mI mm)), some (.ref p1), some (hV o), y9] ∧ Same H H' ∧ H' p1 = some (.lst xs) ∧ AllE H' xs (signE sh m (p, b, mm) o) ∧ xs.length ≤ 1) ?_ ?_
    · cases o with
      | none =>
        walk_at "r"
        refine w_nno rfl ?_
        walk_at "r"
        exact ⟨_, _, rfl, s1, e1, allE0 _, Nat.zero_le _⟩
      | some k =>
        have hk := Sh.code_lt ok hcode
        have hkn : k < 100000 := by unfold Sh.n at hk; omega
        have sl0 := Sh.signs_len ok false
        have sl1 := Sh.signs_len ok true
        have hav1 := s1 _ _ hav
        walk_at "r"
        refine w_nd (fun _ => ?_) (fun z => nomatch z)
        walk_at "r"
        refine r_mid (fun σ H' => σ = [some (.ref av), some (.str (mkS x)), some (.int m), some (.ref a), some (.int (p : Nat)), some (setV b), some (.int (mI mm)), some (.ref p1), some (.int (k : Nat)), some (.int (mI (sh.more k mm)))] ∧ Same H1 H') ?_ ?_
        · cases mm with
          | none =>
            walk_at "r"
            refine w_nno rfl ?_
            walk_at "r"
            exact ⟨rfl, Same.refl _⟩
          | some j =>
            walk_at "r"
            refine w_nd (fun _ => ?_) (fun z => absurd z (show ¬ (j : Int) = -1 by omega))
            walk_at "r"
            refine r_ixC (l := sh.signs false) (Sh.sign_at ok hk) (by rw [sl0]; unfold Sh.n; omega) ?_
            walk_at "r"
            refine r_ixC (l := sh.signs true) (Sh.sign_at ok hk) (by rw [sl1]; unfold Sh.n; omega) ?_
            walk_at "r"
            rw [diff_int]
            walk_at "r"
            exact ⟨by rw [show mI (some j) + ((sh.diff k : Nat) : Int) = mI (sh.more k (some j)) from (Int.natCast_add j (sh.diff k)).symm]; rfl, Same.refl _⟩
        · rintro σ H2 ⟨rfl, s2⟩
          have sH2 := s1.trans s2
          have hav2 := s2 _ _ hav1
          have e12 := s2 _ _ e1
          walk_at "r"
          rw [okM_dec]
          cases ho : Sh.okM m (sh.more k mm) with
          | false =>
            walk_at "r"
            refine ⟨_, _, rfl, sH2, e12, ?_, Nat.zero_le _⟩
            unfold signE
            dsimp only
            rw [if_neg (by rw [ho]; decide)]
            exact allE0 _
          | true =>
            have es : signE sh m (p, b, mm) (some k) = [] ++ [(k, (p + 1, sh.behind k b, sh.mB k mm))] := by
              unfold signE
              dsimp only
              rw [if_pos ho]
              rfl
            walk_at "r"
            refine use_set_behind (c := k) (same_sh sH2 hv) ok (by omega) ?_
            walk_at "r"
            refine r_eqV (by cases sh.home <;> rfl) ?_
            walk_at "r"
            refine w_dec (fun h2 => ?_) (fun h2 => ?_)
            · have hm : sh.mB k mm = none := if_pos (hV_eq.mp h2)
              walk_at "r"
              intro q3 H3 n3 s3 e3
              walk_at "r"
              intro q4 H4 n4 s4 e4
              walk_at "r"
              have e14 := s4 _ _ (s3 _ _ e12)
              have e34 := s4 _ _ e3
              refine r_app e14 (by show 0 < _; exact lt_size (by decide)) fun H5 k5 e5 => ?_
              refine ⟨_, _, rfl, k5.same (sH2.trans (s3.trans s4)) n1, e5, ?_, Nat.le_refl _⟩
              rw [es]
              refine (allE0 H5).snoc ⟨q4, q3, rfl, k5 _ _ (ne_of e4 e14 (fun z => nomatch z)) e4, ?_⟩
              rw [k5 _ _ (ne_of e34 e14 (fun z => nomatch z)) e34, hm]
              unfold gV
              rw [show ((p + 1 : Nat) : Int) = (p : Int) + 1 by omega]
              rfl
            · have hm : sh.mB k mm = sh.more k mm := if_neg fun z => h2 (hV_eq.mpr z)
              walk_at "r"
              intro q3 H3 n3 s3 e3
              walk_at "r"
              intro q4 H4 n4 s4 e4
              walk_at "r"
              have e14 := s4 _ _ (s3 _ _ e12)
              have e34 := s4 _ _ e3
              refine r_app e14 (by show 0 < _; exact lt_size (by decide)) fun H5 k5 e5 => ?_
              refine ⟨_, _, rfl, k5.same (sH2.trans (s3.trans s4)) n1, e5, ?_, Nat.le_refl _⟩
              rw [es]
              refine (allE0 H5).snoc ⟨q4, q3, rfl, k5 _ _ (ne_of e4 e14 (fun z => nomatch z)) e4, ?_⟩
              rw [k5 _ _ (ne_of e34 e14 (fun z => nomatch z)) e34, hm]
              unfold gV
              rw [show ((p + 1 : Nat) : Int) = (p : Int) + 1 by omega]
    · rintro σ H2 ⟨y9, xs, rfl, s2, e2, d2, l2⟩
      walk_at "r"
      refine ld ?_
      walk_at "r"
      refine w_yes h ?_
      walk_at "r"
      refine use_shift_to (same_sh s2 hv) ok ?_
      walk_at "r"
      intro q3 H3 n3 s3 e3
      walk_at "r"
      intro q4 H4 n4 s4 e4
      walk_at "r"
      have e24 := s4 _ _ (s3 _ _ e2)
      have e34 := s4 _ _ e3
      have s24 := s3.trans s4
      refine r_app e24 (lt_size (by omega)) fun H5 k5 e5 => ?_
      have sH5 := k5.same (s2.trans s24) n1
      have tk : ∀ a ys, H4 a = some (.tup ys) → H5 a = some (.tup ys) := fun a ys e => k5 _ _ (ne_of e e24 (fun z => nomatch z)) e
      have d5 := ((d2.same s24).keep tk).snoc (e := (sh.n + b2n b, (p, b, none))) ⟨q4, q3, rfl, tk _ _ e4, tk _ _ e34⟩
      walk_at "r"
      refine r_flip ?_
      walk_at "r"
      refine use_shift_to (same_sh sH5 hv) ok ?_
      walk_at "r"
      refine r_flip ?_
      walk_at "r"
      intro q6 H6 n6 s6 e6
      walk_at "r"
      intro q7 H7 n7 s7 e7
      walk_at "r"
      have e57 := s7 _ _ (s6 _ _ e5)
      have e67 := s7 _ _ e6
      have s57 := s6.trans s7
      refine r_app e57 (by rw [List.length_append]; exact lt_size (by show _ + 1 < _; omega)) fun H8 k8 e8 => ?_
      have tk8 : ∀ a ys, H7 a = some (.tup ys) → H8 a = some (.tup ys) := fun a ys e => k8 _ _ (ne_of e e57 (fun z => nomatch z)) e
      have d8 := ((d5.same s57).keep tk8).snoc (e := (sh.n + b2n (!b), (p, !b, some 0))) ⟨q7, q6, rfl, tk8 _ _ e7, tk8 _ _ e67⟩
      walk_at "r"
      refine q p1 _ H8 n1 (k8.same (sH5.trans s57) n1) e8 ?_
      rw [gEdge_eq hx hcode]
      rw [show ([(sh.n + b2n b, (p, b, none)), (sh.n + b2n (!b), (p, !b, some 0))] : List (Nat × Sh.GS)) = [(sh.n + b2n b, (p, b, none))] ++ [(sh.n + b2n (!b), (p, !b, some 0))] from rfl, ← List.append_assoc]
      exact d8
  · have hx : x[p]? = none := List.getElem?_eq_none (by omega)
    walk_at "r"
    refine r_mid (fun σ H' => ∃ y9, σ = [some (.ref av), some (.str (mkS x)), some (.int m), some (.ref a), some (.int (p : Nat)), some (setV b), some (.int (mI mm)), some (.ref p1), some .non, y9] ∧ H' = H1) ?_ ?_
    · walk_at "r"
      refine w_nno rfl ?_
      walk_at "r"
      exact ⟨_, rfl, rfl⟩
    · rintro σ H2 ⟨y9, rfl, rfl⟩
      walk_at "r"
      refine ld ?_
      walk_at "r"
      refine w_no h ?_
      walk_at "r"
      refine q p1 _ _ n1 s1 e1 ?_
      unfold Sh.gEdge
      dsimp only
      rw [hx]
      exact allE0 _

/-! ### guarded: level by level -/
theorem nodup_lt : ∀ (N : Nat) (l : List Nat), l.Nodup → (∀ x ∈ l, x < N) → l.length ≤ N
  | 0, l, _, h => by
    cases l with
    | nil => exact Nat.le_refl _
    | cons a l => exact absurd (h a List.mem_cons_self) (Nat.not_lt_zero _)
  | N + 1, l, nd, h => by
    by_cases hm : N ∈ l
    · have h1 := List.length_erase_of_mem hm
      have h2 := nodup_lt N (l.erase N) (nd.erase N) fun x hx => by
        have hx2 := (nd.mem_erase_iff).mp hx
        have := h x hx2.2
        have := hx2.1
        omega
      omega
    · refine Nat.le_succ_of_le (nodup_lt N l nd fun x hx => ?_)
      have := h x hx
      have : x ≠ N := fun z => hm (z ▸ hx)
      omega
def gNum (g : Sh.GS) : Nat := g.1 * 68 + b2n g.2.1 * 34 + (mI g.2.2 + 1).toNat
def Small (g : Sh.GS) : Prop := g.1 ≤ 32 ∧ Sh.okM 32 g.2.2 = true
theorem small_mI {g : Sh.GS} (h : Small g) : (mI g.2.2 + 1).toNat < 34 := by
  obtain ⟨p, b, m⟩ := g
  cases m with
  | none => exact Nat.lt_of_lt_of_le (show ((-1 : Int) + 1).toNat < 1 by decide) (by decide)
  | some j =>
    have : j ≤ 32 := of_decide_eq_true h.2
    show ((j : Int) + 1).toNat < 34
    omega
theorem gNum_inj {g h : Sh.GS} (a : Small g) (b : Small h) (e : gNum g = gNum h) : g = h := by
  have a2 := small_mI a
  have b2 := small_mI b
  have c1 := Sh.b2n_lt g.2.1
  have c2 := Sh.b2n_lt h.2.1
  unfold gNum at e
  have e1 : g.1 = h.1 := by omega
  have e2 : b2n g.2.1 = b2n h.2.1 := by omega
  have e3 : (mI g.2.2 + 1).toNat = (mI h.2.2 + 1).toNat := by omega
  have lo : ∀ m : Option Nat, -1 ≤ mI m := fun m => by
    cases m with
    | none => exact Int.le_refl _
    | some j => exact Int.le_trans (show (-1 : Int) ≤ 0 by decide) (Int.natCast_nonneg j)
  have l1 := lo g.2.2
  have l2 := lo h.2.2
  obtain ⟨p, b, m⟩ := g
  obtain ⟨p', b', m'⟩ := h
  dsimp only at e1 e2 e3 l1 l2
  rw [e1, b2n_inj e2, mI_inj (show mI m = mI m' by omega)]
theorem gs_few {ss : List Sh.GS} (nd : ss.Nodup) (h : ∀ g ∈ ss, Small g) : ss.length ≤ 2244 := by
  have h1 : (ss.map gNum).Nodup := by
    unfold List.Nodup at nd ⊢
    rw [List.pairwise_map]
    exact nd.imp_of_mem fun ha hb hne e => hne (gNum_inj (h _ ha) (h _ hb) e)
  have h2 := nodup_lt 2244 (ss.map gNum) h1 fun x hx => by
    obtain ⟨g, hg, rfl⟩ := List.mem_map.mp hx
    have h3 := small_mI (h g hg)
    have h4 := (h g hg).1
    have h5 := Sh.b2n_lt g.2.1
    unfold gNum
    omega
  rwa [List.length_map] at h2
/-- what is known after some of a round -/
structure Kn (s : Sh) (most : Nat) (x : List Nat) (st : Sh.GS) (N : Addr → Prop) (H : Hp) (kvs : KTs) (n : Nat) (B ss : List Sh.GS) : Prop where
  val : ∀ g v, valV kvs (gK g) = some v → ∃ a t, v = .ref a ∧ N a ∧ H a = some (.lst (tapeV t)) ∧ s.gRun most x t st = some g ∧ (t.length ≤ n ∨ t.length = n + 1 ∧ g ∈ B)
  cnt : kvs.length ≤ ss.length
  cntB : B.length ≤ ss.length
  nd : ss.Nodup
  has : ∀ g ∈ ss, (valV kvs (gK g)).isSome = true ∧ Small g
  inB : ∀ g ∈ B, (valV kvs (gK g)).isSome = true ∧ g.1 ≤ x.length
section
variable {s : Sh} {most : Nat} {x : List Nat} {st : Sh.GS} {N : Addr → Prop} {H H' : Hp} {kvs : KTs} {n : Nat} {B ss : List Sh.GS}
theorem Kn.few (k : Kn s most x st N H kvs n B ss) : kvs.length ≤ 2244 ∧ B.length ≤ 2244 := by
  have := gs_few k.nd fun g hg => (k.has g hg).2
  exact ⟨Nat.le_trans k.cnt this, Nat.le_trans k.cntB this⟩
theorem Kn.keep {N' : Addr → Prop} (k : Kn s most x st N H kvs n B ss) (h : ∀ a xs, N a → H a = some (.lst xs) → N' a ∧ H' a = some (.lst xs)) : Kn s most x st N' H' kvs n B ss :=
  ⟨fun g v e => by
    obtain ⟨a, t, e1, e2, e3, e4, e5⟩ := k.val g v e
    obtain ⟨h1, h2⟩ := h a _ e2 e3
    exact ⟨a, t, e1, h1, h2, e4, e5⟩, k.cnt, k.cntB, k.nd, k.has, k.inB⟩
theorem Kn.put (k : Kn s most x st N H kvs n B ss) {g : Sh.GS} {a : Addr} {t : List Nat} (hn : valV kvs (gK g) = none) (sm : Small g) (hx : g.1 ≤ x.length) (na : N a) (ha : H a = some (.lst (tapeV t))) (hr : s.gRun most x t st = some g) (hl : t.length ≤ n + 1) :
    Kn s most x st N H (putK kvs (gK g) (.ref a)) n (B ++ [g]) (ss ++ [g]) := by
  have some_ : ∀ g', (valV kvs (gK g')).isSome = true → (valV (putK kvs (gK g) (.ref a)) (gK g')).isSome = true := fun g' h => by
    rw [valV_put]
    split
    · rfl
    · exact h
  have new : (valV (putK kvs (gK g) (.ref a)) (gK g)).isSome = true := by rw [valV_put, if_pos rfl]; rfl
  refine ⟨fun g' v e => ?_, ?_, ?_, ?_, fun g' hg => ?_, fun g' hg => ?_⟩
  · rw [valV_put] at e
    by_cases h : gK g' = gK g
    · rw [if_pos h] at e
      have eg := gK_inj h
      subst eg
      refine ⟨a, t, (Option.some.inj e).symm, na, ha, hr, ?_⟩
      by_cases hn : t.length ≤ n
      · exact .inl hn
      · exact .inr ⟨by omega, by simp⟩
    · rw [if_neg h] at e
      obtain ⟨a', t', e1, e2, e3, e4, e5⟩ := k.val g' v e
      exact ⟨a', t', e1, e2, e3, e4, e5.imp id fun z => ⟨z.1, List.mem_append_left _ z.2⟩⟩
  · have := length_putK kvs (gK g) (.ref a)
    have := k.cnt
    rw [List.length_append]
    show _ ≤ _ + 1
    omega
  · have := k.cntB
    rw [List.length_append, List.length_append]
    show _ + 1 ≤ _ + 1
    omega
  · rw [List.nodup_append]
    refine ⟨k.nd, by simp, fun b hb c hc e => ?_⟩
    have hc : c = g := by simpa using hc
    have := (k.has b hb).1
    rw [e, hc, hn] at this
    cases this
  · rcases List.mem_append.mp hg with z | z
    · exact ⟨some_ _ (k.has g' z).1, (k.has g' z).2⟩
    · have : g' = g := by simpa using z
      rw [this]
      exact ⟨new, sm⟩
  · rcases List.mem_append.mp hg with z | z
    · exact ⟨some_ _ (k.inB g' z).1, (k.inB g' z).2⟩
    · have : g' = g := by simpa using z
      rw [this]
      exact ⟨new, hx⟩
theorem Kn.next (k : Kn s most x st N H kvs n B ss) : Kn s most x st N H kvs (n + 1) [] ss :=
  ⟨fun g v e => by
    obtain ⟨a, t, e1, e2, e3, e4, e5⟩ := k.val g v e
    exact ⟨a, t, e1, e2, e3, e4, .inl (by rcases e5 with z | z <;> omega)⟩, k.cnt, Nat.zero_le _, k.nd, k.has, fun g h => nomatch h⟩
/-- some state behind is on the way -/
theorem Kn.best (k : Kn s most x st N H kvs n B ss) (ok : s.Ok) (hc : s.Can x) (hl : x.length ≤ 300) {g : Sh.GS} (hp : g.1 < x.length) (hn : n + s.gAt most x g = s.gAt most x st) (hall : ∀ e ∈ s.gEdge most x g, (valV kvs (gK e.2)).isSome = true) :
    ∃ g' ∈ B, n + 1 + s.gAt most x g' = s.gAt most x st := by
  obtain ⟨e, he, h1⟩ := Sh.gEdge_best hc hl hp ok
  obtain ⟨v, hv⟩ := Option.isSome_iff_exists.mp (hall e he)
  obtain ⟨a, t, _, _, _, e4, e5⟩ := k.val _ _ hv
  have := Sh.gRun_le e4
  rcases e5 with z | z
  · omega
  · exact ⟨e.2, z.2, by omega⟩
end
/-- what guarded answers -/
def GT (s : Sh) (most : Nat) (x : List Nat) (b : Bool) (t : List Nat) : Prop := ∃ g : Sh.GS, s.gRun most x t (0, b, none) = some g ∧ g.1 = x.length ∧ t.length = s.G most x b none
def spGuarded : Sp := fun vs H Q E => ∃ (v : V) (sh : Sh) (x : List Nat) (b : Bool) (m : Nat), vs = [v, .str (mkS x), setV b, .int m] ∧ (IsSh H v sh) ∧ (sh.Ok) ∧ (sh.Can x) ∧ (x.length ≤ 32) ∧ (m ≤ 32) ∧ (∀ p t H', H p = none → Same H H' → H' p = some (.lst (tapeV t)) → GT sh m x b t → Q (.ref p) H')
theorem use_guarded {H : Hp} {Q : VK} {E : XK} {v : V} {sh : Sh} {x : List Nat} {b : Bool} {m : Nat} (hv : IsSh H v sh) (ok : sh.Ok) (hc : sh.Can x) (hl : x.length ≤ 32) (hm : m ≤ 32) (q : ∀ p t H', H p = none → Same H H' → H' p = some (.lst (tapeV t)) → GT sh m x b t → Q (.ref p) H') : spGuarded [v, .str (mkS x), setV b, .int m] H Q E := ⟨v, sh, x, b, m, rfl, hv, ok, hc, hl, hm, q⟩

/-- a list of states -/
def Lv (H : Hp) (L : List (Addr × Sh.GS)) : Prop := ∀ q ∈ L, H q.1 = some (.tup (gV q.2))
theorem ok_guarded {k : Nat} (T : TX mg) (F : Df K mg "guarded" s_guarded ["sheet", "text", "begin", "most"]) (o_need_sheet : OkAt P w K mg base "need_sheet" k ["sheet"] spNeedSheet) (o_need_text : OkAt P w K mg base "need_text" k ["sheet", "text"] spNeedText) (o_need_set : OkAt P w K mg base "need_set" k ["number"] spNeedSet) (o_need_most : OkAt P w K mg base "need_most" k ["most"] spNeedMost) (o_steps_from : OkAt P w K mg base "steps_from" k ["sheet", "text", "most", "state"] spStepsFrom) : OkAt P w K mg base "guarded" (k + 1) ["sheet", "text", "begin", "most"] spGuarded := by
  refine F.ok sc_guarded (fun vs H Q E h => ?_) (fun f cdv A outer s H vs Q E hr h => ?_)
  · obtain ⟨v, sh, x, b, m, rfl, _⟩ := h
    rfl
  obtain ⟨v, sh, x, b, m, rfl, hv, ok, hc, hl, hm, q⟩ := h
  refine ⟨_, (pss_cons (ps_expr (pe_cl o_need_sheet hr (by rfl) (pa_cons (pv 0) pa_nil))) (pss_cons (ps_expr (pe_cl o_need_text hr (by rfl) (pa_cons (pv 0) (pa_cons (pv 1) pa_nil)))) (pss_cons (ps_expr (pe_cl o_need_set hr (by rfl) (pa_cons (pv 2) pa_nil))) (pss_cons (ps_expr (pe_cl o_need_most hr (by rfl) (pa_cons (pv 3) pa_nil))) (pss_cons (ps_set (i := 4) sc_guarded.nd rfl (by first | exact Or.inl rfl | exact Or.inr rfl) (pe_tupN (pa_cons pe_int (pa_cons (pv 2) (pa_cons (pe_gInt (by rfl) T.c_NONE) pa_nil))))) (pss_cons (ps_set (i := 5) sc_guarded.nd rfl (by first | exact Or.inl rfl | exact Or.inr rfl) (pe_dispT (hu_of hr) (pps_cons (pv 4) (pe_lstN pa_nil) pps_nil) (by rfl) (by rfl) (by intro z; cases z) (by decide))) (pss_cons (ps_set (i := 6) sc_guarded.nd rfl (by first | exact Or.inl rfl | exact Or.inr rfl) (pe_lstN (pa_cons (pv 4) pa_nil))) (pss_one (ps_while PassesOwn.never (pt_val pe_bl) (pss_cons (ps_set (i := 7) sc_guarded.nd rfl (by first | exact Or.inl rfl | exact Or.inr rfl) (pe_lstN pa_nil)) (pss_cons (ps_for PassesOwn.never rfl (pi_listK K (pv 6)) (pg_name (i := 8) sc_guarded.nd rfl (by first | exact Or.inl rfl | exact Or.inr rfl)) (pss_cons (ps_if (pt_cmpR (op_uEq K hr.units) (pe_ix (ix_u K) (pv 8) pe_int (fun _ _ => rfl)) (pe_callB (cr_len K) (by rfl) T.b_len (by decide +kernel) (pa_cons (pv 1) pa_nil)) (nomark _)) (pss_one (ps_ret (pe_dget (hu_of hr) (pv 5) (pv 8) (fun _ _ => rfl)))) pss_nil) (pss_one (ps_for PassesOwn.never rfl (pi_listK K (pe_cl o_steps_from hr (by rfl) (pa_cons (pv 0) (pa_cons (pv 1) (pa_cons (pv 3) (pa_cons (pv 8) pa_nil)))))) (pg_tupK K (n := 2) rfl (pgs_cons (pg_name (i := 9) sc_guarded.nd rfl (by first | exact Or.inl rfl | exact Or.inr rfl)) (pgs_cons (pg_name (i := 10) sc_guarded.nd rfl (by first | exact Or.inl rfl | exact Or.inr rfl)) pgs_nil))) (pss_one (ps_if (pt_cmp (pc_dnotin (hu_of hr) (pv 10) (pv 5))) (pss_cons (ps_dput (hu_of hr) (pv 5) (pv 10) (pe_op (op_uAdd K) (pe_dget (hu_of hr) (pv 5) (pv 8) (fun _ _ => rfl)) (pe_lstN (pa_cons (pv 9) pa_nil))) rfl) (pss_one (ps_expr (pe_bmK K PySem.F.plainAttrs_list PySem.F.slot_list_append PySem.F.type_list_append mt_appendN (pv 7) (pa_cons (pv 10) pa_nil))))) pss_nil)))))) (pss_one (ps_set (i := 6) sc_guarded.nd rfl (by first | exact Or.inl rfl | exact Or.inr rfl) (pv 7)))))))))))))), ?_⟩
  obtain ⟨av, rfl, hav⟩ := id hv
  walk_at "r"
  refine use_need_sheet hv ok fun H1 s1 => ?_
  walk_at "r"
  refine use_need_text (same_sh s1 hv) ok hc hl fun H2 s2 => ?_
  walk_at "r"
  refine use_need_set fun H3 s3 => ?_
  walk_at "r"
  refine use_need_most hm ?_
  walk_at "r"
  intro f0 H4 n4 s4 e4
  walk_at "r"
  intro d H5 n5 s5 e5
  walk_at "r"
  intro l0 H6 n6 s6 e6
  walk_at "r"
  have s03 := (s1.trans s2).trans s3
  have s04 := s03.trans s4
  have s06 := (s04.trans s5).trans s6
  have dH : H d = none := s04.free n5
  have lH : H l0 = none := (s04.trans s5).free n6
  have d6 := s6 _ _ e5
  have f6 := s6 _ _ (s5 _ _ e4)
  refine ⟨d6, [(gK (0, b, none), f0, .ref l0)], rfl, fun r hr => ?_, Nat.le_of_ble_eq_true rfl, fun H7 k7 e7 => ?_⟩
  · rw [List.mem_singleton.mp hr]
    exact f6
  walk_at "r"
  intro lv H8 n8 s8 e8
  walk_at "r"
  generalize hst : ((0, b, none) : Sh.GS) = st
  have s7 : Same H H7 := k7.same s06 dH
  have kv0 : mergeT [] [(gK (0, b, none), V.ref l0)] = putK [] (gK st) (.ref l0) := by rw [← hst]; rfl
  have e78 : H8 d = some (.dT (putK [] (gK st) (.ref l0))) := by rw [← kv0]; exact s8 _ _ e7
  have l8 : H8 l0 = some (.lst (tapeV [])) := s8 _ _ (k7 _ _ (ne_of e6 d6 (fun z => nomatch z)) e6)
  have f8 : H8 f0 = some (.tup (gV st)) := by rw [← hst]; exact s8 _ _ (k7 _ _ (ne_of f6 d6 (fun z => nomatch z)) f6)
  have gle : sh.gAt m x st ≤ 96 := by
    rw [← hst]
    have := sh.G_le m x b none hc
    show sh.G m (x.drop 0) b none ≤ 96
    rw [List.drop_zero]
    omega
  have hgx : sh.gAt m x st = sh.G m x b none := by rw [← hst]; show sh.G m (x.drop 0) b none = _; rw [List.drop_zero]
  have kn0 : Kn sh m x st (fun a => H a = none) H8 (putK [] (gK st) (.ref l0)) 0 [] [st] := by
    refine ⟨fun g v e => ?_, length_putK _ _ _, Nat.zero_le _, by simp, fun g hg => ?_, fun g hg => nomatch hg⟩
    · rw [valV_put] at e
      by_cases h : gK g = gK st
      · rw [if_pos h] at e
        exact ⟨l0, [], (Option.some.inj e).symm, lH, l8, by rw [gK_inj h]; rfl, .inl (Nat.le_refl _)⟩
      · rw [if_neg h] at e
        cases e
    · rw [List.mem_singleton.mp hg, valV_put, if_pos rfl, ← hst]
      exact ⟨rfl, Nat.zero_le _, rfl⟩
  refine r_while (fun mm σ H' => ∃ (n : Nat) (lv : Addr) (L : List (Addr × Sh.GS)) (kvs : KTs) (ss : List Sh.GS) (y7 y8 y9 y10 : Option V), σ = [some (.ref av), some (.str (mkS x)), some (setV b), some (.int m), some (.ref f0), some (.ref d), some (.ref lv), y7, y8, y9, y10] ∧
    Same H H' ∧ H' d = some (.dT kvs) ∧ H' lv = some (.lst (L.map fun q => V.ref q.1)) ∧ Lv H' L ∧ (∀ q ∈ L, (valV kvs (gK q.2)).isSome = true ∧ q.2.1 ≤ x.length) ∧
    Kn sh m x st (fun a => H a = none) H' kvs n [] ss ∧ (∃ q ∈ L, n + sh.gAt m x q.2 = sh.gAt m x st) ∧ mm + n = sh.gAt m x st) (sh.gAt m x st) ?_ ?_
  · refine ⟨0, lv, [(f0, st)], _, [st], _, _, _, _, rfl, s7.trans s8, e78, e8, fun q hq => ?_, fun q hq => ?_, kn0, ⟨(f0, st), List.mem_singleton.mpr rfl, Nat.zero_add _⟩, rfl⟩
    · rw [List.mem_singleton.mp hq]; exact f8
    · rw [List.mem_singleton.mp hq]
      refine ⟨by rw [valV_put, if_pos rfl]; rfl, ?_⟩
      rw [← hst]
      exact Nat.zero_le _
  · rintro mm σ G ⟨n, lv, L, kvs, ss, y7, y8, y9, y10, rfl, sG, dG, lG, Lg, Lk, kn, best, hmm⟩
    walk_at "r"
    refine ⟨fun σ H' => ∃ m', m' < mm ∧ ∃ (n : Nat) (lv : Addr) (L : List (Addr × Sh.GS)) (kvs : KTs) (ss : List Sh.GS) (y7 y8 y9 y10 : Option V), σ = [some (.ref av), some (.str (mkS x)), some (setV b), some (.int m), some (.ref f0), some (.ref d), some (.ref lv), y7, y8, y9, y10] ∧
      Same H H' ∧ H' d = some (.dT kvs) ∧ H' lv = some (.lst (L.map fun q => V.ref q.1)) ∧ Lv H' L ∧ (∀ q ∈ L, (valV kvs (gK q.2)).isSome = true ∧ q.2.1 ≤ x.length) ∧
      Kn sh m x st (fun a => H a = none) H' kvs n [] ss ∧ (∃ q ∈ L, n + sh.gAt m x q.2 = sh.gAt m x st) ∧ m' + n = sh.gAt m x st, fun _ _ h => h, ?_⟩
    walk_at "r"
    intro bh G1 n1 g1 e1
    walk_at "r"
    have bhH : H bh = none := sG.free n1
    have lne : ∀ {a : Addr} {o : HO}, G a = some o → a ≠ bh := fun h => ne_of_none h n1
    have lv1 := g1 _ _ lG
    -- all that holds in the round
    refine f_list lv1 (fun i σ H' => ∃ (LB : List (Addr × Sh.GS)) (kvs : KTs) (ss : List Sh.GS) (y8 y9 y10 : Option V), σ = [some (.ref av), some (.str (mkS x)), some (setV b), some (.int m), some (.ref f0), some (.ref d), some (.ref lv), some (.ref bh), y8, y9, y10] ∧
      Same H H' ∧ H' d = some (.dT kvs) ∧ H' lv = some (.lst (L.map fun q => V.ref q.1)) ∧ H' bh = some (.lst (LB.map fun q => V.ref q.1)) ∧ Lv H' L ∧ Lv H' LB ∧ (∀ q ∈ L, (valV kvs (gK q.2)).isSome = true ∧ q.2 ∉ LB.map (·.2)) ∧
      Kn sh m x st (fun a => H a = none ∧ a ≠ bh) H' kvs n (LB.map (·.2)) ss ∧ (∀ j q, j < i → L[j]? = some q → q.2.1 < x.length ∧ ∀ e ∈ sh.gEdge m x q.2, (valV kvs (gK e.2)).isSome = true))
      ⟨[], kvs, ss, _, _, _, rfl, sG.trans g1, g1 _ _ dG, lv1, e1, fun q hq => g1 _ _ (Lg q hq), fun q hq => (nomatch hq), fun q hq => ⟨(Lk q hq).1, fun z => nomatch z⟩,
        kn.keep fun a xs na ha => ⟨⟨na, lne ha⟩, g1 _ _ ha⟩, fun j q hj => absurd hj (Nat.not_lt_zero _)⟩ (fun i σ H' _ ⟨_, _, _, _, _, _, _, _, _, h, _⟩ => h) ?_ ?_
    · rintro i v σ G2 hx2 ⟨LB, kvs, ss, y8, y9, y10, rfl, s2, d2, lv2, b2, Lg2, Lb2, Lk2, kn2, done⟩
      obtain ⟨q0, hq0, rfl⟩ : ∃ q0, L[i]? = some q0 ∧ v = .ref q0.1 := by
        rw [List.getElem?_map] at hx2
        cases e : L[i]? with
        | none => rw [e] at hx2; cases hx2
        | some q0 => rw [e] at hx2; exact ⟨q0, rfl, (Option.some.inj hx2).symm⟩
      have hm0 : q0 ∈ L := List.mem_of_getElem? hq0
      obtain ⟨⟨p, c, mk⟩, hg0⟩ : ∃ g : Sh.GS, q0.2 = g := ⟨_, rfl⟩
      have t2 : G2 q0.1 = some (.tup [.int (p : Nat), setV c, .int (mI mk)]) := by rw [Lg2 q0 hm0, hg0]; rfl
      obtain ⟨k2, nB⟩ := Lk2 q0 hm0
      obtain ⟨v0, hv0⟩ := Option.isSome_iff_exists.mp k2
      obtain ⟨ta, t, rfl, ⟨tH, tb⟩, ht, hrun, hlen⟩ := kn2.val _ _ hv0
      have hlen : t.length ≤ n := by
        rcases hlen with z | z
        · exact z
        · exact absurd z.2 nB
      walk_at "r"
      refine r_lenS (by rw [len_mkS]; exact le_size (by omega)) ?_
      rw [len_mkS]
      walk_at "r"
      refine w_dec (fun h => ?_) (fun h => ?_)
      · walk_at "r"
        refine r_getT (k := gK q0.2) (.of d2) (Lg2 q0 hm0) hv0 ?_
        refine q ta t G2 tH s2 ht ⟨q0.2, by rw [hst]; exact hrun, by rw [hg0]; show p = x.length; omega, ?_⟩
        have g0 := Sh.gRun_le hrun
        have : sh.gAt m x q0.2 = 0 := by
          rw [hg0]
          show sh.G m (x.drop p) c mk = 0
          rw [List.drop_of_length_le (by omega)]
          rfl
        omega
      · have hp0 : p ≤ x.length := by
          have := (Lk q0 hm0).2
          rw [hg0] at this
          exact this
        have hp : p < x.length := by omega
        walk_at "r"
        refine use_steps_from (same_sh s2 hv) ok (by omega) (Lg2 q0 hm0) fun es xs G3 n3 g3 e3 a3 => ?_
        walk_at "r"
        have ned : ∀ {a : Addr} {ys : List V}, G2 a = some (.lst ys) → a ≠ d := fun h => ne_of h d2 (fun z => nomatch z)
        have esd : es ≠ d := (ne_of_none d2 n3).symm
        have esb : es ≠ bh := (ne_of_none b2 n3).symm
        have est : es ≠ lv := (ne_of_none lv2 n3).symm
        have lvd : lv ≠ d := ned lv2
        have lvb : lv ≠ bh := lne lG
        have bhd : bh ≠ d := ned b2
        refine f_list e3 (fun j σ H' => ∃ (LB : List (Addr × Sh.GS)) (kvs : KTs) (ss : List Sh.GS) (y9 y10 : Option V), σ = [some (.ref av), some (.str (mkS x)), some (setV b), some (.int m), some (.ref f0), some (.ref d), some (.ref lv), some (.ref bh), some (.ref q0.1), y9, y10] ∧
          Same H H' ∧ H' d = some (.dT kvs) ∧ H' lv = some (.lst (L.map fun q => V.ref q.1)) ∧ H' bh = some (.lst (LB.map fun q => V.ref q.1)) ∧ Lv H' L ∧ Lv H' LB ∧ (∀ q ∈ L, (valV kvs (gK q.2)).isSome = true ∧ q.2 ∉ LB.map (·.2)) ∧
          Kn sh m x st (fun a => H a = none ∧ a ≠ bh) H' kvs n (LB.map (·.2)) ss ∧ (∀ j q, j < i → L[j]? = some q → q.2.1 < x.length ∧ ∀ e ∈ sh.gEdge m x q.2, (valV kvs (gK e.2)).isSome = true) ∧
          H' es = some (.lst xs) ∧ AllE H' xs (sh.gEdge m x q0.2) ∧ (∀ k e, k < j → (sh.gEdge m x q0.2)[k]? = some e → (valV kvs (gK e.2)).isSome = true))
          ⟨LB, kvs, ss, _, _, rfl, s2.trans g3, g3 _ _ d2, g3 _ _ lv2, g3 _ _ b2, fun q hq => g3 _ _ (Lg2 q hq), fun q hq => g3 _ _ (Lb2 q hq), Lk2, kn2.keep fun a ys na ha => ⟨na, g3 _ _ ha⟩, done, e3, a3, fun k e hk => absurd hk (Nat.not_lt_zero _)⟩
          (fun j σ H' _ ⟨_, _, _, _, _, _, _, _, _, _, _, _, _, _, _, h, _⟩ => h) ?_ ?_
        · rintro j v σ G4 hx4 ⟨LB, kvs, ss, y9, y10, rfl, s4, d4, lv4, b4, Lg4, Lb4, Lk4, kn4, done4, e4, a4, don4⟩
          obtain ⟨e, he, ea, eb, rfl, ha4, hb4⟩ := a4.at_ j v hx4
          have hem : e ∈ sh.gEdge m x q0.2 := List.mem_of_getElem? he
          obtain ⟨st1, st2, st3, st4⟩ := Sh.gEdge_step ok hem
          have hx5 : ∀ kvs' : KTs, (∀ g, (valV kvs (gK g)).isSome = true → (valV kvs' (gK g)).isSome = true) → (valV kvs' (gK e.2)).isSome = true → ∀ k e', k < j + 1 → (sh.gEdge m x q0.2)[k]? = some e' → (valV kvs' (gK e'.2)).isSome = true := fun kvs' h1 h2 k e' hk he' => by
            by_cases z : k < j
            · exact h1 _ (don4 k e' z he')
            · have : k = j := by omega
              rw [this, he] at he'
              rw [← Option.some.inj he']
              exact h2
          walk_at "r"
          refine r_hasT (k := gK e.2) (.of d4) hb4 ?_
          cases hv : valV kvs (gK e.2) with
          | some w =>
            walk_at "r"
            try rw [if_neg (show ¬ (!(some w).isSome) = true from fun z => nomatch z)]
            walk_at "r"
            exact ⟨LB, kvs, ss, _, _, rfl, s4, d4, lv4, b4, Lg4, Lb4, Lk4, kn4, done4, e4, a4, hx5 kvs (fun _ h => h) (by rw [hv]; rfl)⟩
          | none =>
            have k4 := (Lk4 q0 hm0).1
            obtain ⟨v1, hv1⟩ := Option.isSome_iff_exists.mp k4
            obtain ⟨ta4, t4, rfl, ⟨tH4, tb4⟩, ht4, hrun4, hlen4⟩ := kn4.val _ _ hv1
            have hlen4 : t4.length ≤ n := by
              rcases hlen4 with z | z
              · exact z
              · exact absurd z.2 (Lk4 q0 hm0).2
            walk_at "r"
            try rw [if_pos (show (!(none : Option V).isSome) = true from rfl)]
            walk_at "r"
            refine r_getT (k := gK q0.2) (.of d4) (Lg4 q0 hm0) hv1 ?_
            walk_at "r"
            intro c5 G5 n5' g5 e5'
            walk_at "r"
            refine r_addL (g5 _ _ ht4) e5' (by rw [tapeV_len]; exact le_size (by show _ + 1 ≤ _; omega)) fun nt G6 n6' g6 e6' => ?_
            walk_at "r"
            have g46 := g5.trans g6
            have ntH : H nt = none := (s4.trans g5).free n6'
            have ntb : nt ≠ bh := (ne_of_none (g5 _ _ b4) n6').symm
            have few := kn4.few
            have d6' := g46 _ _ d4
            have b6' := g46 _ _ b4
            refine r_putT (k := gK e.2) d6' (g46 _ _ hb4) (by omega) fun G7 k7' e7' => ?_
            walk_at "r"
            have ld : ∀ {a : Addr} {ys : List V}, G6 a = some (.lst ys) → G7 a = some (.lst ys) := fun h => k7' _ _ (ne_of h d6' (fun z => nomatch z)) h
            have td : ∀ {a : Addr} {ys : List V}, G6 a = some (.tup ys) → G7 a = some (.tup ys) := fun h => k7' _ _ (ne_of h d6' (fun z => nomatch z)) h
            have b7' := ld b6'
            refine r_app b7' (by rw [List.length_map]; have := few.2; rw [List.length_map] at this; exact lt_size (by omega)) fun G8 k8' e8' => ?_
            have lb : ∀ {a : Addr} {ys : List V}, a ≠ bh → G6 a = some (.lst ys) → G8 a = some (.lst ys) := fun hne h => k8' _ _ hne (ld h)
            have tb' : ∀ {a : Addr} {ys : List V}, G6 a = some (.tup ys) → G8 a = some (.tup ys) := fun h => k8' _ _ (ne_of (td h) b7' (fun z => nomatch z)) (td h)
            have tt : ∀ {a : Addr} {ys : List V}, G4 a = some (.tup ys) → G8 a = some (.tup ys) := fun h => tb' (g46 _ _ h)
            have some_ : ∀ g, (valV kvs (gK g)).isSome = true → (valV (putK kvs (gK e.2) (.ref nt)) (gK g)).isSome = true := fun g h => by
              rw [valV_put]
              split
              · rfl
              · exact h
            have kn8 : Kn sh m x st (fun a => H a = none ∧ a ≠ bh) G8 kvs n (LB.map (·.2)) ss := kn4.keep fun a ys na ha => ⟨na, lb na.2 (g46 _ _ ha)⟩
            have nt8 : G8 nt = some (.lst (tapeV (t4 ++ [e.1]))) := by
              rw [lb ntb e6']
              exact congrArg (fun l => some (HO.lst l)) (tapeV_app t4 [e.1])
            have run8 : sh.gRun m x (t4 ++ [e.1]) st = some e.2 := by
              rw [Sh.gRun_app, hrun4]
              show (sh.gStep m x e.1 q0.2).bind _ = _
              rw [st1]
              rfl
            have sm : Small e.2 := ⟨by omega, Sh.okM_le hm st4⟩
            have kn9 := kn8.put hv sm st3 ⟨ntH, ntb⟩ nt8 run8 (by rw [List.length_append]; show _ + 1 ≤ _; omega)
            refine ⟨LB ++ [(eb, e.2)], _, ss ++ [e.2], _, _, rfl, k8'.same (k7'.same (s4.trans g46) dH) bhH, k8' _ _ bhd.symm e7', lb lvb (g46 _ _ lv4), ?_, fun q hq => tt (Lg4 q hq), fun q hq => ?_, fun q hq => ⟨some_ _ (Lk4 q hq).1, fun z => ?_⟩, ?_, fun j q hj hq => ⟨(done4 j q hj hq).1, fun e' h' => some_ _ ((done4 j q hj hq).2 e' h')⟩, lb esb (g46 _ _ e4), a4.keep fun a ys h => tt h, hx5 _ some_ (by rw [valV_put, if_pos rfl]; rfl)⟩
            · rw [e8', List.map_append]
              rfl
            · rcases List.mem_append.mp hq with z | z
              · exact tt (Lb4 q z)
              · rw [List.mem_singleton.mp z]
                exact tt hb4
            · rw [List.map_append] at z
              rcases List.mem_append.mp z with z | z
              · exact (Lk4 q hq).2 z
              · have z : q.2 = e.2 := by simpa using z
                have := (Lk4 q hq).1
                rw [z, hv] at this
                cases this
            · rw [List.map_append]
              exact kn9
        · rintro σ G4 ⟨LB, kvs, ss, y9, y10, rfl, s4, d4, lv4, b4, Lg4, Lb4, Lk4, kn4, done4, e4, a4, don4⟩
          refine ⟨LB, kvs, ss, _, _, _, rfl, s4, d4, lv4, b4, Lg4, Lb4, Lk4, kn4, fun j q hj hq => ?_⟩
          by_cases z : j < i
          · exact done4 j q z hq
          · have : j = i := by omega
            rw [this, hq0] at hq
            have hq := Option.some.inj hq
            subst hq
            refine ⟨by rw [hg0]; exact hp, fun e he => ?_⟩
            obtain ⟨k, hk⟩ := List.getElem?_of_mem he
            refine don4 k e ?_ hk
            rw [a3.len]
            exact (List.getElem?_eq_some_iff.mp hk).1
    · rintro σ G2 ⟨LB, kvs, ss, y8, y9, y10, rfl, s2, d2, lv2, b2, Lg2, Lb2, Lk2, kn2, done⟩
      walk_at "r"
      obtain ⟨q0, hq0, hbest⟩ := best
      obtain ⟨i0, hi0⟩ := List.getElem?_of_mem hq0
      obtain ⟨hp0, hall⟩ := done i0 q0 (by rw [List.length_map]; exact (List.getElem?_eq_some_iff.mp hi0).1) hi0
      obtain ⟨g', hg', hb'⟩ := kn2.best ok hc (by omega) hp0 hbest hall
      obtain ⟨qb, hqb, rfl⟩ := List.mem_map.mp hg'
      refine ⟨mm - 1, by omega, n + 1, bh, LB, kvs, ss, _, _, _, _, rfl, s2, d2, b2, Lb2, fun q hq => kn2.inB _ (List.mem_map.mpr ⟨q, hq, rfl⟩), (kn2.next).keep fun a ys na ha => ⟨na.1, ha⟩, ⟨qb, hqb, hb'⟩, by omega⟩

/-! ### joining -/
namespace Sh
def led (s : Sh) (t : List Nat) (b h : Bool) : List Nat := if s.txt t h = s.txt t b then t else (s.n + b2n b) :: t
theorem txt_led (s : Sh) (t : List Nat) (b h : Bool) : s.txt (s.led t b h) h = s.txt t b := by
  unfold led
  split
  · assumption
  · exact txt_shift s t b h
theorem led_len (s : Sh) (t : List Nat) (b h : Bool) : (s.led t b h).length ≤ t.length + 1 := by
  unfold led
  split
  · omega
  · exact Nat.le_refl _
theorem led_codes {s : Sh} {t : List Nat} {b h : Bool} (hc : s.Codes t) : s.Codes (s.led t b h) := by
  unfold led
  split
  · exact hc
  · intro c hm
    rcases List.mem_cons.mp hm with z | z
    · rw [z]
      unfold b2n
      split <;> omega
    · exact hc c z
theorem codes_app {s : Sh} {t u : List Nat} (h1 : s.Codes t) (h2 : s.Codes u) : s.Codes (t ++ u) := fun c hm => by
  rcases List.mem_append.mp hm with z | z
  · exact h1 c z
  · exact h2 c z
theorem codes_take {s : Sh} {t : List Nat} {i : Nat} (h : s.Codes t) : s.Codes (t.take i) := fun c hm => h c (List.mem_of_mem_take hm)
theorem codes_drop {s : Sh} {t : List Nat} {i : Nat} (h : s.Codes t) : s.Codes (t.drop i) := fun c hm => h c (List.mem_of_mem_drop hm)
def join (s : Sh) (b : Bool) (ts : List (List Nat)) : List Nat := ts.foldl (fun f t => f ++ s.led t b (s.last f b)) []
theorem join_snoc (s : Sh) (b : Bool) (ts : List (List Nat)) (t : List Nat) : s.join b (ts ++ [t]) = s.join b ts ++ s.led t b (s.last (s.join b ts) b) := by
  unfold join
  rw [List.foldl_append]
  rfl
end Sh
theorem sets_end1 (sh : Sh) (t : List Nat) (b : Bool) : atI (setV b :: (sh.sets t b).map setV) (-1) = some (setV (sh.last t b)) := by
  have e := sh.sets_last t b
  obtain ⟨l, x, hl⟩ : ∃ l x, b :: sh.sets t b = l ++ [x] := ⟨_, _, (List.dropLast_concat_getLast (List.cons_ne_nil _ _)).symm⟩
  have e3 : setV b :: (sh.sets t b).map setV = l.map setV ++ [setV x] := by
    rw [show setV b :: (sh.sets t b).map setV = (b :: sh.sets t b).map setV from rfl, hl, List.map_append]
    rfl
  rw [hl, List.getLast?_concat] at e
  rw [e3, ← Option.some.inj e]
  exact atI_last _ _
def spSetAt : Sp := fun vs H Q E => ∃ (v u : V) (sh : Sh) (t : List Nat) (b : Bool), vs = [v, u, setV b] ∧ (IsSh H v sh) ∧ (sh.Ok) ∧ (IsTape H u t) ∧ (sh.Codes t) ∧ (t.length ≤ 10000) ∧ (∀ H', Same H H' → Q (setV (sh.last t b)) H')
theorem use_set_at {H : Hp} {Q : VK} {E : XK} {v u : V} {sh : Sh} {t : List Nat} {b : Bool} (hv : IsSh H v sh) (ok : sh.Ok) (hu : IsTape H u t) (hc : sh.Codes t) (hl : t.length ≤ 10000) (q : ∀ H', Same H H' → Q (setV (sh.last t b)) H') : spSetAt [v, u, setV b] H Q E := ⟨v, u, sh, t, b, rfl, hv, ok, hu, hc, hl, q⟩

theorem ok_set_at {k : Nat} (T : TX mg) (F : Df K mg "set_at" s_set_at ["sheet", "tape", "begin"]) (o_gone : OkAt P w K mg base "gone" k ["sheet", "tape", "begin"] spGone) : OkAt P w K mg base "set_at" (k + 1) ["sheet", "tape", "begin"] spSetAt := by
  refine F.ok sc_set_at (fun vs H Q E h => ?_) (fun f cdv A outer s H vs Q E hr h => ?_)
  · obtain ⟨v, u, sh, t, b, rfl, _⟩ := h
    rfl
  obtain ⟨v, u, sh, t, b, rfl, hv, ok, hu, hc, hl, q⟩ := h
  refine ⟨_, (pss_one (ps_ret (pe_ix (ix_u K) (pe_op (op_uAdd K) (pe_lstN (pa_cons (pv 2) pa_nil)) (pe_ix (ix_u K) (pe_cl o_gone hr (by rfl) (pa_cons (pv 0) (pa_cons (pv 1) (pa_cons (pv 2) pa_nil)))) pe_int (fun _ _ => rfl))) (pe_un un_neg pe_int) (fun _ _ => rfl)))), ?_⟩
  walk_at "r"
  intro p1 H1 n1 s1 e1
  walk_at "r"
  refine use_gone (same_sh s1 hv) ok (same_tape s1 hu) hc hl fun p ps H2 s2 e2 e3 => ?_
  have e1' := s2 _ _ e1
  walk_at "r"
  refine r_addL e1' e3 (by rw [List.length_map, sh.sets_len]; exact le_size (by show 1 + _ ≤ _; omega)) fun p3 H3 n3 s3 e4 => ?_
  walk_at "r"
  refine r_ixL e4 (sets_end1 sh t b) ?_
  exact q H3 ((s1.trans s2).trans s3)
def spLedIn : Sp := fun vs H Q E => ∃ (v u : V) (sh : Sh) (t : List Nat) (b h : Bool), vs = [v, u, setV b, setV h] ∧ (IsSh H v sh) ∧ (sh.Ok) ∧ (IsTape H u t) ∧ (sh.Codes t) ∧ (t.length ≤ 10000) ∧ (∀ p H', H p = none → Same H H' → H' p = some (.lst (tapeV (sh.led t b h))) → Q (.ref p) H')
theorem use_led_in {H : Hp} {Q : VK} {E : XK} {v u : V} {sh : Sh} {t : List Nat} {b h : Bool} (hv : IsSh H v sh) (ok : sh.Ok) (hu : IsTape H u t) (hc : sh.Codes t) (hl : t.length ≤ 10000) (q : ∀ p H', H p = none → Same H H' → H' p = some (.lst (tapeV (sh.led t b h))) → Q (.ref p) H') : spLedIn [v, u, setV b, setV h] H Q E := ⟨v, u, sh, t, b, h, rfl, hv, ok, hu, hc, hl, q⟩

theorem ok_led_in {k : Nat} (T : TX mg) (F : Df K mg "led_in" s_led_in ["sheet", "tape", "begin", "here"]) (o_gone : OkAt P w K mg base "gone" k ["sheet", "tape", "begin"] spGone) (o_shift_to : OkAt P w K mg base "shift_to" k ["sheet", "number"] spShiftTo) : OkAt P w K mg base "led_in" (k + 1) ["sheet", "tape", "begin", "here"] spLedIn := by
  refine F.ok sc_led_in (fun vs H Q E h => ?_) (fun f cdv A outer s H vs Q E hr h => ?_)
  · obtain ⟨v, u, sh, t, b, h, rfl, _⟩ := h
    rfl
  obtain ⟨v, u, sh, t, b, h, rfl, hv, ok, hu, hc, hl, q⟩ := h
  refine ⟨_, (pss_cons (ps_if (pt_cmpR (op_uEq K hr.units) (pe_ix (ix_u K) (pe_cl o_gone hr (by rfl) (pa_cons (pv 0) (pa_cons (pv 1) (pa_cons (pv 3) pa_nil)))) pe_int (fun _ _ => rfl)) (pe_ix (ix_u K) (pe_cl o_gone hr (by rfl) (pa_cons (pv 0) (pa_cons (pv 1) (pa_cons (pv 2) pa_nil)))) pe_int (fun _ _ => rfl)) (nomark _)) (pss_one (ps_ret (pe_callTy (cr_listN K) (by rfl) T.b_list (by decide +kernel) (pa_cons (pv 1) pa_nil)))) pss_nil) (pss_one (ps_ret (pe_op (op_uAdd K) (pe_lstN (pa_cons (pe_cl o_shift_to hr (by rfl) (pa_cons (pv 0) (pa_cons (pv 2) pa_nil))) pa_nil)) (pe_callTy (cr_listN K) (by rfl) T.b_list (by decide +kernel) (pa_cons (pv 1) pa_nil)))))), ?_⟩
  obtain ⟨a, rfl, ha⟩ := id hu
  walk_at "r"
  refine use_gone hv ok hu hc hl fun p1 ps1 H1 s1 e1 _ => ?_
  walk_at "r"
  refine use_gone (same_sh s1 hv) ok (same_tape s1 hu) hc hl fun p2 ps2 H2 s2 e2 _ => ?_
  have s12 := s1.trans s2
  walk_at "r"
  rw [mkS_eq]
  refine w_dec (fun hh => ?_) (fun hh => ?_)
  · walk_at "r"
    refine r_listL (s12 _ _ ha) fun p3 H3 n3 s3 e3 => ?_
    refine q p3 H3 (s12.free n3) (s12.trans s3) ?_
    unfold Sh.led
    rw [if_pos hh]
    exact e3
  · walk_at "r"
    refine use_shift_to (same_sh s12 hv) ok ?_
    walk_at "r"
    intro p3 H3 n3 s3 e3
    walk_at "r"
    have s13 := s12.trans s3
    refine r_listL (s13 _ _ ha) fun p4 H4 n4 s4 e4 => ?_
    walk_at "r"
    refine r_addL (s4 _ _ e3) e4 (by rw [tapeV_len]; exact le_size (by show 1 + _ ≤ _; omega)) fun p5 H5 n5 s5 e5 => ?_
    refine q p5 H5 ((s13.trans s4).free n5) ((s13.trans s4).trans s5) ?_
    unfold Sh.led
    rw [if_neg hh]
    exact e5
/-- a list of tapes -/
def AllT (H : Hp) (xs : List V) (ts : List (List Nat)) : Prop := xs.length = ts.length ∧ ∀ (i : Nat) x t, xs[i]? = some x → ts[i]? = some t → IsTape H x t
theorem same_allT {H H' : Hp} {xs : List V} {ts : List (List Nat)} (s : Same H H') (h : AllT H xs ts) : AllT H' xs ts := ⟨h.1, fun i x t h1 h2 => same_tape s (h.2 i x t h1 h2)⟩
theorem AllT.at {H : Hp} {xs : List V} {ts : List (List Nat)} {i : Nat} {x : V} (h : AllT H xs ts) (hx : xs[i]? = some x) : ∃ t, ts[i]? = some t ∧ IsTape H x t := by
  have hi := (List.getElem?_eq_some_iff.mp hx).1
  have hl := h.1
  exact ⟨ts[i]'(by omega), List.getElem?_eq_getElem _, h.2 i x _ hx (List.getElem?_eq_getElem _)⟩
theorem join_len (s : Sh) (b : Bool) {m : Nat} : ∀ (ts : List (List Nat)) (i : Nat), (∀ t ∈ ts, t.length ≤ m) → (s.join b (ts.take i)).length ≤ ts.length * (m + 1) := by
  intro ts i h
  have key : ∀ (l : List (List Nat)) (f : List Nat), (∀ t ∈ l, t.length ≤ m) → (l.foldl (fun f t => f ++ s.led t b (s.last f b)) f).length ≤ f.length + l.length * (m + 1) := by
    intro l
    induction l with
    | nil => intro f _; simp
    | cons t l ih =>
      intro f h
      have h1 := ih (f ++ s.led t b (s.last f b)) fun u hu => h u (List.mem_cons_of_mem _ hu)
      have h2 := s.led_len t b (s.last f b)
      have h3 := h t List.mem_cons_self
      rw [List.length_append] at h1
      rw [List.foldl_cons, List.length_cons, Nat.succ_mul]
      omega
  have k := key (ts.take i) [] fun t ht => h t (List.mem_of_mem_take ht)
  refine Nat.le_trans k ?_
  rw [List.length_take]
  show 0 + _ ≤ _
  rw [Nat.zero_add]
  exact Nat.mul_le_mul_right _ (Nat.min_le_right _ _)
theorem join_codes (s : Sh) (b : Bool) {ts : List (List Nat)} (h : ∀ t ∈ ts, s.Codes t) : s.Codes (s.join b ts) := by
  have key : ∀ (l : List (List Nat)) (f : List Nat), s.Codes f → (∀ t ∈ l, s.Codes t) → s.Codes (l.foldl (fun f t => f ++ s.led t b (s.last f b)) f) := by
    intro l
    induction l with
    | nil => intro f h _; exact h
    | cons t l ih =>
      intro f hf h
      exact ih _ (Sh.codes_app hf (Sh.led_codes (h t List.mem_cons_self))) fun u hu => h u (List.mem_cons_of_mem _ hu)
  exact key ts [] (fun c hc => nomatch hc) h
def spJoined : Sp := fun vs H Q E => ∃ (v : V) (a : Addr) (xs : List V) (sh : Sh) (ts : List (List Nat)) (b : Bool), vs = [v, .ref a, setV b] ∧ (IsSh H v sh) ∧ (sh.Ok) ∧ (H a = some (.lst xs)) ∧ (AllT H xs ts) ∧ (∀ t ∈ ts, sh.Codes t ∧ t.length ≤ 100) ∧ (ts.length ≤ 21) ∧ (∀ p H', H p = none → Same H H' → H' p = some (.lst (tapeV (sh.join b ts))) → Q (.ref p) H')
theorem use_joined {H : Hp} {Q : VK} {E : XK} {v : V} {a : Addr} {xs : List V} {sh : Sh} {ts : List (List Nat)} {b : Bool} (hv : IsSh H v sh) (ok : sh.Ok) (ha : H a = some (.lst xs)) (hT : AllT H xs ts) (hc : ∀ t ∈ ts, sh.Codes t ∧ t.length ≤ 100) (hl : ts.length ≤ 21) (q : ∀ p H', H p = none → Same H H' → H' p = some (.lst (tapeV (sh.join b ts))) → Q (.ref p) H') : spJoined [v, .ref a, setV b] H Q E := ⟨v, a, xs, sh, ts, b, rfl, hv, ok, ha, hT, hc, hl, q⟩

theorem ok_joined {k : Nat} (T : TX mg) (F : Df K mg "joined" s_joined ["sheet", "tapes", "begin"]) (o_need_sheet : OkAt P w K mg base "need_sheet" k ["sheet"] spNeedSheet) (o_need_set : OkAt P w K mg base "need_set" k ["number"] spNeedSet) (o_need_tape : OkAt P w K mg base "need_tape" k ["sheet", "tape"] spNeedTape) (o_led_in : OkAt P w K mg base "led_in" k ["sheet", "tape", "begin", "here"] spLedIn) (o_set_at : OkAt P w K mg base "set_at" k ["sheet", "tape", "begin"] spSetAt) : OkAt P w K mg base "joined" (k + 1) ["sheet", "tapes", "begin"] spJoined := by
  refine F.ok sc_joined (fun vs H Q E h => ?_) (fun f cdv A outer s H vs Q E hr h => ?_)
  · obtain ⟨v, a, xs, sh, ts, b, rfl, _⟩ := h
    rfl
  obtain ⟨v, a, xs, sh, ts, b, rfl, hv, ok, ha, hT, hc, hl, q⟩ := h
  refine ⟨_, (pss_cons (ps_expr (pe_cl o_need_sheet hr (by rfl) (pa_cons (pv 0) pa_nil))) (pss_cons (ps_for PassesOwn.never rfl (pi_listK K (pv 1)) (pg_name (i := 3) sc_joined.nd rfl (by first | exact Or.inl rfl | exact Or.inr rfl)) (pss_one (ps_expr (pe_cl o_need_tape hr (by rfl) (pa_cons (pv 0) (pa_cons (pv 3) pa_nil)))))) (pss_cons (ps_expr (pe_cl o_need_set hr (by rfl) (pa_cons (pv 2) pa_nil))) (pss_cons (ps_set (i := 4) sc_joined.nd rfl (by first | exact Or.inl rfl | exact Or.inr rfl) (pe_lstN pa_nil)) (pss_cons (ps_for PassesOwn.never rfl (pi_listK K (pv 1)) (pg_name (i := 3) sc_joined.nd rfl (by first | exact Or.inl rfl | exact Or.inr rfl)) (pss_one (ps_set (i := 4) sc_joined.nd rfl (by first | exact Or.inl rfl | exact Or.inr rfl) (pe_op (op_uAdd K) (pv 4) (pe_cl o_led_in hr (by rfl) (pa_cons (pv 0) (pa_cons (pv 3) (pa_cons (pv 2) (pa_cons (pe_cl o_set_at hr (by rfl) (pa_cons (pv 0) (pa_cons (pv 4) (pa_cons (pv 2) pa_nil)))) pa_nil))))))))) (pss_one (ps_ret (pv 4)))))))), ?_⟩
  walk_at "r"
  refine use_need_sheet hv ok fun H1 s1 => ?_
  walk_at "r"
  refine f_list (s1 _ _ ha) (fun i σ H' => ∃ y, σ = [some v, some (.ref a), some (setV b), y, none] ∧ Same H H') ⟨_, rfl, s1⟩ (fun i σ H' _ ⟨_, _, s⟩ => s _ _ ha) ?_ ?_
  · rintro i x σ H' hx ⟨y, rfl, s⟩
    obtain ⟨t, ht, hxt⟩ := hT.at hx
    obtain ⟨hct, hlt⟩ := hc t (List.mem_of_getElem? ht)
    walk_at "r"
    refine use_need_tape (same_sh s hv) ok (same_tape s hxt) hct hlt fun H2 s2 => ?_
    walk_at "r"
    exact ⟨_, rfl, s.trans s2⟩
  rintro σ H2 ⟨y, rfl, s2⟩
  walk_at "r"
  refine use_need_set fun H3 s3 => ?_
  walk_at "r"
  intro p H4 n4 s4 e4
  walk_at "r"
  have s24 := (s2.trans s3).trans s4
  refine f_list (s24 _ _ ha) (fun i σ H' => ∃ y z, σ = [some v, some (.ref a), some (setV b), y, some (.ref z)] ∧ Same H H' ∧ H z = none ∧ H' z = some (.lst (tapeV (sh.join b (ts.take i))))) ⟨_, _, rfl, s24, (s2.trans s3).free n4, e4⟩ (fun i σ H' _ ⟨_, _, _, s, _⟩ => s _ _ ha) ?_ ?_
  · rintro i x σ H' hx ⟨y, z, rfl, s, nz, ez⟩
    obtain ⟨t, ht, hxt⟩ := hT.at hx
    obtain ⟨hct, hlt⟩ := hc t (List.mem_of_getElem? ht)
    have hjl := join_len sh b (m := 100) ts i fun t ht => (hc t ht).2
    have hjc := join_codes sh b (ts := ts.take i) fun t ht => (hc t (List.mem_of_mem_take ht)).1
    have hm : ts.length * 101 ≤ 21 * 101 := Nat.mul_le_mul_right _ hl
    walk_at "r"
    refine use_set_at (same_sh s hv) ok ⟨z, rfl, ez⟩ hjc (by omega) fun H5 s5 => ?_
    walk_at "r"
    have s' := s.trans s5
    refine use_led_in (same_sh s' hv) ok (same_tape s' hxt) hct (by omega) fun p6 H6 n6 s6 e6 => ?_
    walk_at "r"
    have hll := sh.led_len t b (sh.last (sh.join b (ts.take i)) b)
    refine r_addL (s6 _ _ (s5 _ _ ez)) e6 (by rw [tapeV_len, tapeV_len]; exact le_size (by omega)) fun p7 H7 n7 s7 e7 => ?_
    walk_at "r"
    refine ⟨_, p7, rfl, (s'.trans s6).trans s7, (s'.trans s6).free n7, ?_⟩
    rw [e7, take_snoc ht, sh.join_snoc, tapeV_app]
  · rintro σ H' ⟨y, z, rfl, s, nz, ez⟩
    walk_at "r"
    rw [hT.1, List.take_length] at ez
    exact q z H' nz s ez
theorem txt_join (s : Sh) (b : Bool) (ts : List (List Nat)) : s.txt (s.join b ts) b = (ts.map fun t => s.txt t b).flatten := by
  have key : ∀ (l : List (List Nat)) (f : List Nat), s.txt (l.foldl (fun f t => f ++ s.led t b (s.last f b)) f) b = s.txt f b ++ (l.map fun t => s.txt t b).flatten := by
    intro l
    induction l with
    | nil => intro f; simp
    | cons t l ih =>
      intro f
      rw [List.foldl_cons, ih, s.txt_app, s.txt_led, List.map_cons, List.flatten_cons, List.append_assoc]
  exact key ts []
theorem join_len2 (s : Sh) (b : Bool) (ts : List (List Nat)) : (s.join b ts).length ≤ (ts.map fun t => t.length).sum + ts.length := by
  have key : ∀ (l : List (List Nat)) (f : List Nat), (l.foldl (fun f t => f ++ s.led t b (s.last f b)) f).length ≤ f.length + ((l.map fun t => t.length).sum + l.length) := by
    intro l
    induction l with
    | nil => intro f; simp
    | cons t l ih =>
      intro f
      have h1 := ih (f ++ s.led t b (s.last f b))
      have h2 := s.led_len t b (s.last f b)
      rw [List.length_append] at h1
      rw [List.foldl_cons, List.length_cons, List.map_cons, List.sum_cons]
      omega
  have k := key ts []
  rw [List.length_nil, Nat.zero_add] at k
  exact k
/-! ### lists of tapes, as data -/
def tapesD (ts : List (List Nat)) : List PyData := ts.map fun t => .list (t.map fun c => .int (c : Nat))
theorem allT_da {H : Hp} : ∀ {xs : List V} {ts : List (List Nat)}, AllT H xs ts → DaAll H xs (tapesD ts)
  | [], [], _ => .nil
  | [], _ :: _, h => nomatch h.1
  | _ :: _, [], h => nomatch h.1
  | x :: xs, t :: ts, h => by
    obtain ⟨a, rfl, ha⟩ := h.2 0 x t rfl rfl
    exact .cons (da_tape ha) (allT_da ⟨Nat.succ.inj h.1, fun i y u h1 h2 => h.2 (i + 1) y u h1 h2⟩)
theorem tapesD_flat {ts : List (List Nat)} : ∀ d ∈ tapesD ts, d.canLay0 = true ∧ d.depth ≤ 1 := fun d hd => by
  obtain ⟨t, _, rfl⟩ := List.mem_map.mp hd
  have e : (t.map fun c => PyData.int (c : Nat)) = (t.map fun c => ((c : Nat) : Int)).map PyData.int := by
    rw [List.map_map]
    rfl
  rw [e]
  exact ⟨can_ints _, by
    show PyData.depthAll _ + 1 ≤ 1
    rw [depth_ints]
    decide⟩
theorem tapesD_eqv : ∀ ts : List (List Nat), PyData.eqvAll (tapesD ts) (tapesD ts) = true
  | [] => rfl
  | t :: ts => by
    show (PyData.eqv (.list (t.map fun c => .int (c : Nat))) (.list (t.map fun c => .int (c : Nat))) && PyData.eqvAll (tapesD ts) (tapesD ts)) = true
    have e : (t.map fun c => PyData.int (c : Nat)) = (t.map fun c => ((c : Nat) : Int)).map PyData.int := by
      rw [List.map_map]
      rfl
    rw [tapesD_eqv ts, e, eqv_ints]
    simp
theorem r_neTs {K : PySem.W.Frag} {H : Hp} {Q : VK} {a b : Addr} {xs ys : List V} {ts : List (List Nat)} (h1 : H a = some (.lst xs)) (h2 : H b = some (.lst ys)) (d1 : AllT H xs ts) (d2 : AllT H ys ts) (q : Q (.bl false) H) : uNe K (.ref a) (.ref b) H Q := by
  refine r_neD (da_dp (.list (tapesD ts)) _ (.lst h1 (allT_da d1))) (da_dp (.list (tapesD ts)) _ (.lst h2 (allT_da d2))) (shaped_list (by decide) tapesD_flat) (shaped_list (by decide) tapesD_flat) ?_
  rw [show PyData.eqv (.list (tapesD ts)) (.list (tapesD ts)) = true by rw [PyData.eqv]; exact tapesD_eqv ts]
  exact q
theorem allT_ne {H : Hp} {p : Addr} {xs : List V} {ts : List (List Nat)} (hp : H p = some (.lst xs)) (h : AllT H xs ts) {i : Nat} {a : Addr} (hx : xs[i]? = some (.ref a)) : a ≠ p := fun z => by
  obtain ⟨t, _, ⟨b, e, hb⟩⟩ := h.at hx
  cases e
  rw [z, hp] at hb
  have hb2 : xs = tapeV t := by injection (Option.some.inj hb)
  rw [hb2] at hx
  obtain ⟨c, _, e⟩ := tapeV_at hx
  cases e
theorem but_allT {H H' : Hp} {p : Addr} {xs : List V} {ts : List (List Nat)} (k : But p H H') (hp : H p = some (.lst xs)) (h : AllT H xs ts) : AllT H' xs ts :=
  ⟨h.1, fun i x t h1 h2 => by
    obtain ⟨a, rfl, ha⟩ := h.2 i x t h1 h2
    exact ⟨a, rfl, k _ _ (allT_ne hp h h1) ha⟩⟩
theorem allT_snoc {H : Hp} {xs : List V} {ts : List (List Nat)} {x : V} {t : List Nat} (h : AllT H xs ts) (hx : IsTape H x t) : AllT H (xs ++ [x]) (ts ++ [t]) := by
  refine ⟨by rw [List.length_append, List.length_append, h.1]; rfl, fun i y u h1 h2 => ?_⟩
  have hl := h.1
  by_cases hi : i < xs.length
  · rw [List.getElem?_append_left hi] at h1
    rw [List.getElem?_append_left (by omega)] at h2
    exact h.2 i y u h1 h2
  · rw [List.getElem?_append_right (by omega)] at h1
    rw [List.getElem?_append_right (by omega)] at h2
    have hi2 : i - xs.length = 0 := by
      have := (List.getElem?_eq_some_iff.mp h1).1
      rw [List.length_singleton] at this
      omega
    rw [hi2] at h1
    rw [← hl, hi2] at h2
    cases h1
    cases h2
    exact hx
theorem allT_take {H : Hp} {xs : List V} {ts : List (List Nat)} (h : AllT H xs ts) (n : Nat) : AllT H (xs.take n) (ts.take n) :=
  ⟨by rw [List.length_take, List.length_take, h.1], fun i x t h1 h2 => h.2 i x t (by
    rw [List.getElem?_take] at h1
    split at h1
    · exact h1
    · cases h1) (by
    rw [List.getElem?_take] at h2
    split at h2
    · exact h2
    · cases h2)⟩
theorem allT_drop {H : Hp} {xs : List V} {ts : List (List Nat)} (h : AllT H xs ts) (n : Nat) : AllT H (xs.drop n) (ts.drop n) :=
  ⟨by rw [List.length_drop, List.length_drop, h.1], fun i x t h1 h2 => h.2 (n + i) x t (by rw [← List.getElem?_drop]; exact h1) (by rw [← List.getElem?_drop]; exact h2)⟩
theorem allT_cons {H : Hp} {xs : List V} {ts : List (List Nat)} {x : V} {t : List Nat} (hx : IsTape H x t) (h : AllT H xs ts) : AllT H (x :: xs) (t :: ts) :=
  ⟨congrArg (· + 1) h.1, fun i y u h1 h2 => by
    cases i with
    | zero =>
      cases h1
      cases h2
      exact hx
    | succ i => exact h.2 i y u h1 h2⟩
theorem join_front (s : Sh) (b : Bool) (ts : List (List Nat)) (n : Nat) : s.join b (s.join b (ts.take n) :: ts.drop n) = s.join b ts := by
  have e : s.join b (s.join b (ts.take n) :: ts.drop n) = (ts.drop n).foldl (fun f t => f ++ s.led t b (s.last f b)) (s.join b (ts.take n)) := by
    unfold Sh.join
    rw [List.foldl_cons]
    congr 1
    show [] ++ s.led _ b b = _
    unfold Sh.led
    rw [if_pos rfl]
    rfl
  rw [e]
  conv => rhs; rw [← List.take_append_drop n ts]
  unfold Sh.join
  rw [List.foldl_append]

def spCut : Sp := fun vs H Q E => ∃ (v u : V) (sh : Sh) (t : List Nat) (b : Bool) (i : Nat), vs = [v, u, setV b, .int i] ∧ (IsSh H v sh) ∧ (sh.Ok) ∧ (IsTape H u t) ∧ (sh.Codes t) ∧ (t.length ≤ 100) ∧ (i ≤ t.length) ∧ (∀ p p1 p2 H', H p1 = none → H p2 = none → p1 ≠ p2 → Same H H' → H' p = some (.tup [.ref p1, .ref p2]) → H' p1 = some (.lst (tapeV (t.take i))) → H' p2 = some (.lst (tapeV (sh.led (t.drop i) (sh.last (t.take i) b) b))) → Q (.ref p) H')
theorem use_cut {H : Hp} {Q : VK} {E : XK} {v u : V} {sh : Sh} {t : List Nat} {b : Bool} {i : Nat} (hv : IsSh H v sh) (ok : sh.Ok) (hu : IsTape H u t) (hc : sh.Codes t) (hl : t.length ≤ 100) (hi : i ≤ t.length) (q : ∀ p p1 p2 H', H p1 = none → H p2 = none → p1 ≠ p2 → Same H H' → H' p = some (.tup [.ref p1, .ref p2]) → H' p1 = some (.lst (tapeV (t.take i))) → H' p2 = some (.lst (tapeV (sh.led (t.drop i) (sh.last (t.take i) b) b))) → Q (.ref p) H') : spCut [v, u, setV b, .int i] H Q E := ⟨v, u, sh, t, b, i, rfl, hv, ok, hu, hc, hl, hi, q⟩

theorem ok_cut {k : Nat} (T : TX mg) (F : Df K mg "cut" s_cut ["sheet", "tape", "begin", "place"]) (o_need_all : OkAt P w K mg base "need_all" k ["sheet", "tape", "begin"] spNeedAll) (o_led_in : OkAt P w K mg base "led_in" k ["sheet", "tape", "begin", "here"] spLedIn) (o_set_at : OkAt P w K mg base "set_at" k ["sheet", "tape", "begin"] spSetAt) : OkAt P w K mg base "cut" (k + 1) ["sheet", "tape", "begin", "place"] spCut := by
  refine F.ok sc_cut (fun vs H Q E h => ?_) (fun f cdv A outer s H vs Q E hr h => ?_)
  · obtain ⟨v, u, sh, t, b, i, rfl, _⟩ := h
    rfl
  obtain ⟨v, u, sh, t, b, i, rfl, hv, ok, hu, hc, hl, hi, q⟩ := h
  refine ⟨_, (pss_cons (ps_expr (pe_cl o_need_all hr (by rfl) (pa_cons (pv 0) (pa_cons (pv 1) (pa_cons (pv 2) pa_nil))))) (pss_cons (ps_if (pt_not (pt_chain op_uLe op_uLe pe_int (pv 3) (pe_callB (cr_len K) (by rfl) T.b_len (by decide +kernel) (pa_cons (pv 1) pa_nil)))) (pss_one ps_never) pss_nil) (pss_cons (ps_set (i := 4) sc_cut.nd rfl (by first | exact Or.inl rfl | exact Or.inr rfl) (pe_slice (sl_u K) (pv 1) po_none (po_some (pv 3)))) (pss_one (ps_ret (pe_tupN (pa_cons (pv 4) (pa_cons (pe_cl o_led_in hr (by rfl) (pa_cons (pv 0) (pa_cons (pe_slice (sl_u K) (pv 1) (po_some (pv 3)) po_none) (pa_cons (pe_cl o_set_at hr (by rfl) (pa_cons (pv 0) (pa_cons (pv 4) (pa_cons (pv 2) pa_nil)))) (pa_cons (pv 2) pa_nil))))) pa_nil)))))))), ?_⟩
  obtain ⟨a, rfl, ha⟩ := id hu
  walk_at "r"
  refine use_need_all hv ok hu hc hl fun H1 s1 => ?_
  have ha1 := s1 _ _ ha
  walk_at "r"
  refine w_yes (by omega) ?_
  walk_at "r"
  rw [tapeV_len]
  refine w_nno (by omega) ?_
  walk_at "r"
  refine r_slL ha1 fun p1 H2 n2 s2 e2 => ?_
  rw [cut_to] at e2
  have e2' : H2 p1 = some (.lst (tapeV (t.take i))) := by
    rw [e2]
    unfold tapeV
    rw [List.map_take]
  have ha2 := s2 _ _ ha1
  walk_at "r"
  refine r_slL ha2 fun p3 H3 n3 s3 e3 => ?_
  rw [cut_from] at e3
  have e3' : H3 p3 = some (.lst (tapeV (t.drop i))) := by
    rw [e3]
    unfold tapeV
    rw [List.map_drop]
  walk_at "r"
  have s13 := (s1.trans s2).trans s3
  have lt : (t.take i).length ≤ 100 := by rw [List.length_take]; omega
  have ld : (t.drop i).length ≤ 100 := by rw [List.length_drop]; omega
  refine use_set_at (same_sh s13 hv) ok ⟨p1, rfl, s3 _ _ e2'⟩ (Sh.codes_take hc) (by omega) fun H4 s4 => ?_
  walk_at "r"
  have s14 := s13.trans s4
  refine use_led_in (same_sh s14 hv) ok ⟨p3, rfl, s4 _ _ e3'⟩ (Sh.codes_drop hc) (by omega) fun p5 H5 n5 s5 e5 => ?_
  walk_at "r"
  intro p6 H6 n6 s6 e6
  have g1 := s6 _ _ (s5 _ _ (s4 _ _ (s3 _ _ e2')))
  exact q p6 p1 p5 H6 (s1.free n2) (s14.free n5) (ne_of_none (s4 _ _ (s3 _ _ e2')) n5) ((s14.trans s5).trans s6) e6 g1 (s6 _ _ e5)

/-! ### why something is refused -/
abbrev LJ : Nat := 14
inductive Why where
  | sheet
  | tape (p : Nat)
  | sign (p : Nat)
  | set
  | count
def Tells (cl : Cl) (H : Hp) (E : XK) : Why → Prop
  | .sheet => ∀ H', Same H H' → E (.ref cl.BadSheet) none H'
  | .set => ∀ H', Same H H' → E (.ref cl.BadSet) none H'
  | .count => ∀ H', Same H H' → E (.ref cl.BadCount) none H'
  | .tape p => ∀ d H', H d = none → Same H H' → H' d = some (.xd [("place", .int (p : Nat))]) → E (.ref cl.BadTape) (some d) H'
  | .sign p => ∀ d H', H d = none → Same H H' → H' d = some (.xd [("place", .int (p : Nat))]) → E (.ref cl.NoSign) (some d) H'
theorem Tells.same {cl : Cl} {H H1 : Hp} {E : XK} {y : Why} (t : Tells cl H E y) (s : Same H H1) : Tells cl H1 E y := by
  cases y with
  | sheet => exact fun H' s' => t H' (s.trans s')
  | set => exact fun H' s' => t H' (s.trans s')
  | count => exact fun H' s' => t H' (s.trans s')
  | tape p => exact fun d H' n s' e => t d H' (s.free n) (s.trans s') e
  | sign p => exact fun d H' n s' e => t d H' (s.free n) (s.trans s') e
/-- what is asked of a run: a refusal, or none -/
def Want (cl : Cl) : Option Why → Hp → VK → XK → Prop
  | none => fun H Q _ => ∀ v H', Same H H' → Q v H'
  | some y => fun H _ E => Tells cl H E y
theorem want_hides (cl : Cl) (o : Option Why) : Hides (Want cl o) := by
  intro l H Q E h
  have place : ∀ {d : Addr} {H' : Hp} {o : HO}, hidA l H d = none → H' d = some o → (∀ c ∈ l, H' c = none) → d ∉ l ∧ H d = none := fun {d H' o} n e z => by
    have hd : d ∉ l := fun hd => by rw [z d hd] at e; cases e
    rw [hidA_no hd] at n
    exact ⟨hd, n⟩
  cases o with
  | none => exact fun v H' s _ => h v _ (same_bak s)
  | some y =>
    cases y with
    | sheet => exact fun H' s _ => h _ (same_bak s)
    | set => exact fun H' s _ => h _ (same_bak s)
    | count => exact fun H' s _ => h _ (same_bak s)
    | tape p => exact fun d H' n s e z => h d _ (place n e z).2 (same_bak s) (by rw [bakA_no (place n e z).1]; exact e)
    | sign p => exact fun d H' n s e z => h d _ (place n e z).2 (same_bak s) (by rw [bakA_no (place n e z).1]; exact e)
/-! ### what is handed in -/
structure Raw where
  zero : List Nat
  one : List Nat
  home : Option Int
def hVI : Option Int → V
  | none => .non
  | some h => .int h
def Raw.good (s : Raw) : Bool := goodSigns s.zero && goodSigns s.one && decide (s.zero.length = s.one.length) && (match s.home with | none => true | some h => decide (0 ≤ h ∧ h < s.zero.length))
def IsRaw (H : Hp) (v : V) (s : Raw) : Prop := ∃ a, v = .ref a ∧ H a = some (.tup [.str (mkS s.zero), .str (mkS s.one), hVI s.home])
/-- a sheet that cannot be -/
def BadSh (H : Hp) (v : V) : Prop := ∃ s, IsRaw H v s ∧ (s.zero.length ≤ 3000 ∧ s.one.length ≤ 3000) ∧ s.good = false
def GoodSh (H : Hp) (v : V) (sh : Sh) : Prop := IsSh H v sh ∧ sh.Ok
def IsInts (H : Hp) (v : V) (t : List Int) : Prop := ∃ a, v = .ref a ∧ H a = some (.lst (t.map V.int))
/-- the first bad code of a tape stands at p -/
def BadAt (sh : Sh) (t : List Int) (p : Nat) : Prop := p < t.length ∧ p ≤ 100 ∧ (∀ i, i < p → ∀ c, t[i]? = some c → 0 ≤ c ∧ c < sh.n + 2) ∧ (p = 100 ∨ ∀ c, t[p]? = some c → ¬ (0 ≤ c ∧ c < sh.n + 2))
def BadT (H : Hp) (u : V) (sh : Sh) (p : Nat) : Prop := ∃ t, IsInts H u t ∧ BadAt sh t p
def GoodT (H : Hp) (u : V) (sh : Sh) : Prop := ∃ t, IsTape H u t ∧ sh.Codes t ∧ t.length ≤ 100
/-- the first sign that neither set has stands at p -/
def BadIn (sh : Sh) (x : List Nat) (p : Nat) : Prop := p < x.length ∧ p ≤ 32 ∧ (∀ i, i < p → ∀ c, x[i]? = some c → c ∈ sh.zero ∨ c ∈ sh.one) ∧ (p = 32 ∨ ∀ c, x[p]? = some c → ¬ (c ∈ sh.zero ∨ c ∈ sh.one))
def BadX (x : V) (sh : Sh) (p : Nat) : Prop := ∃ z, x = .str (mkS z) ∧ z.length ≤ 1000 ∧ BadIn sh z p
def GoodX (x : V) (sh : Sh) (m : Nat) : Prop := ∃ z, x = .str (mkS z) ∧ sh.Can z ∧ z.length ≤ m
def BadN (b : V) : Prop := ∃ n : Int, b = .int n ∧ n ≠ 0 ∧ n ≠ 1
def GoodN (b : V) : Prop := ∃ c : Bool, b = setV c
def BadM (m : V) : Prop := ∃ n : Int, m = .int n ∧ (n < 0 ∨ 32 < n)
/-- a tape and a set: what is refused, and why -/
def BadAll (H : Hp) (v u b : V) : Why → Prop
  | .sheet => BadSh H v
  | .tape p => ∃ sh, GoodSh H v sh ∧ BadT H u sh p
  | .set => (∃ sh, GoodSh H v sh ∧ GoodT H u sh) ∧ BadN b
  | _ => False
/-- a text and a set: what is refused, and why -/
def BadTx (H : Hp) (v x b : V) : Why → Prop
  | .sheet => BadSh H v
  | .sign p => ∃ sh, GoodSh H v sh ∧ BadX x sh p
  | .set => (∃ sh, GoodSh H v sh ∧ GoodX x sh 32) ∧ BadN b
  | _ => False
section
variable {H H' : Hp} {v u b x : V} {sh : Sh} {p : Nat} {y : Why}
theorem BadSh.seqs (h : BadSh H v) (s : Seqs H H') : BadSh H' v := by
  obtain ⟨r, ⟨a, rfl, ha⟩, hl, hb⟩ := h
  exact ⟨r, ⟨a, rfl, s.tup ha⟩, hl, hb⟩
theorem GoodSh.seqs (h : GoodSh H v sh) (s : Seqs H H') : GoodSh H' v sh := by
  obtain ⟨⟨a, rfl, ha⟩, ok⟩ := h
  exact ⟨⟨a, rfl, s.tup ha⟩, ok⟩
theorem IsInts.seqs {t : List Int} (h : IsInts H u t) (s : Seqs H H') : IsInts H' u t := by
  obtain ⟨a, rfl, ha⟩ := h
  exact ⟨a, rfl, s.lst ha⟩
theorem BadT.seqs (h : BadT H u sh p) (s : Seqs H H') : BadT H' u sh p := by
  obtain ⟨t, h1, h2⟩ := h
  exact ⟨t, h1.seqs s, h2⟩
theorem GoodT.seqs (h : GoodT H u sh) (s : Seqs H H') : GoodT H' u sh := by
  obtain ⟨t, ⟨a, rfl, ha⟩, h2⟩ := h
  exact ⟨t, ⟨a, rfl, s.lst ha⟩, h2⟩
theorem BadAll.seqs (h : BadAll H v u b y) (s : Seqs H H') : BadAll H' v u b y := by
  cases y with
  | sheet => exact BadSh.seqs h s
  | tape p =>
    obtain ⟨sh, h1, h2⟩ := h
    exact ⟨sh, h1.seqs s, h2.seqs s⟩
  | set =>
    obtain ⟨⟨sh, h1, h2⟩, h3⟩ := h
    exact ⟨⟨sh, h1.seqs s, h2.seqs s⟩, h3⟩
  | sign p => exact h
  | count => exact h
theorem BadTx.seqs (h : BadTx H v x b y) (s : Seqs H H') : BadTx H' v x b y := by
  cases y with
  | sheet => exact BadSh.seqs h s
  | sign p =>
    obtain ⟨sh, h1, h2⟩ := h
    exact ⟨sh, h1.seqs s, h2⟩
  | set =>
    obtain ⟨⟨sh, h1, h2⟩, h3⟩ := h
    exact ⟨⟨sh, h1.seqs s, h2⟩, h3⟩
  | tape p => exact h
  | count => exact h
end

/-! ### what the defs refuse -/
theorem nb_true {b : Bool} (h : (!b) = false) : b = true := by
  cases b
  · cases h
  · rfl
def spxNeedSheet (cl : Cl) : Sp := fun vs H Q E => ∃ (v : V),  vs = [v] ∧ (BadSh H v) ∧ (Tells cl H E .sheet)
theorem usex_need_sheet {cl : Cl} {H : Hp} {Q : VK} {E : XK} {v : V} (hv : BadSh H v) (q : Tells cl H E .sheet) : spxNeedSheet cl [v] H Q E := ⟨v, rfl, hv, q⟩

theorem okx_need_sheet {k : Nat} (T : TX mg) (F : Df K mg "need_sheet" s_need_sheet ["sheet"]) (XT : EX K mg cl) (o_are_signs : OkAt P w K mg base "are_signs" k ["signs"] spAreSigns) : OkX P w K mg base "need_sheet" (k + 1) ["sheet"] (spxNeedSheet cl) := by
  refine F.okX sc_need_sheet (fun vs H Q E h => ?_) (fun f cdv A outer s H vs Q E hr h => ?_)
  · obtain ⟨v, rfl, _⟩ := h
    rfl
  obtain ⟨v, rfl, hv, q⟩ := h
  refine ⟨_, (pss_cons (ps_asg (pv 0) (pg_tupK K (n := 3) rfl (pgs_cons (pg_name (i := 1) sc_need_sheet.nd rfl (by first | exact Or.inl rfl | exact Or.inr rfl)) (pgs_cons (pg_name (i := 2) sc_need_sheet.nd rfl (by first | exact Or.inl rfl | exact Or.inr rfl)) (pgs_cons (pg_name (i := 3) sc_need_sheet.nd rfl (by first | exact Or.inl rfl | exact Or.inr rfl)) pgs_nil))))) (pss_cons (ps_if (PW.pt (pw_or (pt_not (pt_val (pe_cl o_are_signs hr (by rfl) (pa_cons (pv 1) pa_nil)))) (pw_or (pt_not (pt_val (pe_cl o_are_signs hr (by rfl) (pa_cons (pv 2) pa_nil)))) (pw_or1 (pt_cmpR (op_uNe K hr.units) (pe_callB (cr_len K) (by rfl) T.b_len (by decide +kernel) (pa_cons (pv 1) pa_nil)) (pe_callB (cr_len K) (by rfl) T.b_len (by decide +kernel) (pa_cons (pv 2) pa_nil)) (nomark _)))))) (pss_one (ps_raiseP rfl (takes_of rfl rfl rfl rfl) XT.x_BadSheet XT.g_BadSheet XT.k_BadSheet XT.ex_BadSheet XT.ty_BadSheet (by rfl))) pss_nil) (pss_one (ps_if (PW.pt (pw_and (pt_cmpR op_uNotN (pv 3) pe_non (nomark _)) (pw_and1 (pt_not (pt_chain op_uLe op_uLt pe_int (pv 3) (pe_callB (cr_len K) (by rfl) T.b_len (by decide +kernel) (pa_cons (pv 1) pa_nil))))))) (pss_one (ps_raiseP rfl (takes_of rfl rfl rfl rfl) XT.x_BadSheet XT.g_BadSheet XT.k_BadSheet XT.ex_BadSheet XT.ty_BadSheet (by rfl))) pss_nil)))), ?_⟩
  obtain ⟨s, ⟨a, rfl, ha⟩, hl, hb⟩ := hv
  have bad : ∀ H1, Same H H1 → E (.ref cl.BadSheet) none H1 := fun H1 s1 => q H1 s1
  walk_at "r"
  refine use_are_signs hl.1 fun H1 s1 => ?_
  walk_at "r"
  have g0 : s.good = (goodSigns s.zero && goodSigns s.one && decide (s.zero.length = s.one.length) && (match s.home with | none => true | some h => decide (0 ≤ h ∧ h < s.zero.length))) := rfl
  rw [hb] at g0
  refine w_b (fun h1 => ?_) (fun h1 => ?_)
  · walk_at "r"
    exact bad H1 s1
  have h1 : goodSigns s.zero = true := nb_true h1
  walk_at "r"
  refine use_are_signs hl.2 fun H2 s2 => ?_
  have s12 := s1.trans s2
  walk_at "r"
  refine w_b (fun h2 => ?_) (fun h2 => ?_)
  · walk_at "r"
    exact bad H2 s12
  have h2 : goodSigns s.one = true := nb_true h2
  have l0 : s.zero.length ≤ 100000 := by have := hl.1; omega
  have l1 : s.one.length ≤ 100000 := by have := hl.2; omega
  walk_at "r"
  refine r_lenS (by rw [len_mkS]; exact le_size l0) ?_
  walk_at "r"
  refine r_lenS (by rw [len_mkS]; exact le_size l1) ?_
  walk_at "r"
  rw [len_mkS, len_mkS]
  refine w_nd (fun h3 => ?_) (fun h3 => ?_)
  · walk_at "r"
    exact bad H2 s12
  have h3 : s.zero.length = s.one.length := by omega
  rw [h1, h2, decide_eq_true h3] at g0
  walk_at "r"
  cases eh : s.home with
  | none =>
    rw [eh] at g0
    exact absurd g0 Bool.false_ne_true
  | some h =>
    rw [eh] at g0
    rw [decide_eq_false (show ¬ hVI (some h) = V.non from (fun z => nomatch z))]
    show if (!false) = true then _ else _
    walk_at "r"
    refine r_leI ?_
    walk_at "r"
    refine w_dec (fun h4 => ?_) (fun h4 => ?_)
    · walk_at "r"
      refine r_lenS (by rw [len_mkS]; exact le_size l0) ?_
      rw [len_mkS]
      refine r_ltI ?_
      walk_at "r"
      refine w_nd (fun h5 => ?_) (fun h5 => ?_)
      · walk_at "r"
        exact bad H2 s12
      · have g0 : false = decide (0 ≤ h ∧ h < s.zero.length) := g0
        rw [decide_eq_true ⟨h4, h5⟩] at g0
        cases g0
    · walk_at "r"
      exact bad H2 s12
def spxNeedSet (cl : Cl) : Sp := fun vs H Q E => ∃ (b : V),  vs = [b] ∧ (BadN b) ∧ (Tells cl H E .set)
theorem usex_need_set {cl : Cl} {H : Hp} {Q : VK} {E : XK} {b : V} (hb : BadN b) (q : Tells cl H E .set) : spxNeedSet cl [b] H Q E := ⟨b, rfl, hb, q⟩

theorem okx_need_set {k : Nat} (T : TX mg) (F : Df K mg "need_set" s_need_set ["number"]) (XT : EX K mg cl) : OkX P w K mg base "need_set" (k + 1) ["number"] (spxNeedSet cl) := by
  refine F.okX sc_need_set (fun vs H Q E h => ?_) (fun f cdv A outer s H vs Q E hr h => ?_)
  · obtain ⟨b, rfl, _⟩ := h
    rfl
  obtain ⟨b, rfl, hb, q⟩ := h
  refine ⟨_, (pss_one (ps_if (pt_cmpR (op_uNi K) (pv 0) (pe_tupN (pa_cons pe_int (pa_cons pe_int pa_nil))) (by rfl)) (pss_one (ps_raiseP rfl (takes_of rfl rfl rfl rfl) XT.x_BadSet XT.g_BadSet XT.k_BadSet XT.ex_BadSet XT.ty_BadSet (by rfl))) pss_nil)), ?_⟩
  obtain ⟨n, rfl, h0, h1⟩ := hb
  walk_at "r"
  intro p H1 n1 s1 e1
  walk_at "r"
  refine r_niU e1 rfl rfl ?_
  walk_at "r"
  refine w_t ?_ ?_
  · show (!((0 : Int) == n || ((1 : Int) == n || false))) = true
    rw [beq_eq_false_iff_ne.mpr (Ne.symm h0), beq_eq_false_iff_ne.mpr (Ne.symm h1)]
    rfl
  walk_at "r"
  exact q H1 s1
theorem ints_at {t : List Int} {i : Nat} {x : V} (h : (t.map V.int)[i]? = some x) : ∃ c, t[i]? = some c ∧ x = .int c := by
  rw [List.getElem?_map] at h
  cases e : t[i]? with
  | none => rw [e] at h; cases h
  | some c => rw [e] at h; exact ⟨c, rfl, (Option.some.inj h).symm⟩
def spxNeedTape (cl : Cl) : Sp := fun vs H Q E => ∃ (v u : V) (sh : Sh) (p : Nat),  vs = [v, u] ∧ (GoodSh H v sh) ∧ (BadT H u sh p) ∧ (Tells cl H E (.tape p))
theorem usex_need_tape {cl : Cl} {H : Hp} {Q : VK} {E : XK} {v u : V} {sh : Sh} {p : Nat} (hv : GoodSh H v sh) (hu : BadT H u sh p) (q : Tells cl H E (.tape p)) : spxNeedTape cl [v, u] H Q E := ⟨v, u, sh, p, rfl, hv, hu, q⟩

theorem okx_need_tape {k : Nat} (T : TX mg) (F : Df K mg "need_tape" s_need_tape ["sheet", "tape"]) (XT : EX K mg cl) (i_BadTape : InitOk P w K mg base cl.BadTape "place" k) : OkX P w K mg base "need_tape" (k + 1) ["sheet", "tape"] (spxNeedTape cl) := by
  refine F.okX sc_need_tape (fun vs H Q E h => ?_) (fun f cdv A outer s H vs Q E hr h => ?_)
  · obtain ⟨v, u, sh, p, rfl, _⟩ := h
    rfl
  obtain ⟨v, u, sh, p, rfl, hv, hu, q⟩ := h
  refine ⟨_, (pss_one (ps_for (passes_of rfl) rfl (pi_enumK K (by rfl) T.b_enumerate (pa_cons (pv 1) pa_nil)) (pg_tupK K (n := 2) rfl (pgs_cons (pg_name (i := 2) sc_need_tape.nd rfl (by first | exact Or.inl rfl | exact Or.inr rfl)) (pgs_cons (pg_name (i := 3) sc_need_tape.nd rfl (by first | exact Or.inl rfl | exact Or.inr rfl)) pgs_nil))) (pss_one (ps_if (PW.pt (pw_or (pt_cmpR op_uGe (pv 2) (pe_gInt (by rfl) T.c_MOST_CODES) (nomark _)) (pw_or1 (pt_not (pt_chain op_uLe op_uLt pe_int (pv 3) (pe_op (op_uAdd K) (pe_callB (cr_len K) (by rfl) T.b_len (by decide +kernel) (pa_cons (pe_ix (ix_u K) (pv 0) pe_int (fun _ _ => rfl)) pa_nil)) pe_int)))))) (pss_one (ps_raiseI K rfl (takes_of rfl rfl rfl rfl) XT.o_BadTape i_BadTape hr XT.g_BadTape (by rfl) (pa_cons (pv 2) pa_nil))) pss_nil)))), ?_⟩
  obtain ⟨hv, ok⟩ := hv
  obtain ⟨t, ⟨a, rfl, ha⟩, hp, hp1, hg, hx⟩ := hu
  obtain ⟨b, rfl, hb⟩ := id hv
  have l0 := ok.most
  walk_at "r"
  refine f_enum ha (fun i σ H' => i ≤ p ∧ ∃ x y, σ = [some (.ref b), some (.ref a), x, y] ∧ Same H H') ⟨Nat.zero_le _, none, none, rfl, Same.refl _⟩ (fun i σ H' _ ⟨_, x, y, _, s⟩ => s _ _ ha) (fun i x σ H' TT H1 hx1 => ?_) ?_
  · rintro ⟨hi, y, z, rfl, s⟩ hT s1 e1
    obtain ⟨c, hx2, rfl⟩ := ints_at hx1
    have raise : ∀ G, Same H G → ∀ d G2, G d = none → Same G G2 → G2 d = some (.xd [("place", .int (i : Nat))]) → i = p → E (.ref cl.BadTape) (some d) G2 := fun G sG d G2 nd s2 e2 ei => by
      rw [ei] at e2
      exact q d G2 (sG.free nd) (sG.trans s2) e2
    walk_at "r"
    refine w_dec (fun h1 => ?_) (fun h1 => ?_)
    · walk_at "r"
      refine r_raiseO1 (fun _ _ h ⟨v, e, z⟩ => ⟨v, e, h _ _ z⟩) ?_
      refine r_var rfl fun d G2 nd s2 e2 => raise _ (s.trans s1) d G2 nd s2 e2 ?_
      omega
    walk_at "r"
    refine w_dec (fun h2 => ?_) (fun h2 => ?_)
    · walk_at "r"
      refine r_lenS (by rw [len_mkS]; exact le_size (by omega)) ?_
      walk_at "r"
      rw [len_mkS]
      refine w_nd (fun h3 => ?_) (fun h3 => ?_)
      · walk_at "r"
        refine r_raiseO1 (fun _ _ h ⟨v, e, z⟩ => ⟨v, e, h _ _ z⟩) ?_
        refine r_var rfl fun d G2 nd s2 e2 => raise _ (s.trans s1) d G2 nd s2 e2 ?_
        refine Classical.byContradiction fun ne => ?_
        have := hg i (by omega) c hx2
        unfold Sh.n at this
        omega
      · walk_at "r"
        refine ⟨?_, _, _, rfl, s.trans s1⟩
        rcases Nat.lt_or_ge i p with z | z
        · omega
        · exfalso
          have ei : i = p := by omega
          rcases hx with hx | hx
          · omega
          · refine hx c (by rw [← ei]; exact hx2) ⟨h2, ?_⟩
            unfold Sh.n
            omega
    · walk_at "r"
      refine r_raiseO1 (fun _ _ h ⟨v, e, z⟩ => ⟨v, e, h _ _ z⟩) ?_
      refine r_var rfl fun d G2 nd s2 e2 => raise _ (s.trans s1) d G2 nd s2 e2 ?_
      refine Classical.byContradiction fun ne => ?_
      exact h2 (hg i (by omega) c hx2).1
  · rintro σ H' ⟨hle, _⟩
    rw [List.length_map] at hle
    omega
def spxNeedText (cl : Cl) : Sp := fun vs H Q E => ∃ (v x : V) (sh : Sh) (p : Nat),  vs = [v, x] ∧ (GoodSh H v sh) ∧ (BadX x sh p) ∧ (Tells cl H E (.sign p))
theorem usex_need_text {cl : Cl} {H : Hp} {Q : VK} {E : XK} {v x : V} {sh : Sh} {p : Nat} (hv : GoodSh H v sh) (hu : BadX x sh p) (q : Tells cl H E (.sign p)) : spxNeedText cl [v, x] H Q E := ⟨v, x, sh, p, rfl, hv, hu, q⟩

theorem okx_need_text {k : Nat} (T : TX mg) (F : Df K mg "need_text" s_need_text ["sheet", "text"]) (XT : EX K mg cl) (i_NoSign : InitOk P w K mg base cl.NoSign "place" k) : OkX P w K mg base "need_text" (k + 1) ["sheet", "text"] (spxNeedText cl) := by
  refine F.okX sc_need_text (fun vs H Q E h => ?_) (fun f cdv A outer s H vs Q E hr h => ?_)
  · obtain ⟨v, x, sh, p, rfl, _⟩ := h
    rfl
  obtain ⟨v, x, sh, p, rfl, hv, hu, q⟩ := h
  refine ⟨_, (pss_one (ps_for (passes_of rfl) rfl (pi_enumS (by rfl) T.b_enumerate (pa_cons (pv 1) pa_nil)) (pg_tupK K (n := 2) rfl (pgs_cons (pg_name (i := 2) sc_need_text.nd rfl (by first | exact Or.inl rfl | exact Or.inr rfl)) (pgs_cons (pg_name (i := 3) sc_need_text.nd rfl (by first | exact Or.inl rfl | exact Or.inr rfl)) pgs_nil))) (pss_one (ps_if (PW.pt (pw_or (pt_cmpR op_uGe (pv 2) (pe_gInt (by rfl) T.c_MOST_TEXT) (nomark _)) (pw_or1 (pt_cmpR (op_uNi K) (pv 3) (pe_op (op_uAdd K) (pe_ix (ix_u K) (pv 0) pe_int (fun _ _ => rfl)) (pe_ix (ix_u K) (pv 0) pe_int (fun _ _ => rfl))) (by rfl))))) (pss_one (ps_raiseI K rfl (takes_of rfl rfl rfl rfl) XT.o_NoSign i_NoSign hr XT.g_NoSign (by rfl) (pa_cons (pv 2) pa_nil))) pss_nil)))), ?_⟩
  obtain ⟨hv, ok⟩ := hv
  obtain ⟨x, rfl, hlx, hp, hp1, hg, hx⟩ := hu
  have h26 := ok.most
  have hlo := ok.len
  obtain ⟨a, rfl, ha⟩ := id hv
  walk_at "r"
  refine f_enumS (fun i σ H' => i ≤ p ∧ ∃ y z, σ = [some (.ref a), some (.str (mkS x)), y, z] ∧ Same H H') ⟨Nat.zero_le _, none, none, rfl, Same.refl _⟩ ?_ ?_
  · rintro i c σ H1 T1 H2 hx2 ⟨hi, y, z, rfl, s⟩ hT s1 e1
    rw [tl_mkS] at hx2
    have ha2 := s1 _ _ (s _ _ ha)
    have raise : ∀ G, Same H G → ∀ d G2, G d = none → Same G G2 → G2 d = some (.xd [("place", .int (i : Nat))]) → i = p → E (.ref cl.NoSign) (some d) G2 := fun G sG d G2 nd s2 e2 ei => by
      rw [ei] at e2
      exact q d G2 (sG.free nd) (sG.trans s2) e2
    walk_at "r"
    refine w_dec (fun h1 => ?_) (fun h1 => ?_)
    · walk_at "r"
      refine r_raiseO1 (fun _ _ h ⟨v, e, z⟩ => ⟨v, e, h _ _ z⟩) ?_
      refine r_var rfl fun d G2 nd s2 e2 => raise _ (s.trans s1) d G2 nd s2 e2 ?_
      omega
    walk_at "r"
    refine r_addS (by rw [len_mkS, len_mkS]; exact le_size (by omega)) ?_
    rw [mkS_app]
    walk_at "r"
    refine r_niC ?_
    walk_at "r"
    refine w_nd (fun h3 => ?_) (fun h3 => ?_)
    · walk_at "r"
      refine r_raiseO1 (fun _ _ h ⟨v, e, z⟩ => ⟨v, e, h _ _ z⟩) ?_
      refine r_var rfl fun d G2 nd s2 e2 => raise _ (s.trans s1) d G2 nd s2 e2 ?_
      refine Classical.byContradiction fun ne => ?_
      exact h3 (List.mem_append.mpr (hg i (by omega) c hx2))
    · walk_at "r"
      refine ⟨?_, _, _, rfl, s.trans s1⟩
      rcases Nat.lt_or_ge i p with z | z
      · omega
      · exfalso
        have ei : i = p := by omega
        rcases hx with hx | hx
        · omega
        · exact hx c (by rw [← ei]; exact hx2) (List.mem_append.mp h3)
  · rintro σ H' ⟨hle, _⟩
    rw [len_mkS] at hle
    omega
def spxNeedMost (cl : Cl) : Sp := fun vs H Q E => ∃ (m : V),  vs = [m] ∧ (BadM m) ∧ (Tells cl H E .count)
theorem usex_need_most {cl : Cl} {H : Hp} {Q : VK} {E : XK} {m : V} (hm : BadM m) (q : Tells cl H E .count) : spxNeedMost cl [m] H Q E := ⟨m, rfl, hm, q⟩

theorem okx_need_most {k : Nat} (T : TX mg) (F : Df K mg "need_most" s_need_most ["most"]) (XT : EX K mg cl) : OkX P w K mg base "need_most" (k + 1) ["most"] (spxNeedMost cl) := by
  refine F.okX sc_need_most (fun vs H Q E h => ?_) (fun f cdv A outer s H vs Q E hr h => ?_)
  · obtain ⟨m, rfl, _⟩ := h
    rfl
  obtain ⟨m, rfl, hm, q⟩ := h
  refine ⟨_, (pss_one (ps_if (pt_not (pt_chain op_uLe op_uLe pe_int (pv 0) (pe_gInt (by rfl) T.c_MOST_TEXT))) (pss_one (ps_raiseP rfl (takes_of rfl rfl rfl rfl) XT.x_BadCount XT.g_BadCount XT.k_BadCount XT.ex_BadCount XT.ty_BadCount (by rfl))) pss_nil)), ?_⟩
  obtain ⟨n, rfl, hn⟩ := hm
  walk_at "r"
  refine w_dec (fun h1 => ?_) (fun h1 => ?_)
  · walk_at "r"
    refine w_nd (fun h2 => ?_) (fun h2 => ?_)
    · walk_at "r"
      exact q H (Same.refl _)
    · omega
  · walk_at "r"
    exact q H (Same.refl _)
def spxNeedAll (cl : Cl) : Sp := fun vs H Q E => ∃ (v u b : V) (y : Why),  vs = [v, u, b] ∧ (BadAll H v u b y) ∧ (Tells cl H E y)
theorem usex_need_all {cl : Cl} {H : Hp} {Q : VK} {E : XK} {v u b : V} {y : Why} (hy : BadAll H v u b y) (q : Tells cl H E y) : spxNeedAll cl [v, u, b] H Q E := ⟨v, u, b, y, rfl, hy, q⟩

theorem okx_need_all {k : Nat} (T : TX mg) (F : Df K mg "need_all" s_need_all ["sheet", "tape", "begin"]) (XT : EX K mg cl) (o_need_sheet : OkAt P w K mg base "need_sheet" k ["sheet"] spNeedSheet) (x_need_sheet : OkX P w K mg base "need_sheet" k ["sheet"] (spxNeedSheet cl)) (o_need_tape : OkAt P w K mg base "need_tape" k ["sheet", "tape"] spNeedTape) (x_need_tape : OkX P w K mg base "need_tape" k ["sheet", "tape"] (spxNeedTape cl)) (o_need_set : OkAt P w K mg base "need_set" k ["number"] spNeedSet) (x_need_set : OkX P w K mg base "need_set" k ["number"] (spxNeedSet cl)) : OkX P w K mg base "need_all" (k + 1) ["sheet", "tape", "begin"] (spxNeedAll cl) := by
  refine F.okX sc_need_all (fun vs H Q E h => ?_) (fun f cdv A outer s H vs Q E hr h => ?_)
  · obtain ⟨v, u, b, y, rfl, _⟩ := h
    rfl
  obtain ⟨v, u, b, y, rfl, hy, q⟩ := h
  refine ⟨_, (pss_cons (ps_expr (pe_clX2 o_need_sheet x_need_sheet hr (takes_of rfl rfl rfl rfl) (by rfl) (pa_cons (pv 0) pa_nil))) (pss_cons (ps_expr (pe_clX2 o_need_tape x_need_tape hr (takes_of rfl rfl rfl rfl) (by rfl) (pa_cons (pv 0) (pa_cons (pv 1) pa_nil)))) (pss_one (ps_expr (pe_clX2 o_need_set x_need_set hr (takes_of rfl rfl rfl rfl) (by rfl) (pa_cons (pv 2) pa_nil)))))), ?_⟩
  walk_at "r"
  cases y with
  | sheet => exact .inr (usex_need_sheet hy q)
  | tape p =>
    obtain ⟨sh, hv, hu⟩ := hy
    refine .inl (use_need_sheet hv.1 hv.2 fun H1 s1 => ?_)
    walk_at "r"
    exact .inr (usex_need_tape (hv.seqs (.of_same s1)) (hu.seqs (.of_same s1)) (q.same s1))
  | set =>
    obtain ⟨⟨sh, hv, t, ht, hc, hl⟩, hb⟩ := hy
    refine .inl (use_need_sheet hv.1 hv.2 fun H1 s1 => ?_)
    walk_at "r"
    refine .inl (use_need_tape (same_sh s1 hv.1) hv.2 (same_tape s1 ht) hc hl fun H2 s2 => ?_)
    walk_at "r"
    exact .inr (usex_need_set hb (q.same (s1.trans s2)))
  | sign p => exact hy.elim
  | count => exact hy.elim
def spxRead (cl : Cl) : Sp := fun vs H Q E => ∃ (v u b : V) (y : Why),  vs = [v, u, b] ∧ (BadAll H v u b y) ∧ (Tells cl H E y)
theorem usex_read {cl : Cl} {H : Hp} {Q : VK} {E : XK} {v u b : V} {y : Why} (hy : BadAll H v u b y) (q : Tells cl H E y) : spxRead cl [v, u, b] H Q E := ⟨v, u, b, y, rfl, hy, q⟩

theorem okx_read {k : Nat} (T : TX mg) (F : Df K mg "read" s_read ["sheet", "tape", "begin"]) (XT : EX K mg cl) (o_need_all : OkAt P w K mg base "need_all" k ["sheet", "tape", "begin"] spNeedAll) (x_need_all : OkX P w K mg base "need_all" k ["sheet", "tape", "begin"] (spxNeedAll cl)) : OkX P w K mg base "read" (k + 1) ["sheet", "tape", "begin"] (spxRead cl) := by
  refine F.okX sc_read (fun vs H Q E h => ?_) (fun f cdv A outer s H vs Q E hr h => ?_)
  · obtain ⟨v, u, b, y, rfl, _⟩ := h
    rfl
  obtain ⟨v, u, b, y, rfl, hy, q⟩ := h
  refine ⟨_, (pss_cons (ps_expr (pe_clX2 o_need_all x_need_all hr (takes_of rfl rfl rfl rfl) (by rfl) (pa_cons (pv 0) (pa_cons (pv 1) (pa_cons (pv 2) pa_nil))))) pss_never), ?_⟩
  walk_at "r"
  exact .inr (usex_need_all hy q)
def spxLastSet (cl : Cl) : Sp := fun vs H Q E => ∃ (v u b : V) (y : Why),  vs = [v, u, b] ∧ (BadAll H v u b y) ∧ (Tells cl H E y)
theorem usex_last_set {cl : Cl} {H : Hp} {Q : VK} {E : XK} {v u b : V} {y : Why} (hy : BadAll H v u b y) (q : Tells cl H E y) : spxLastSet cl [v, u, b] H Q E := ⟨v, u, b, y, rfl, hy, q⟩

theorem okx_last_set {k : Nat} (T : TX mg) (F : Df K mg "last_set" s_last_set ["sheet", "tape", "begin"]) (XT : EX K mg cl) (o_need_all : OkAt P w K mg base "need_all" k ["sheet", "tape", "begin"] spNeedAll) (x_need_all : OkX P w K mg base "need_all" k ["sheet", "tape", "begin"] (spxNeedAll cl)) : OkX P w K mg base "last_set" (k + 1) ["sheet", "tape", "begin"] (spxLastSet cl) := by
  refine F.okX sc_last_set (fun vs H Q E h => ?_) (fun f cdv A outer s H vs Q E hr h => ?_)
  · obtain ⟨v, u, b, y, rfl, _⟩ := h
    rfl
  obtain ⟨v, u, b, y, rfl, hy, q⟩ := h
  refine ⟨_, (pss_cons (ps_expr (pe_clX2 o_need_all x_need_all hr (takes_of rfl rfl rfl rfl) (by rfl) (pa_cons (pv 0) (pa_cons (pv 1) (pa_cons (pv 2) pa_nil))))) pss_never), ?_⟩
  walk_at "r"
  exact .inr (usex_need_all hy q)
def spxSpoilt (cl : Cl) : Sp := fun vs H Q E => ∃ (v u b : V) (y : Why),  vs = [v, u, b] ∧ (BadAll H v u b y) ∧ (Tells cl H E y)
theorem usex_spoilt {cl : Cl} {H : Hp} {Q : VK} {E : XK} {v u b : V} {y : Why} (hy : BadAll H v u b y) (q : Tells cl H E y) : spxSpoilt cl [v, u, b] H Q E := ⟨v, u, b, y, rfl, hy, q⟩

theorem okx_spoilt {k : Nat} (T : TX mg) (F : Df K mg "spoilt" s_spoilt ["sheet", "tape", "begin"]) (XT : EX K mg cl) (o_need_all : OkAt P w K mg base "need_all" k ["sheet", "tape", "begin"] spNeedAll) (x_need_all : OkX P w K mg base "need_all" k ["sheet", "tape", "begin"] (spxNeedAll cl)) : OkX P w K mg base "spoilt" (k + 1) ["sheet", "tape", "begin"] (spxSpoilt cl) := by
  refine F.okX sc_spoilt (fun vs H Q E h => ?_) (fun f cdv A outer s H vs Q E hr h => ?_)
  · obtain ⟨v, u, b, y, rfl, _⟩ := h
    rfl
  obtain ⟨v, u, b, y, rfl, hy, q⟩ := h
  refine ⟨_, (pss_cons (ps_expr (pe_clX2 o_need_all x_need_all hr (takes_of rfl rfl rfl rfl) (by rfl) (pa_cons (pv 0) (pa_cons (pv 1) (pa_cons (pv 2) pa_nil))))) pss_never), ?_⟩
  walk_at "r"
  exact .inr (usex_need_all hy q)
def spxLostAt (cl : Cl) : Sp := fun vs H Q E => ∃ (v u b x : V) (y : Why),  vs = [v, u, b, x] ∧ (BadAll H v u b y) ∧ (Tells cl H E y)
theorem usex_lost_at {cl : Cl} {H : Hp} {Q : VK} {E : XK} {v u b x : V} {y : Why} (hy : BadAll H v u b y) (q : Tells cl H E y) : spxLostAt cl [v, u, b, x] H Q E := ⟨v, u, b, x, y, rfl, hy, q⟩

theorem okx_lost_at {k : Nat} (T : TX mg) (F : Df K mg "lost_at" s_lost_at ["sheet", "tape", "begin", "text"]) (XT : EX K mg cl) (o_need_all : OkAt P w K mg base "need_all" k ["sheet", "tape", "begin"] spNeedAll) (x_need_all : OkX P w K mg base "need_all" k ["sheet", "tape", "begin"] (spxNeedAll cl)) : OkX P w K mg base "lost_at" (k + 1) ["sheet", "tape", "begin", "text"] (spxLostAt cl) := by
  refine F.okX sc_lost_at (fun vs H Q E h => ?_) (fun f cdv A outer s H vs Q E hr h => ?_)
  · obtain ⟨v, u, b, x, y, rfl, _⟩ := h
    rfl
  obtain ⟨v, u, b, x, y, rfl, hy, q⟩ := h
  refine ⟨_, (pss_cons (ps_expr (pe_clX2 o_need_all x_need_all hr (takes_of rfl rfl rfl rfl) (by rfl) (pa_cons (pv 0) (pa_cons (pv 1) (pa_cons (pv 2) pa_nil))))) pss_never), ?_⟩
  walk_at "r"
  exact .inr (usex_need_all hy q)
/-- a tape and a set that are good, a count that is none -/
def BadCt (H : Hp) (v u b m : V) (y : Why) : Prop := BadAll H v u b y ∨ (y = .count ∧ (∃ sh, GoodSh H v sh ∧ GoodT H u sh) ∧ GoodN b ∧ BadM m)
def spxIsGuarded (cl : Cl) : Sp := fun vs H Q E => ∃ (v u b m : V) (y : Why),  vs = [v, u, b, m] ∧ (BadCt H v u b m y) ∧ (Tells cl H E y)
theorem usex_is_guarded {cl : Cl} {H : Hp} {Q : VK} {E : XK} {v u b m : V} {y : Why} (hy : BadCt H v u b m y) (q : Tells cl H E y) : spxIsGuarded cl [v, u, b, m] H Q E := ⟨v, u, b, m, y, rfl, hy, q⟩

theorem okx_is_guarded {k : Nat} (T : TX mg) (F : Df K mg "is_guarded" s_is_guarded ["sheet", "tape", "begin", "most"]) (XT : EX K mg cl) (o_need_all : OkAt P w K mg base "need_all" k ["sheet", "tape", "begin"] spNeedAll) (x_need_all : OkX P w K mg base "need_all" k ["sheet", "tape", "begin"] (spxNeedAll cl)) (o_need_most : OkAt P w K mg base "need_most" k ["most"] spNeedMost) (x_need_most : OkX P w K mg base "need_most" k ["most"] (spxNeedMost cl)) : OkX P w K mg base "is_guarded" (k + 1) ["sheet", "tape", "begin", "most"] (spxIsGuarded cl) := by
  refine F.okX sc_is_guarded (fun vs H Q E h => ?_) (fun f cdv A outer s H vs Q E hr h => ?_)
  · obtain ⟨v, u, b, m, y, rfl, _⟩ := h
    rfl
  obtain ⟨v, u, b, m, y, rfl, hy, q⟩ := h
  refine ⟨_, (pss_cons (ps_expr (pe_clX2 o_need_all x_need_all hr (takes_of rfl rfl rfl rfl) (by rfl) (pa_cons (pv 0) (pa_cons (pv 1) (pa_cons (pv 2) pa_nil))))) (pss_cons (ps_expr (pe_clX2 o_need_most x_need_most hr (takes_of rfl rfl rfl rfl) (by rfl) (pa_cons (pv 3) pa_nil))) pss_never)), ?_⟩
  walk_at "r"
  rcases hy with hy | ⟨rfl, ⟨sh, hv, t, ht, hc, hl⟩, ⟨c, rfl⟩, hm⟩
  · exact .inr (usex_need_all hy q)
  · refine .inl (use_need_all hv.1 hv.2 ht hc hl fun H1 s1 => ?_)
    walk_at "r"
    exact .inr (usex_need_most hm (q.same s1))
/-- a tape and a set that are good, a place that is none -/
def BadPl (H : Hp) (v u b m : V) (y : Why) : Prop := BadAll H v u b y ∨ (y = .count ∧ (∃ sh t, GoodSh H v sh ∧ IsTape H u t ∧ sh.Codes t ∧ t.length ≤ 100 ∧ ∃ n : Int, m = .int n ∧ (n < 0 ∨ (t.length : Int) < n)) ∧ GoodN b)
def spxCut (cl : Cl) : Sp := fun vs H Q E => ∃ (v u b m : V) (y : Why),  vs = [v, u, b, m] ∧ (BadPl H v u b m y) ∧ (Tells cl H E y)
theorem usex_cut {cl : Cl} {H : Hp} {Q : VK} {E : XK} {v u b m : V} {y : Why} (hy : BadPl H v u b m y) (q : Tells cl H E y) : spxCut cl [v, u, b, m] H Q E := ⟨v, u, b, m, y, rfl, hy, q⟩

theorem okx_cut {k : Nat} (T : TX mg) (F : Df K mg "cut" s_cut ["sheet", "tape", "begin", "place"]) (XT : EX K mg cl) (o_need_all : OkAt P w K mg base "need_all" k ["sheet", "tape", "begin"] spNeedAll) (x_need_all : OkX P w K mg base "need_all" k ["sheet", "tape", "begin"] (spxNeedAll cl)) : OkX P w K mg base "cut" (k + 1) ["sheet", "tape", "begin", "place"] (spxCut cl) := by
  refine F.okX sc_cut (fun vs H Q E h => ?_) (fun f cdv A outer s H vs Q E hr h => ?_)
  · obtain ⟨v, u, b, m, y, rfl, _⟩ := h
    rfl
  obtain ⟨v, u, b, m, y, rfl, hy, q⟩ := h
  refine ⟨_, (pss_cons (ps_expr (pe_clX2 o_need_all x_need_all hr (takes_of rfl rfl rfl rfl) (by rfl) (pa_cons (pv 0) (pa_cons (pv 1) (pa_cons (pv 2) pa_nil))))) (pss_cons (ps_if (pt_not (pt_chain op_uLe op_uLe pe_int (pv 3) (pe_callB (cr_len K) (by rfl) T.b_len (by decide +kernel) (pa_cons (pv 1) pa_nil)))) (pss_one (ps_raiseP rfl (takes_of rfl rfl rfl rfl) XT.x_BadCount XT.g_BadCount XT.k_BadCount XT.ex_BadCount XT.ty_BadCount (by rfl))) pss_nil) pss_never)), ?_⟩
  walk_at "r"
  rcases hy with hy | ⟨rfl, ⟨sh, t, hv, ht, hc, hl, n, rfl, hn⟩, ⟨c, rfl⟩⟩
  · exact .inr (usex_need_all hy q)
  · refine .inl (use_need_all hv.1 hv.2 ht hc hl fun H1 s1 => ?_)
    obtain ⟨a, rfl, ha⟩ := same_tape s1 ht
    walk_at "r"
    refine w_dec (fun h1 => ?_) (fun h1 => ?_)
    · walk_at "r"
      refine w_nd (fun h2 => ?_) (fun h2 => ?_)
      · walk_at "r"
        exact q H1 s1
      · rw [tapeV_len] at h2
        omega
    · walk_at "r"
      exact q H1 s1
/-- tapes, all good ahead of the first bad one -/
def BadTs (H : Hp) (v w b : V) : Why → Prop
  | .sheet => BadSh H v
  | .tape p => ∃ (sh : Sh) (a : Addr) (us : List V) (i : Nat) (u : V), GoodSh H v sh ∧ w = .ref a ∧ H a = some (.lst us) ∧ us[i]? = some u ∧ BadT H u sh p ∧ ∀ j, j < i → ∀ x, us[j]? = some x → GoodT H x sh
  | .set => (∃ (sh : Sh) (a : Addr) (us : List V), GoodSh H v sh ∧ w = .ref a ∧ H a = some (.lst us) ∧ ∀ x ∈ us, GoodT H x sh) ∧ BadN b
  | _ => False
def spxJoined (cl : Cl) : Sp := fun vs H Q E => ∃ (v w b : V) (y : Why),  vs = [v, w, b] ∧ (BadTs H v w b y) ∧ (Tells cl H E y)
theorem usex_joined {cl : Cl} {H : Hp} {Q : VK} {E : XK} {v w b : V} {y : Why} (hy : BadTs H v w b y) (q : Tells cl H E y) : spxJoined cl [v, w, b] H Q E := ⟨v, w, b, y, rfl, hy, q⟩

theorem okx_joined {k : Nat} (T : TX mg) (F : Df K mg "joined" s_joined ["sheet", "tapes", "begin"]) (XT : EX K mg cl) (o_need_sheet : OkAt P w K mg base "need_sheet" k ["sheet"] spNeedSheet) (x_need_sheet : OkX P w K mg base "need_sheet" k ["sheet"] (spxNeedSheet cl)) (o_need_tape : OkAt P w K mg base "need_tape" k ["sheet", "tape"] spNeedTape) (x_need_tape : OkX P w K mg base "need_tape" k ["sheet", "tape"] (spxNeedTape cl)) (o_need_set : OkAt P w K mg base "need_set" k ["number"] spNeedSet) (x_need_set : OkX P w K mg base "need_set" k ["number"] (spxNeedSet cl)) : OkX P w K mg base "joined" (k + 1) ["sheet", "tapes", "begin"] (spxJoined cl) := by
  refine F.okX sc_joined (fun vs H Q E h => ?_) (fun f cdv A outer s H vs Q E hr h => ?_)
  · obtain ⟨v, w, b, y, rfl, _⟩ := h
    rfl
  obtain ⟨v, w, b, y, rfl, hy, q⟩ := h
  refine ⟨_, (pss_cons (ps_expr (pe_clX2 o_need_sheet x_need_sheet hr (takes_of rfl rfl rfl rfl) (by rfl) (pa_cons (pv 0) pa_nil))) (pss_cons (ps_for (passes_of rfl) rfl (pi_listK K (pv 1)) (pg_name (i := 3) sc_joined.nd rfl (by first | exact Or.inl rfl | exact Or.inr rfl)) (pss_one (ps_expr (pe_clX2 o_need_tape x_need_tape hr (takes_of rfl rfl rfl rfl) (by rfl) (pa_cons (pv 0) (pa_cons (pv 3) pa_nil)))))) (pss_cons (ps_expr (pe_clX2 o_need_set x_need_set hr (takes_of rfl rfl rfl rfl) (by rfl) (pa_cons (pv 2) pa_nil))) pss_never))), ?_⟩
  walk_at "r"
  cases y with
  | sheet => exact .inr (usex_need_sheet hy q)
  | tape p =>
    obtain ⟨sh, a, us, i, u, hv, rfl, ha, hi, hu, hg⟩ := hy
    refine .inl (use_need_sheet hv.1 hv.2 fun H1 s1 => ?_)
    walk_at "r"
    refine f_list (s1 _ _ ha) (fun j σ H' => j ≤ i ∧ ∃ y z, σ = [some v, some (.ref a), some b, y, z] ∧ Same H H') ⟨Nat.zero_le _, _, _, rfl, s1⟩ (fun j σ H' _ ⟨_, y, z, _, s⟩ => s _ _ ha) ?_ ?_
    · rintro j x σ H' hx ⟨hj, y, z, rfl, s⟩
      walk_at "r"
      rcases Nat.lt_or_ge j i with hl | hl
      · obtain ⟨t, ht, hc, hlt⟩ := hg j hl x hx
        refine .inl (use_need_tape (same_sh s hv.1) hv.2 (same_tape s ht) hc hlt fun H2 s2 => ?_)
        exact ⟨by omega, _, _, rfl, s.trans s2⟩
      · have ej : j = i := by omega
        rw [ej, hi] at hx
        cases hx
        exact .inr (usex_need_tape (hv.seqs (.of_same s)) (hu.seqs (.of_same s)) (q.same s))
    · rintro σ H' ⟨hle, _⟩
      have := (List.getElem?_eq_some_iff.mp hi).1
      omega
  | set =>
    obtain ⟨⟨sh, a, us, hv, rfl, ha, hg⟩, hb⟩ := hy
    refine .inl (use_need_sheet hv.1 hv.2 fun H1 s1 => ?_)
    walk_at "r"
    refine f_list (s1 _ _ ha) (fun j σ H' => ∃ y z, σ = [some v, some (.ref a), some b, y, z] ∧ Same H H') ⟨_, _, rfl, s1⟩ (fun j σ H' _ ⟨y, z, _, s⟩ => s _ _ ha) ?_ ?_
    · rintro j x σ H' hx ⟨y, z, rfl, s⟩
      walk_at "r"
      obtain ⟨t, ht, hc, hlt⟩ := hg x (List.mem_of_getElem? hx)
      refine .inl (use_need_tape (same_sh s hv.1) hv.2 (same_tape s ht) hc hlt fun H2 s2 => ?_)
      exact ⟨_, _, rfl, s.trans s2⟩
    · rintro σ H' ⟨y, z, rfl, s⟩
      walk_at "r"
      exact .inr (usex_need_set hb (q.same s))
  | sign p => exact hy.elim
  | count => exact hy.elim
def spxShortest (cl : Cl) : Sp := fun vs H Q E => ∃ (v x b : V) (y : Why),  vs = [v, x, b] ∧ (BadTx H v x b y) ∧ (Tells cl H E y)
theorem usex_shortest {cl : Cl} {H : Hp} {Q : VK} {E : XK} {v x b : V} {y : Why} (hy : BadTx H v x b y) (q : Tells cl H E y) : spxShortest cl [v, x, b] H Q E := ⟨v, x, b, y, rfl, hy, q⟩

theorem okx_shortest {k : Nat} (T : TX mg) (F : Df K mg "shortest" s_shortest ["sheet", "text", "begin"]) (XT : EX K mg cl) (o_need_sheet : OkAt P w K mg base "need_sheet" k ["sheet"] spNeedSheet) (x_need_sheet : OkX P w K mg base "need_sheet" k ["sheet"] (spxNeedSheet cl)) (o_need_text : OkAt P w K mg base "need_text" k ["sheet", "text"] spNeedText) (x_need_text : OkX P w K mg base "need_text" k ["sheet", "text"] (spxNeedText cl)) (o_need_set : OkAt P w K mg base "need_set" k ["number"] spNeedSet) (x_need_set : OkX P w K mg base "need_set" k ["number"] (spxNeedSet cl)) : OkX P w K mg base "shortest" (k + 1) ["sheet", "text", "begin"] (spxShortest cl) := by
  refine F.okX sc_shortest (fun vs H Q E h => ?_) (fun f cdv A outer s H vs Q E hr h => ?_)
  · obtain ⟨v, x, b, y, rfl, _⟩ := h
    rfl
  obtain ⟨v, x, b, y, rfl, hy, q⟩ := h
  refine ⟨_, (pss_cons (ps_expr (pe_clX2 o_need_sheet x_need_sheet hr (takes_of rfl rfl rfl rfl) (by rfl) (pa_cons (pv 0) pa_nil))) (pss_cons (ps_expr (pe_clX2 o_need_text x_need_text hr (takes_of rfl rfl rfl rfl) (by rfl) (pa_cons (pv 0) (pa_cons (pv 1) pa_nil)))) (pss_cons (ps_expr (pe_clX2 o_need_set x_need_set hr (takes_of rfl rfl rfl rfl) (by rfl) (pa_cons (pv 2) pa_nil))) pss_never))), ?_⟩
  walk_at "r"
  cases y with
  | sheet => exact .inr (usex_need_sheet hy q)
  | sign p =>
    obtain ⟨sh, hv, hx⟩ := hy
    refine .inl (use_need_sheet hv.1 hv.2 fun H1 s1 => ?_)
    walk_at "r"
    exact .inr (usex_need_text (hv.seqs (.of_same s1)) hx (q.same s1))
  | set =>
    obtain ⟨⟨sh, hv, z, rfl, hc, hl⟩, hb⟩ := hy
    refine .inl (use_need_sheet hv.1 hv.2 fun H1 s1 => ?_)
    walk_at "r"
    refine .inl (use_need_text (same_sh s1 hv.1) hv.2 hc hl fun H2 s2 => ?_)
    walk_at "r"
    exact .inr (usex_need_set hb (q.same (s1.trans s2)))
  | tape p => exact hy.elim
  | count => exact hy.elim
/-- a text and a set that are good, a count that is none -/
def BadTc (H : Hp) (v x b m : V) (y : Why) : Prop := BadTx H v x b y ∨ (y = .count ∧ (∃ sh, GoodSh H v sh ∧ GoodX x sh 32) ∧ GoodN b ∧ BadM m)
def spxGuarded (cl : Cl) : Sp := fun vs H Q E => ∃ (v x b m : V) (y : Why),  vs = [v, x, b, m] ∧ (BadTc H v x b m y) ∧ (Tells cl H E y)
theorem usex_guarded {cl : Cl} {H : Hp} {Q : VK} {E : XK} {v x b m : V} {y : Why} (hy : BadTc H v x b m y) (q : Tells cl H E y) : spxGuarded cl [v, x, b, m] H Q E := ⟨v, x, b, m, y, rfl, hy, q⟩

theorem okx_guarded {k : Nat} (T : TX mg) (F : Df K mg "guarded" s_guarded ["sheet", "text", "begin", "most"]) (XT : EX K mg cl) (o_need_sheet : OkAt P w K mg base "need_sheet" k ["sheet"] spNeedSheet) (x_need_sheet : OkX P w K mg base "need_sheet" k ["sheet"] (spxNeedSheet cl)) (o_need_text : OkAt P w K mg base "need_text" k ["sheet", "text"] spNeedText) (x_need_text : OkX P w K mg base "need_text" k ["sheet", "text"] (spxNeedText cl)) (o_need_set : OkAt P w K mg base "need_set" k ["number"] spNeedSet) (x_need_set : OkX P w K mg base "need_set" k ["number"] (spxNeedSet cl)) (o_need_most : OkAt P w K mg base "need_most" k ["most"] spNeedMost) (x_need_most : OkX P w K mg base "need_most" k ["most"] (spxNeedMost cl)) : OkX P w K mg base "guarded" (k + 1) ["sheet", "text", "begin", "most"] (spxGuarded cl) := by
  refine F.okX sc_guarded (fun vs H Q E h => ?_) (fun f cdv A outer s H vs Q E hr h => ?_)
  · obtain ⟨v, x, b, m, y, rfl, _⟩ := h
    rfl
  obtain ⟨v, x, b, m, y, rfl, hy, q⟩ := h
  refine ⟨_, (pss_cons (ps_expr (pe_clX2 o_need_sheet x_need_sheet hr (takes_of rfl rfl rfl rfl) (by rfl) (pa_cons (pv 0) pa_nil))) (pss_cons (ps_expr (pe_clX2 o_need_text x_need_text hr (takes_of rfl rfl rfl rfl) (by rfl) (pa_cons (pv 0) (pa_cons (pv 1) pa_nil)))) (pss_cons (ps_expr (pe_clX2 o_need_set x_need_set hr (takes_of rfl rfl rfl rfl) (by rfl) (pa_cons (pv 2) pa_nil))) (pss_cons (ps_expr (pe_clX2 o_need_most x_need_most hr (takes_of rfl rfl rfl rfl) (by rfl) (pa_cons (pv 3) pa_nil))) pss_never)))), ?_⟩
  walk_at "r"
  rcases hy with hy | ⟨rfl, ⟨sh, hv, z, rfl, hc, hl⟩, ⟨c, rfl⟩, hm⟩
  · cases y with
    | sheet => exact .inr (usex_need_sheet hy q)
    | sign p =>
      obtain ⟨sh, hv, hx⟩ := hy
      refine .inl (use_need_sheet hv.1 hv.2 fun H1 s1 => ?_)
      walk_at "r"
      exact .inr (usex_need_text (hv.seqs (.of_same s1)) hx (q.same s1))
    | set =>
      obtain ⟨⟨sh, hv, z, rfl, hc, hl⟩, hb⟩ := hy
      refine .inl (use_need_sheet hv.1 hv.2 fun H1 s1 => ?_)
      walk_at "r"
      refine .inl (use_need_text (same_sh s1 hv.1) hv.2 hc hl fun H2 s2 => ?_)
      walk_at "r"
      exact .inr (usex_need_set hb (q.same (s1.trans s2)))
    | tape p => exact hy.elim
    | count => exact hy.elim
  · refine .inl (use_need_sheet hv.1 hv.2 fun H1 s1 => ?_)
    walk_at "r"
    refine .inl (use_need_text (same_sh s1 hv.1) hv.2 hc hl fun H2 s2 => ?_)
    walk_at "r"
    refine .inl (use_need_set fun H3 s3 => ?_)
    walk_at "r"
    exact .inr (usex_need_most hm (q.same ((s1.trans s2).trans s3)))
def spxEither (cl : Cl) : Sp := fun vs H Q E => ∃ (v x : V) (y : Why),  vs = [v, x] ∧ (BadTx H v x (.int 0) y) ∧ (Tells cl H E y)
theorem usex_either {cl : Cl} {H : Hp} {Q : VK} {E : XK} {v x : V} {y : Why} (hy : BadTx H v x (.int 0) y) (q : Tells cl H E y) : spxEither cl [v, x] H Q E := ⟨v, x, y, rfl, hy, q⟩

theorem okx_either {k : Nat} (T : TX mg) (F : Df K mg "either" s_either ["sheet", "text"]) (XT : EX K mg cl) (o_need_sheet : OkAt P w K mg base "need_sheet" k ["sheet"] spNeedSheet) (x_need_sheet : OkX P w K mg base "need_sheet" k ["sheet"] (spxNeedSheet cl)) (o_need_text : OkAt P w K mg base "need_text" k ["sheet", "text"] spNeedText) (x_need_text : OkX P w K mg base "need_text" k ["sheet", "text"] (spxNeedText cl)) : OkX P w K mg base "either" (k + 1) ["sheet", "text"] (spxEither cl) := by
  refine F.okX sc_either (fun vs H Q E h => ?_) (fun f cdv A outer s H vs Q E hr h => ?_)
  · obtain ⟨v, x, y, rfl, _⟩ := h
    rfl
  obtain ⟨v, x, y, rfl, hy, q⟩ := h
  refine ⟨_, (pss_cons (ps_expr (pe_clX2 o_need_sheet x_need_sheet hr (takes_of rfl rfl rfl rfl) (by rfl) (pa_cons (pv 0) pa_nil))) (pss_cons (ps_expr (pe_clX2 o_need_text x_need_text hr (takes_of rfl rfl rfl rfl) (by rfl) (pa_cons (pv 0) (pa_cons (pv 1) pa_nil)))) pss_never)), ?_⟩
  walk_at "r"
  cases y with
  | sheet => exact .inr (usex_need_sheet hy q)
  | sign p =>
    obtain ⟨sh, hv, hx⟩ := hy
    refine .inl (use_need_sheet hv.1 hv.2 fun H1 s1 => ?_)
    walk_at "r"
    exact .inr (usex_need_text (hv.seqs (.of_same s1)) hx (q.same s1))
  | set =>
    obtain ⟨_, n, e, h0, _⟩ := hy
    cases e
    exact absurd rfl h0
  | tape p => exact hy.elim
  | count => exact hy.elim
def spxWritten (cl : Cl) : Sp := fun vs H Q E => ∃ (v : V),  vs = [v] ∧ (BadSh H v) ∧ (Tells cl H E .sheet)
theorem usex_written {cl : Cl} {H : Hp} {Q : VK} {E : XK} {v : V} (hv : BadSh H v) (q : Tells cl H E .sheet) : spxWritten cl [v] H Q E := ⟨v, rfl, hv, q⟩

theorem okx_written {k : Nat} (T : TX mg) (F : Df K mg "written" s_written ["sheet"]) (XT : EX K mg cl) (o_need_sheet : OkAt P w K mg base "need_sheet" k ["sheet"] spNeedSheet) (x_need_sheet : OkX P w K mg base "need_sheet" k ["sheet"] (spxNeedSheet cl)) : OkX P w K mg base "written" (k + 1) ["sheet"] (spxWritten cl) := by
  refine F.okX sc_written (fun vs H Q E h => ?_) (fun f cdv A outer s H vs Q E hr h => ?_)
  · obtain ⟨v, rfl, _⟩ := h
    rfl
  obtain ⟨v, rfl, hv, q⟩ := h
  refine ⟨_, (pss_cons (ps_expr (pe_clX2 o_need_sheet x_need_sheet hr (takes_of rfl rfl rfl rfl) (by rfl) (pa_cons (pv 0) pa_nil))) pss_never), ?_⟩
  walk_at "r"
  exact .inr (usex_need_sheet hv q)

def spLawClass (K : PySem.W.Frag) (cl : Cl) : Addr → Value → Option Addr → Sp := fun a cls d vs H Q E => ∃ (D : Addr) (w : Str) (fs : List (Str × V)), vs = [.ref a] ∧ (cls = .ref D) ∧ (L2.ExcC K D) ∧ (∀ dd, d = some dd → H dd = some (.xd fs)) ∧ ((D = cl.BadSheet ∧ w = "BadSheet") ∨ (D = cl.BadSet ∧ w = "BadSet") ∨ (D = cl.BadTape ∧ w = "BadTape") ∨ (D = cl.NoSign ∧ w = "NoSign") ∨ (D = cl.BadCount ∧ w = "BadCount")) ∧ (∀ H', Same H H' → Q (.str w) H')
theorem use_law_class {K : PySem.W.Frag} {cl : Cl} {a : Addr} {cls : Value} {d : Option Addr} {H : Hp} {Q : VK} {E : XK} {D : Addr} {w : Str} {fs : List (Str × V)} (hcls : cls = .ref D) (hE : L2.ExcC K D) (hd : ∀ dd, d = some dd → H dd = some (.xd fs)) (hk : (D = cl.BadSheet ∧ w = "BadSheet") ∨ (D = cl.BadSet ∧ w = "BadSet") ∨ (D = cl.BadTape ∧ w = "BadTape") ∨ (D = cl.NoSign ∧ w = "NoSign") ∨ (D = cl.BadCount ∧ w = "BadCount")) (q : ∀ H', Same H H' → Q (.str w) H') : spLawClass K cl a cls d [.ref a] H Q E := ⟨D, w, fs, rfl, hcls, hE, hd, hk, q⟩

theorem ok__law_class {k : Nat} (T : TX mg) (F : Df K mg "_law_class" s__law_class ["_law_e"]) (XT : EX K mg cl) : OkP P w K mg base "_law_class" (k + 1) ["_law_e"] (spLawClass K cl) := by
  refine F.okP sc__law_class (fun a cls d vs H Q E h => ?_) (fun f cdv A outer s H vs Q E p cls d hz hf hr h => ?_)
  · obtain ⟨D, w, fs, rfl, _⟩ := h
    rfl
  obtain ⟨D, w, fs, rfl, hcls, hE, hd, hk, q⟩ := h
  subst hcls
  refine ⟨_, (pss_cons (ps_set (i := 1) sc__law_class.nd rfl (by first | exact Or.inl rfl | exact Or.inr rfl) (pe_lstN (pa_cons (pe_callB (cr_isP K hE List.mem_cons_self hz hf) (by rfl) T.b_isinstance (by decide +kernel) (pa_cons (pv 0) (pa_cons (pe_glob (v := .ref cl.BadSheet) (by rfl) XT.g_BadSheet rfl) pa_nil))) (pa_cons (pe_callB (cr_isP K hE List.mem_cons_self hz hf) (by rfl) T.b_isinstance (by decide +kernel) (pa_cons (pv 0) (pa_cons (pe_glob (v := .ref cl.BadSet) (by rfl) XT.g_BadSet rfl) pa_nil))) (pa_cons (pe_callB (cr_isP K hE List.mem_cons_self hz hf) (by rfl) T.b_isinstance (by decide +kernel) (pa_cons (pv 0) (pa_cons (pe_glob (v := .ref cl.BadTape) (by rfl) XT.g_BadTape rfl) pa_nil))) (pa_cons (pe_callB (cr_isP K hE List.mem_cons_self hz hf) (by rfl) T.b_isinstance (by decide +kernel) (pa_cons (pv 0) (pa_cons (pe_glob (v := .ref cl.NoSign) (by rfl) XT.g_NoSign rfl) pa_nil))) pa_nil)))))) (pss_cons (ps_set (i := 1) sc__law_class.nd rfl (by first | exact Or.inl rfl | exact Or.inr rfl) (pe_op (op_uAdd K) (pv 1) (pe_lstN (pa_cons (pe_callB (cr_isP K hE List.mem_cons_self hz hf) (by rfl) T.b_isinstance (by decide +kernel) (pa_cons (pv 0) (pa_cons (pe_glob (v := .ref cl.BadCount) (by rfl) XT.g_BadCount rfl) pa_nil))) (pa_cons (pe_callB (cr_isP K hE List.mem_cons_self hz hf) (by rfl) T.b_isinstance (by decide +kernel) (pa_cons (pv 0) (pa_cons (pe_glob (v := .ref cl.BadText) (by rfl) XT.g_BadText rfl) pa_nil))) pa_nil))))) (pss_cons (ps_set (i := 2) sc__law_class.nd rfl (by first | exact Or.inl rfl | exact Or.inr rfl) (pe_lstN (pa_cons pe_str (pa_cons pe_str (pa_cons pe_str (pa_cons pe_str (pa_cons pe_str (pa_cons pe_str pa_nil)))))))) (pss_one (ps_ret (pe_ifExp (PW.pt (pw_and (pt_cmpR (op_uEq K (units_of hr)) (pe_bmK K PySem.F.plainAttrs_list PySem.F.slot_list_count PySem.F.type_list_count (mt_countB K) (pv 1) (pa_cons pe_bl pa_nil)) pe_int (nomark _)) (pw_and1 (pt_val (pe_callB (cr_isP K hE List.mem_cons_self hz hf) (by rfl) T.b_isinstance (by decide +kernel) (pa_cons (pv 0) (pa_cons (pe_bltn (v := .ty "ValueError") (by rfl) T.b_ValueError (by decide +kernel) rfl) pa_nil))))))) (pe_ix (ix_u K) (pv 2) (pe_bmK K PySem.F.plainAttrs_list PySem.F.slot_list_index PySem.F.type_list_index (mt_indexB K) (pv 1) (pa_cons pe_bl pa_nil)) (fun _ _ => rfl)) pe_str)))))), ?_⟩
  have hdS : ∀ {G : Hp}, Same H G → ∀ dd, d = some dd → G dd = some (.xd fs) := fun s dd e => s _ _ (hd dd e)
  rcases hk with ⟨rfl, rfl⟩ | ⟨rfl, rfl⟩ | ⟨rfl, rfl⟩ | ⟨rfl, rfl⟩ | ⟨rfl, rfl⟩
  · walk_at "r"
    refine r_isPC XT.is_BadSheet_BadSheet hd ?_
    walk_at "r"
    refine r_isPC XT.is_BadSheet_BadSet hd ?_
    walk_at "r"
    refine r_isPC XT.is_BadSheet_BadTape hd ?_
    walk_at "r"
    refine r_isPC XT.is_BadSheet_NoSign hd ?_
    walk_at "r"
    intro p1 H1 n1 s1 e1
    walk_at "r"
    refine r_isPC XT.is_BadSheet_BadCount (hdS s1) ?_
    walk_at "r"
    refine r_isPC XT.is_BadSheet_BadText (hdS s1) ?_
    walk_at "r"
    intro p2 H2 n2 s2 e2
    walk_at "r"
    refine r_addL (s2 _ _ e1) e2 (le_size (by show 6 ≤ 100000; decide)) fun p3 H3 n3 s3 e3 => ?_
    have e3 : H3 p3 = some (.lst ([true, false, false, false, false, false].map V.bl)) := e3
    walk_at "r"
    intro p4 H4 n4 s4 e4
    have e34 := s4 _ _ e3
    have s14 := ((s1.trans s2).trans s3).trans s4
    walk_at "r"
    refine r_countB e34 ?_
    walk_at "r"
    refine w_yes (by decide) ?_
    walk_at "r"
    refine r_isPT XT.iv_BadSheet (hdS s14) ?_
    walk_at "r"
    refine r_indexB (j := 0) e34 rfl (fun m h => absurd h (Nat.not_lt_zero _)) ?_
    refine r_ixL e4 (atI_nat rfl) ?_
    exact q H4 s14
  · walk_at "r"
    refine r_isPC XT.is_BadSet_BadSheet hd ?_
    walk_at "r"
    refine r_isPC XT.is_BadSet_BadSet hd ?_
    walk_at "r"
    refine r_isPC XT.is_BadSet_BadTape hd ?_
    walk_at "r"
    refine r_isPC XT.is_BadSet_NoSign hd ?_
    walk_at "r"
    intro p1 H1 n1 s1 e1
    walk_at "r"
    refine r_isPC XT.is_BadSet_BadCount (hdS s1) ?_
    walk_at "r"
    refine r_isPC XT.is_BadSet_BadText (hdS s1) ?_
    walk_at "r"
    intro p2 H2 n2 s2 e2
    walk_at "r"
    refine r_addL (s2 _ _ e1) e2 (le_size (by show 6 ≤ 100000; decide)) fun p3 H3 n3 s3 e3 => ?_
    have e3 : H3 p3 = some (.lst ([false, true, false, false, false, false].map V.bl)) := e3
    walk_at "r"
    intro p4 H4 n4 s4 e4
    have e34 := s4 _ _ e3
    have s14 := ((s1.trans s2).trans s3).trans s4
    walk_at "r"
    refine r_countB e34 ?_
    walk_at "r"
    refine w_yes (by decide) ?_
    walk_at "r"
    refine r_isPT XT.iv_BadSet (hdS s14) ?_
    walk_at "r"
    refine r_indexB (j := 1) e34 rfl (fun m h => by
      match m, h with
      | 0, _ => rfl) ?_
    refine r_ixL e4 (atI_nat rfl) ?_
    exact q H4 s14
  · walk_at "r"
    refine r_isPC XT.is_BadTape_BadSheet hd ?_
    walk_at "r"
    refine r_isPC XT.is_BadTape_BadSet hd ?_
    walk_at "r"
    refine r_isPC XT.is_BadTape_BadTape hd ?_
    walk_at "r"
    refine r_isPC XT.is_BadTape_NoSign hd ?_
    walk_at "r"
    intro p1 H1 n1 s1 e1
    walk_at "r"
    refine r_isPC XT.is_BadTape_BadCount (hdS s1) ?_
    walk_at "r"
    refine r_isPC XT.is_BadTape_BadText (hdS s1) ?_
    walk_at "r"
    intro p2 H2 n2 s2 e2
    walk_at "r"
    refine r_addL (s2 _ _ e1) e2 (le_size (by show 6 ≤ 100000; decide)) fun p3 H3 n3 s3 e3 => ?_
    have e3 : H3 p3 = some (.lst ([false, false, true, false, false, false].map V.bl)) := e3
    walk_at "r"
    intro p4 H4 n4 s4 e4
    have e34 := s4 _ _ e3
    have s14 := ((s1.trans s2).trans s3).trans s4
    walk_at "r"
    refine r_countB e34 ?_
    walk_at "r"
    refine w_yes (by decide) ?_
    walk_at "r"
    refine r_isPT XT.iv_BadTape (hdS s14) ?_
    walk_at "r"
    refine r_indexB (j := 2) e34 rfl (fun m h => by
      match m, h with
      | 0, _ => rfl
      | 1, _ => rfl) ?_
    refine r_ixL e4 (atI_nat rfl) ?_
    exact q H4 s14
  · walk_at "r"
    refine r_isPC XT.is_NoSign_BadSheet hd ?_
    walk_at "r"
    refine r_isPC XT.is_NoSign_BadSet hd ?_
    walk_at "r"
    refine r_isPC XT.is_NoSign_BadTape hd ?_
    walk_at "r"
    refine r_isPC XT.is_NoSign_NoSign hd ?_
    walk_at "r"
    intro p1 H1 n1 s1 e1
    walk_at "r"
    refine r_isPC XT.is_NoSign_BadCount (hdS s1) ?_
    walk_at "r"
    refine r_isPC XT.is_NoSign_BadText (hdS s1) ?_
    walk_at "r"
    intro p2 H2 n2 s2 e2
    walk_at "r"
    refine r_addL (s2 _ _ e1) e2 (le_size (by show 6 ≤ 100000; decide)) fun p3 H3 n3 s3 e3 => ?_
    have e3 : H3 p3 = some (.lst ([false, false, false, true, false, false].map V.bl)) := e3
    walk_at "r"
    intro p4 H4 n4 s4 e4
    have e34 := s4 _ _ e3
    have s14 := ((s1.trans s2).trans s3).trans s4
    walk_at "r"
    refine r_countB e34 ?_
    walk_at "r"
    refine w_yes (by decide) ?_
    walk_at "r"
    refine r_isPT XT.iv_NoSign (hdS s14) ?_
    walk_at "r"
    refine r_indexB (j := 3) e34 rfl (fun m h => by
      match m, h with
      | 0, _ => rfl
      | 1, _ => rfl
      | 2, _ => rfl) ?_
    refine r_ixL e4 (atI_nat rfl) ?_
    exact q H4 s14
  · walk_at "r"
    refine r_isPC XT.is_BadCount_BadSheet hd ?_
    walk_at "r"
    refine r_isPC XT.is_BadCount_BadSet hd ?_
    walk_at "r"
    refine r_isPC XT.is_BadCount_BadTape hd ?_
    walk_at "r"
    refine r_isPC XT.is_BadCount_NoSign hd ?_
    walk_at "r"
    intro p1 H1 n1 s1 e1
    walk_at "r"
    refine r_isPC XT.is_BadCount_BadCount (hdS s1) ?_
    walk_at "r"
    refine r_isPC XT.is_BadCount_BadText (hdS s1) ?_
    walk_at "r"
    intro p2 H2 n2 s2 e2
    walk_at "r"
    refine r_addL (s2 _ _ e1) e2 (le_size (by show 6 ≤ 100000; decide)) fun p3 H3 n3 s3 e3 => ?_
    have e3 : H3 p3 = some (.lst ([false, false, false, false, true, false].map V.bl)) := e3
    walk_at "r"
    intro p4 H4 n4 s4 e4
    have e34 := s4 _ _ e3
    have s14 := ((s1.trans s2).trans s3).trans s4
    walk_at "r"
    refine r_countB e34 ?_
    walk_at "r"
    refine w_yes (by decide) ?_
    walk_at "r"
    refine r_isPT XT.iv_BadCount (hdS s14) ?_
    walk_at "r"
    refine r_indexB (j := 4) e34 rfl (fun m h => by
      match m, h with
      | 0, _ => rfl
      | 1, _ => rfl
      | 2, _ => rfl
      | 3, _ => rfl) ?_
    refine r_ixL e4 (atI_nat rfl) ?_
    exact q H4 s14
/-! ### a refusal, as the asker tells it -/
def whyD : Option Why → PyData
  | none => .none
  | some .sheet => .tuple [.str "BadSheet", .int 0]
  | some .set => .tuple [.str "BadSet", .int 0]
  | some .count => .tuple [.str "BadCount", .int 0]
  | some (.tape p) => .tuple [.str "BadTape", .int (p : Nat)]
  | some (.sign p) => .tuple [.str "NoSign", .int (p : Nat)]
/-- a lambda that answers so -/
abbrev DoesL (P : Program) (w : World) (K : PySem.W.Frag) (mg : Str → Option Value) (base : Heap) (cl : Cl) (o : Option Why) (H : Hp) (f : Addr) : Prop := Does P w K mg base (LJ + 1) (Want cl o) H f
def spRefused (P : Program) (w : World) (K : PySem.W.Frag) (mg : Str → Option Value) (base : Heap) (cl : Cl) : Sp := fun vs H Q _ => ∃ (f : Addr) (o : Option Why), vs = [.ref f] ∧ DoesL P w K mg base cl o H f ∧ ∀ u H', Same H H' → Da H' u (whyD o) → Q u H'
theorem use_law_refused {cl : Cl} {H : Hp} {Q : VK} {E : XK} {f : Addr} {o : Option Why} (h : DoesL P w K mg base cl o H f) (q : ∀ u H', Same H H' → Da H' u (whyD o) → Q u H') : spRefused P w K mg base cl [.ref f] H Q E := ⟨f, o, rfl, h, q⟩
theorem ok__law_refused {k : Nat} (hk : LJ + 1 ≤ k) (T : TX mg) (XT : EX K mg cl) (F : Df K mg "_law_refused" s__law_refused ["_law_work"]) (o__law_class : OkP P w K mg base "_law_class" k ["_law_e"] (spLawClass K cl)) :
    OkAt P w K mg base "_law_refused" (k + 1) ["_law_work"] (spRefused P w K mg base cl) := by
  refine F.ok sc__law_refused (fun vs H Q E h => ?_) (fun f cdv A outer s H vs Q E hr h => ?_)
  · obtain ⟨f, o, rfl, _⟩ := h
    rfl
  obtain ⟨f, o, rfl, hd, q⟩ := h
  refine ⟨_, (pss_cons (ps_try_as (i := 1) (Wout := fun _ _ _ _ => False) rfl rfl sc__law_refused.nd rfl rfl ⟨(by rfl), by decide, .inl XT.g_TapeError⟩ takes0 (fun W pn xe tk _ => (pss_one (ps_expr (pe_actVK P w K mg base (i := 0) (k := LJ + 1) tk (hr.mono (by omega)) rfl (by first | exact Or.inl rfl | exact Or.inr (Or.inl rfl) | exact Or.inr (Or.inr rfl)))))) (fun a oe cls d pn hz hf => (pss_cons (ps_set (i := 2) sc__law_refused.nd rfl (by first | exact Or.inl rfl | exact Or.inr rfl) (pe_clP o__law_class ⟨hr.dp, hr.un⟩ hz hf (by rfl) (pa_cons (pv 1) pa_nil))) (pss_one (ps_ret (pe_ifExp (pt_cmpR (op_uIn K) (pv 2) (pe_tupN (pa_cons pe_str (pa_cons pe_str pa_nil))) (by rfl)) (pe_tupN (pa_cons (pv 2) (pa_cons (pe_xfA K hz hf (pv 1)) pa_nil))) (pe_tupN (pa_cons (pv 2) (pa_cons pe_int pa_nil))))))))) (pss_one (ps_ret pe_non))), ?_⟩
  walk_at "r"
  refine r_actV rfl hd ?_
  cases o with
  | none =>
    intro v H' s'
    walk_at "r"
    exact q _ H' s' .non
  | some y =>
    cases y with
    | sheet =>
      intro H1 s1
      refine ⟨true, XT.h_BadSheet_TapeError, fun _ a na => ?_, fun z => nomatch z⟩
      show tSeq _ _ _ _ _
      walk_at "r"
      refine use_law_class (fs := []) rfl XT.e_BadSheet (fun dd e => nomatch e) (.inl ⟨rfl, rfl⟩) fun H2 s2 => ?_
      walk_at "r"
      intro p3 H3 n3 s3 e3
      walk_at "r"
      refine r_inU e3 rfl rfl ?_
      walk_at "r"
      refine w_f (by decide +kernel) ?_
      walk_at "r"
      intro p4 H4 n4 s4 e4
      exact q _ H4 (((s1.trans s2).trans s3).trans s4) (.tup e4 (.cons (.str _) (.cons (.int _) .nil)))
    | set =>
      intro H1 s1
      refine ⟨true, XT.h_BadSet_TapeError, fun _ a na => ?_, fun z => nomatch z⟩
      show tSeq _ _ _ _ _
      walk_at "r"
      refine use_law_class (fs := []) rfl XT.e_BadSet (fun dd e => nomatch e) (.inr (.inl ⟨rfl, rfl⟩)) fun H2 s2 => ?_
      walk_at "r"
      intro p3 H3 n3 s3 e3
      walk_at "r"
      refine r_inU e3 rfl rfl ?_
      walk_at "r"
      refine w_f (by decide +kernel) ?_
      walk_at "r"
      intro p4 H4 n4 s4 e4
      exact q _ H4 (((s1.trans s2).trans s3).trans s4) (.tup e4 (.cons (.str _) (.cons (.int _) .nil)))
    | count =>
      intro H1 s1
      refine ⟨true, XT.h_BadCount_TapeError, fun _ a na => ?_, fun z => nomatch z⟩
      show tSeq _ _ _ _ _
      walk_at "r"
      refine use_law_class (fs := []) rfl XT.e_BadCount (fun dd e => nomatch e) (.inr (.inr (.inr (.inr ⟨rfl, rfl⟩)))) fun H2 s2 => ?_
      walk_at "r"
      intro p3 H3 n3 s3 e3
      walk_at "r"
      refine r_inU e3 rfl rfl ?_
      walk_at "r"
      refine w_f (by decide +kernel) ?_
      walk_at "r"
      intro p4 H4 n4 s4 e4
      exact q _ H4 (((s1.trans s2).trans s3).trans s4) (.tup e4 (.cons (.str _) (.cons (.int _) .nil)))
    | tape p =>
      intro d H1 n1 s1 e1
      refine ⟨true, XT.h_BadTape_TapeError, fun _ a na => ?_, fun z => nomatch z⟩
      show tSeq _ _ _ _ _
      walk_at "r"
      refine use_law_class (fs := [("place", .int (p : Nat))]) rfl XT.e_BadTape (fun dd e => by cases e; exact e1) (.inr (.inr (.inl ⟨rfl, rfl⟩))) fun H2 s2 => ?_
      walk_at "r"
      intro p3 H3 n3 s3 e3
      walk_at "r"
      refine r_inU e3 rfl rfl ?_
      walk_at "r"
      refine w_t (by decide +kernel) ?_
      walk_at "r"
      refine r_xfA ?_
      walk_at "r"
      refine ⟨rfl, cl.BadTape, rfl, XT.xf_BadTape, XT.n_BadTape, d, [("place", .int (p : Nat))], .int (p : Nat), rfl, s3 _ _ (s2 _ _ e1), by simp [List.lookup], ?_⟩
      walk_at "r"
      intro p4 H4 n4 s4 e4
      exact q _ H4 (((s1.trans s2).trans s3).trans s4) (.tup e4 (.cons (.str _) (.cons (.int _) .nil)))
    | sign p =>
      intro d H1 n1 s1 e1
      refine ⟨true, XT.h_NoSign_TapeError, fun _ a na => ?_, fun z => nomatch z⟩
      show tSeq _ _ _ _ _
      walk_at "r"
      refine use_law_class (fs := [("place", .int (p : Nat))]) rfl XT.e_NoSign (fun dd e => by cases e; exact e1) (.inr (.inr (.inr (.inl ⟨rfl, rfl⟩)))) fun H2 s2 => ?_
      walk_at "r"
      intro p3 H3 n3 s3 e3
      walk_at "r"
      refine r_inU e3 rfl rfl ?_
      walk_at "r"
      refine w_t (by decide +kernel) ?_
      walk_at "r"
      refine r_xfA ?_
      walk_at "r"
      refine ⟨rfl, cl.NoSign, rfl, XT.xf_NoSign, XT.n_NoSign, d, [("place", .int (p : Nat))], .int (p : Nat), rfl, s3 _ _ (s2 _ _ e1), by simp [List.lookup], ?_⟩
      walk_at "r"
      intro p4 H4 n4 s4 e4
      exact q _ H4 (((s1.trans s2).trans s3).trans s4) (.tup e4 (.cons (.str _) (.cons (.int _) .nil)))

/-! ### all that is asked is refused so -/
def spAll (P : Program) (w : World) (K : PySem.W.Frag) (mg : Str → Option Value) (base : Heap) (cl : Cl) : Sp := fun vs H Q _ => ∃ (a : Addr) (fs : List Addr) (d : V) (o : Option Why), vs = [.ref a, d] ∧ H a = some (.lst (fs.map V.ref)) ∧ fs.length ≤ 100 ∧ (∀ f ∈ fs, DoesL P w K mg base cl o H f) ∧ Da H d (whyD o) ∧ ∀ H', Same H H' → Q (.bl true) H'
theorem use_law_all {cl : Cl} {H : Hp} {Q : VK} {E : XK} {a : Addr} {fs : List Addr} {d : V} {o : Option Why} (ha : H a = some (.lst (fs.map V.ref))) (hl : fs.length ≤ 100) (h : ∀ f ∈ fs, DoesL P w K mg base cl o H f) (hd : Da H d (whyD o)) (q : ∀ H', Same H H' → Q (.bl true) H') : spAll P w K mg base cl [.ref a, d] H Q E := ⟨a, fs, d, o, rfl, ha, hl, h, hd, q⟩
theorem why_less (o : Option Why) : dLess 5 (whyD o) := by
  have two : ∀ (w : Str) (n : Int), dLess 5 (.tuple [.str w, .int n]) := fun w n => ⟨by show 2 ≤ 100000; decide, fun d hd => by
    rcases List.mem_cons.mp hd with rfl | hd
    · exact True.intro
    · rw [List.mem_singleton.mp hd]
      exact True.intro⟩
  cases o with
  | none => exact True.intro
  | some y => cases y <;> exact two _ _
theorem ok__law_all {k : Nat} (T : TX mg) (F : Df K mg "_law_all" s__law_all ["_law_works", "_law_due"]) (o__law_alike : OkAt P w K mg base "_law_alike" k ["_law_found", "_law_due"] (spAlike 5)) (o__law_refused : OkAt P w K mg base "_law_refused" k ["_law_work"] (spRefused P w K mg base cl)) :
    OkAt P w K mg base "_law_all" (k + 1) ["_law_works", "_law_due"] (spAll P w K mg base cl) := by
  refine F.ok sc__law_all (fun vs H Q E h => ?_) (fun f cdv A outer s H vs Q E hr h => ?_)
  · obtain ⟨a, fs, d, o, rfl, _⟩ := h
    rfl
  obtain ⟨a, fs, d, o, rfl, ha, hl, hD, hd, q⟩ := h
  refine ⟨_, (pss_one (ps_ret (pe_cmpR (op_uEq K hr.units) (pe_lc (own := [("_law_work", 2)]) (g := gName 2) rfl sc__law_all.nd (pi_listK K (pv 0)) (blkOk_by (own := [("_law_work", 2)]) (N := ["_law_works", "_law_due", "_law_work"]) (sc := defScope s__law_all) (by decide +kernel)) (fun _ _ _ _ _ => (pg_name (i := 2) sc__law_all.nd rfl (by first | exact Or.inl rfl | exact Or.inr rfl))) (fun _ _ _ _ _ => (pts_one (pt_not (pt_val (pe_cl o__law_alike hr (by rfl) (pa_cons (pe_cl o__law_refused hr (by rfl) (pa_cons (pv 2) pa_nil)) (pa_cons (pv 1) pa_nil))))))) (fun _ _ _ _ _ => (pv 2))) (pe_lstN pa_nil) (nomark _)))), ?_⟩
  walk_at "r"
  refine c_list (fun _ => []) ha (by rw [List.length_map]; omega) rfl (fun _ => Nat.zero_le _) (fun i x H' hx s Ky Kn hy hn => ?_) (fun p H1 n1 s1 e1 => ?_)
  · obtain ⟨f, hf, rfl⟩ : ∃ f, f ∈ fs ∧ x = .ref f := by
      rw [List.getElem?_map] at hx
      cases e : fs[i]? with
      | none => rw [e] at hx; cases hx
      | some f => rw [e] at hx; exact ⟨f, List.mem_of_getElem? e, (Option.some.inj hx).symm⟩
    walk_at "r"
    refine ⟨rfl, ?_⟩
    walk_at "r"
    refine use_law_refused ((hD f hf).ext (ext_same s)) fun u H2 s2 hu => ?_
    walk_at "r"
    refine use_alike hu (same_da (s.trans s2) _ _ hd) (why_less o) ?_
    walk_at "r"
    exact hn _ s2 rfl
  · walk_at "r"
    intro p2 H2 n2 s2 e2
    walk_at "r"
    refine r_eqLI0 (xs := []) (s2 _ _ e1) e2 ?_
    exact q H2 (s1.trans s2)
/-! ### the lambdas -/
/-- a tape, a set and a count: refused why, or not at all -/
def TapesO (H : Hp) (v u b m : V) : Option Why → Prop
  | none => (∃ sh, GoodSh H v sh ∧ GoodT H u sh) ∧ GoodN b ∧ m = .int 0
  | some y => BadAll H v u b y
theorem TapesO.seqs {H H' : Hp} {v u b m : V} {o : Option Why} (h : TapesO H v u b m o) (s : Seqs H H') : TapesO H' v u b m o := by
  cases o with
  | none =>
    obtain ⟨⟨sh, h1, h2⟩, h3⟩ := h
    exact ⟨⟨sh, h1.seqs s, h2.seqs s⟩, h3⟩
  | some y => exact BadAll.seqs h s
theorem good_nil {H : Hp} {p : Addr} {sh : Sh} (e : H p = some (.lst [])) : GoodT H (.ref p) sh := ⟨[], ⟨p, rfl, e⟩, (fun c hc => nomatch hc), by decide⟩
theorem good_zero {H : Hp} {p : Addr} {sh : Sh} (e : H p = some (.lst [.int 0])) : GoodT H (.ref p) sh := ⟨[0], ⟨p, rfl, e⟩, (fun c hc => by rw [List.mem_singleton.mp hc]; omega), by decide⟩
section
variable {H H1 : Hp} {v u b m : V} {o : Option Why} {Q : VK} {E : XK} (h : TapesO H v u b m o) (hw : Want cl o H Q E)
include h hw
theorem t_read : spRead [v, u, b] H Q E0 ∨ spxRead cl [v, u, b] H Q E := by
  cases o with
  | none =>
    obtain ⟨⟨sh, hv, t, ht, hc, hl⟩, ⟨c, rfl⟩, rfl⟩ := h
    exact .inl (use_read hv.1 hv.2 ht hc hl fun H' s' => hw _ H' s')
  | some y => exact .inr (usex_read h hw)
theorem t_last_set : spLastSet [v, u, b] H Q E0 ∨ spxLastSet cl [v, u, b] H Q E := by
  cases o with
  | none =>
    obtain ⟨⟨sh, hv, t, ht, hc, hl⟩, ⟨c, rfl⟩, rfl⟩ := h
    exact .inl (use_last_set hv.1 hv.2 ht hc hl fun H' s' => hw _ H' s')
  | some y => exact .inr (usex_last_set h hw)
theorem t_spoilt : spSpoilt [v, u, b] H Q E0 ∨ spxSpoilt cl [v, u, b] H Q E := by
  cases o with
  | none =>
    obtain ⟨⟨sh, hv, t, ht, hc, hl⟩, ⟨c, rfl⟩, rfl⟩ := h
    exact .inl (use_spoilt hv.1 hv.2 ht hc hl fun p xs H' _ s' _ _ => hw _ H' s')
  | some y => exact .inr (usex_spoilt h hw)
theorem t_lost_at : spLostAt [v, u, b, .str "any"] H Q E0 ∨ spxLostAt cl [v, u, b, .str "any"] H Q E := by
  cases o with
  | none =>
    obtain ⟨⟨sh, hv, t, ht, hc, hl⟩, ⟨c, rfl⟩, rfl⟩ := h
    rw [show (Str.ofString "any") = mkS [97, 110, 121] by decide +kernel]
    exact .inl (use_lost_at hv.1 hv.2 ht hc hl fun p H' _ s' _ => hw _ H' s')
  | some y => exact .inr (usex_lost_at h hw)
theorem t_is_guarded : spIsGuarded [v, u, b, m] H Q E0 ∨ spxIsGuarded cl [v, u, b, m] H Q E := by
  cases o with
  | none =>
    obtain ⟨⟨sh, hv, t, ht, hc, hl⟩, ⟨c, rfl⟩, rfl⟩ := h
    exact .inl (use_is_guarded (m := 0) hv.1 hv.2 ht hc hl (by decide) fun H' s' => hw _ H' s')
  | some y => exact .inr (usex_is_guarded (.inl h) hw)
theorem t_cut : spCut [v, u, b, m] H Q E0 ∨ spxCut cl [v, u, b, m] H Q E := by
  cases o with
  | none =>
    obtain ⟨⟨sh, hv, t, ht, hc, hl⟩, ⟨c, rfl⟩, rfl⟩ := h
    exact .inl (use_cut (i := 0) hv.1 hv.2 ht hc hl (Nat.zero_le _) fun p p1 p2 H' _ _ _ s' _ _ _ => hw _ H' s')
  | some y => exact .inr (usex_cut (.inl h) hw)
theorem t_joined (s : Same H H1) {p : Addr} {us : List V} {i : Nat} (e : H1 p = some (.lst us)) (hi : us[i]? = some u) (hl : us.length ≤ 3) (hg : ∀ sh, ∀ j x, us[j]? = some x → j ≠ i → GoodT H1 x sh) : spJoined [v, .ref p, b] H1 Q E0 ∨ spxJoined cl [v, .ref p, b] H1 Q E := by
  cases o with
  | none =>
    obtain ⟨⟨sh, hv, hu⟩, ⟨c, rfl⟩, rfl⟩ := h
    have hu := hu.seqs (.of_same s)
    have all : ∀ j x, us[j]? = some x → GoodT H1 x sh := fun j x hx => by
      by_cases ej : j = i
      · rw [ej, hi] at hx
        cases hx
        exact hu
      · exact hg sh j x hx ej
    obtain ⟨ts, hT, hc⟩ : ∃ ts, AllT H1 us ts ∧ ∀ t ∈ ts, sh.Codes t ∧ t.length ≤ 100 := by
      have key : ∀ l : List V, (∀ x ∈ l, GoodT H1 x sh) → ∃ ts, AllT H1 l ts ∧ ∀ t ∈ ts, sh.Codes t ∧ t.length ≤ 100 := by
        intro l
        induction l with
        | nil => exact fun _ => ⟨[], ⟨rfl, fun i x t h1 _ => by simp at h1⟩, fun t ht => nomatch ht⟩
        | cons x l ih =>
          intro h
          obtain ⟨ts, h1, h2⟩ := ih fun y hy => h y (List.mem_cons_of_mem _ hy)
          obtain ⟨t, ht, hc⟩ := h x List.mem_cons_self
          refine ⟨t :: ts, allT_cons ht h1, fun z hz => ?_⟩
          rcases List.mem_cons.mp hz with rfl | hz
          · exact hc
          · exact h2 z hz
      refine key us fun x hx => ?_
      obtain ⟨j, hj⟩ := List.getElem?_of_mem hx
      exact all j x hj
    exact .inl (use_joined (same_sh s hv.1) hv.2 e hT hc (by rw [← hT.1]; omega) fun p H' _ s' _ => hw _ H' (s.trans s'))
  | some y =>
    refine .inr (usex_joined (y := y) ?_ (Tells.same hw s))
    cases y with
    | sheet => exact BadSh.seqs h (.of_same s)
    | tape q =>
      obtain ⟨sh, hv, hu⟩ := h
      exact ⟨sh, p, us, i, u, hv.seqs (.of_same s), rfl, e, hi, hu.seqs (.of_same s), fun j hj x hx => hg sh j x hx (by omega)⟩
    | set =>
      obtain ⟨⟨sh, hv, hu⟩, hb⟩ := h
      refine ⟨⟨sh, p, us, hv.seqs (.of_same s), rfl, e, fun x hx => ?_⟩, hb⟩
      obtain ⟨j, hj⟩ := List.getElem?_of_mem hx
      by_cases ej : j = i
      · rw [ej, hi] at hj
        cases hj
        exact hu.seqs (.of_same s)
      · exact hg sh j x hj ej
    | sign _ => exact h
    | count => exact h
end
def spOfTapes (P : Program) (w : World) (K : PySem.W.Frag) (mg : Str → Option Value) (base : Heap) (cl : Cl) (TTs : List (Addr × Str)) : Sp := fun vs H Q _ => ∃ (v u b m : V) (o : Option Why), vs = [v, u, b, m] ∧ TapesO H v u b m o ∧ LamX.Tabs TTs H ∧
  ∀ (p : Addr) (fs : List Addr) (H' : Hp), LamX.ExtN H H' → LamX.Tabs TTs H' → H' p = some (.lst (fs.map V.ref)) → fs.length = 8 → (∀ f ∈ fs, DoesL P w K mg base cl o H' f) → Q (.ref p) H'
theorem use_law_of_tapes {cl : Cl} {H : Hp} {Q : VK} {E : XK} {v u b m : V} {o : Option Why} (h : TapesO H v u b m o) (t : LamX.Tabs TTs H)
    (q : ∀ (p : Addr) (fs : List Addr) (H' : Hp), LamX.ExtN H H' → LamX.Tabs TTs H' → H' p = some (.lst (fs.map V.ref)) → fs.length = 8 → (∀ f ∈ fs, DoesL P w K mg base cl o H' f) → Q (.ref p) H') : spOfTapes P w K mg base cl TTs [v, u, b, m] H Q E := ⟨v, u, b, m, o, rfl, h, t, q⟩
theorem cu__law_of_tapes : CellU (defScope s__law_of_tapes) := cellU_of (by decide +kernel)
theorem ok__law_of_tapes {k : Nat} {PT : Addr} (T : TX mg) (F : DfT K mg base "_law_of_tapes" s__law_of_tapes ["_law_sheet_here", "_law_tape_here", "_law_begin", "_law_place"] PT) (hm : (PT, (Str.ofString "_law_of_tapes" ++ ".<locals>.") ++ "<lambda>") ∈ TTs) (hu : ∀ p ∈ TTs, p.1 = PT → p.2 = (Str.ofString "_law_of_tapes" ++ ".<locals>.") ++ "<lambda>")
    (o_read : OkAt P w K mg base "read" LJ ["sheet", "tape", "begin"] spRead) (x_read : OkX P w K mg base "read" LJ ["sheet", "tape", "begin"] (spxRead cl)) (o_last_set : OkAt P w K mg base "last_set" LJ ["sheet", "tape", "begin"] spLastSet) (x_last_set : OkX P w K mg base "last_set" LJ ["sheet", "tape", "begin"] (spxLastSet cl)) (o_spoilt : OkAt P w K mg base "spoilt" LJ ["sheet", "tape", "begin"] spSpoilt) (x_spoilt : OkX P w K mg base "spoilt" LJ ["sheet", "tape", "begin"] (spxSpoilt cl)) (o_lost_at : OkAt P w K mg base "lost_at" LJ ["sheet", "tape", "begin", "text"] spLostAt) (x_lost_at : OkX P w K mg base "lost_at" LJ ["sheet", "tape", "begin", "text"] (spxLostAt cl)) (o_is_guarded : OkAt P w K mg base "is_guarded" LJ ["sheet", "tape", "begin", "most"] spIsGuarded) (x_is_guarded : OkX P w K mg base "is_guarded" LJ ["sheet", "tape", "begin", "most"] (spxIsGuarded cl)) (o_cut : OkAt P w K mg base "cut" LJ ["sheet", "tape", "begin", "place"] spCut) (x_cut : OkX P w K mg base "cut" LJ ["sheet", "tape", "begin", "place"] (spxCut cl)) (o_joined : OkAt P w K mg base "joined" LJ ["sheet", "tapes", "begin"] spJoined) (x_joined : OkX P w K mg base "joined" LJ ["sheet", "tapes", "begin"] (spxJoined cl)) : OkAt P w K mg base "_law_of_tapes" (k + 1) ["_law_sheet_here", "_law_tape_here", "_law_begin", "_law_place"] (spOfTapes P w K mg base cl TTs) := by
  refine DfT_okC F sc__law_of_tapes cu__law_of_tapes (fun vs H Q E h => ?_) (fun f c A outer s H vs Q E TB hr h => ?_)
  · obtain ⟨v, u, b, m, o, rfl, _⟩ := h
    rfl
  obtain ⟨v, u, b, m, o, rfl, ho, hT, q⟩ := h
  refine ⟨_, (prs_cons (ps_set (i := 4) sc__law_of_tapes.nd rfl (by first | exact Or.inl rfl | exact Or.inr rfl) (pe_lstN (pa_cons (pe_lamV0 TB rfl hm hu (free_s (sc := defScope s__law_of_tapes) rfl (by decide +kernel)) (by rfl) (by rfl)) (pa_cons (pe_lamV1 TB rfl hm hu (free_s (sc := defScope s__law_of_tapes) rfl (by decide +kernel)) (by rfl) (by rfl)) pa_nil)))) (prs_cons (ps_set (i := 4) sc__law_of_tapes.nd rfl (by first | exact Or.inl rfl | exact Or.inr rfl) (pe_op (op_uAdd K) (pv 4) (pe_lstN (pa_cons (pe_lamV1 TB rfl hm hu (free_s (sc := defScope s__law_of_tapes) rfl (by decide +kernel)) (by rfl) (by rfl)) (pa_cons (pe_lamV1 TB rfl hm hu (free_s (sc := defScope s__law_of_tapes) rfl (by decide +kernel)) (by rfl) (by rfl)) pa_nil))))) (prs_cons (ps_set (i := 4) sc__law_of_tapes.nd rfl (by first | exact Or.inl rfl | exact Or.inr rfl) (pe_op (op_uAdd K) (pv 4) (pe_lstN (pa_cons (pe_lamV1 TB rfl hm hu (free_s (sc := defScope s__law_of_tapes) rfl (by decide +kernel)) (by rfl) (by rfl)) (pa_cons (pe_lamV1 TB rfl hm hu (free_s (sc := defScope s__law_of_tapes) rfl (by decide +kernel)) (by rfl) (by rfl)) pa_nil))))) (prs_ret (pe_op (op_uAdd K) (pv 4) (pe_lstN (pa_cons (pe_lamV1 TB rfl hm hu (free_s (sc := defScope s__law_of_tapes) rfl (by decide +kernel)) (by rfl) (by rfl)) (pa_cons (pe_lamV1 TB rfl hm hu (free_s (sc := defScope s__law_of_tapes) rfl (by decide +kernel)) (by rfl) (by rfl)) pa_nil)))))))), ?_⟩
  walk_at "r"
  refine r_lamV hT fun f0 G0 n0 x0 t0 L0 => ?_
  walk_at "r"
  refine r_lamV t0 fun f1 G1 n1 x1 t1 L1 => ?_
  walk_at "r"
  intro p1 G2 m1 s1 e1
  walk_at "r"
  have t2 := tabs_same t1 s1
  refine r_lamV t2 fun f2 G3 n2 x2 t3 L2 => ?_
  walk_at "r"
  refine r_lamV t3 fun f3 G4 n3 x3 t4 L3 => ?_
  walk_at "r"
  intro p2 G5 m2 s2 e2
  walk_at "r"
  have e1' := s2 _ _ (ext_lst x3 (ext_lst x2 e1))
  refine r_addL e1' e2 (le_size (by show 4 ≤ 100000; decide)) fun p3 G6 m3 s3 e3 => ?_
  walk_at "r"
  have t6 := tabs_same (tabs_same t4 s2) s3
  refine r_lamV t6 fun f4 G7 n4 x4 t7 L4 => ?_
  walk_at "r"
  refine r_lamV t7 fun f5 G8 n5 x5 t8 L5 => ?_
  walk_at "r"
  intro p4 G9 m4 s4 e4
  walk_at "r"
  have e3' := s4 _ _ (ext_lst x5 (ext_lst x4 e3))
  refine r_addL e3' e4 (le_size (by show 6 ≤ 100000; decide)) fun p5 G10 m5 s5 e5 => ?_
  walk_at "r"
  have t10 := tabs_same (tabs_same t8 s4) s5
  refine r_lamV t10 fun f6 G11 n6 x6 t11 L6 => ?_
  walk_at "r"
  refine r_lamV t11 fun f7 G12 n7 x7 t12 L7 => ?_
  walk_at "r"
  intro p6 G13 m6 s6 e6
  walk_at "r"
  have e5' := s6 _ _ (ext_lst x7 (ext_lst x6 e5))
  refine r_addL e5' e6 (le_size (by show 8 ≤ 100000; decide)) fun p7 G14 m7 s7 e7 => ?_
  intro G L
  have t14 := tabs_same (tabs_same t12 s6) s7
  have y14 := L.same
  have z12 := (ext_same s6).trans ((ext_same s7).trans (ext_same y14))
  have z11 := x7.trans z12
  have z10 := x6.trans z11
  have z8 := (ext_same s4).trans ((ext_same s5).trans z10)
  have z7 := x5.trans z8
  have z6 := x4.trans z7
  have z4 := (ext_same s2).trans ((ext_same s3).trans z6)
  have z3 := x3.trans z4
  have z1 := (ext_same s1).trans (x2.trans z3)
  have z0 := x1.trans z1
  have zz := x0.trans z0
  have hG : ∀ G', Seqs G G' → TapesO G' v u b m o := fun G' sq => ho.seqs ((Seqs.of_ext (zz)).trans sq)
  have d0 : DoesL P w K mg base cl o G f0 := by
    refine does_lam ["_law_sheet_here", "_law_tape_here", "_law_begin"] [v, u, b] (ext_lamAt z0 L0) ⟨lent_free L (by decide +kernel) (by decide +kernel) (i := 0) rfl rfl, lent_free L (by decide +kernel) (by decide +kernel) (i := 1) rfl rfl, lent_free L (by decide +kernel) (by decide +kernel) (i := 2) rfl rfl, trivial⟩ ⟨rfl, rfl, rfl, by decide +kernel⟩ (lamB0 rfl fun _ _ _ _ _ => rfl) (by decide +kernel) (by decide +kernel) (fun _ _ _ _ _ _ _ _ hr => (pe_clX2 o_read x_read hr (takes_of rfl rfl rfl rfl) (by rfl) (pa_cons (pv 0) (pa_cons (pv 1) (pa_cons (pv 2) pa_nil))))) (want_hides cl o) fun G' sq Q E hw => ?_
    walk_at "r"
    exact t_read (hG _ sq) hw
  have d1 : DoesL P w K mg base cl o G f1 := by
    refine does_lam ["_law_sheet_here", "_law_tape_here", "_law_begin"] [v, u, b] (ext_lamAt z1 L1) ⟨lent_free L (by decide +kernel) (by decide +kernel) (i := 0) rfl rfl, lent_free L (by decide +kernel) (by decide +kernel) (i := 1) rfl rfl, lent_free L (by decide +kernel) (by decide +kernel) (i := 2) rfl rfl, trivial⟩ ⟨rfl, rfl, rfl, by decide +kernel⟩ (lamB1 "_law_a" (fun z => nomatch z) rfl fun _ _ _ _ _ _ => ⟨_, rfl, fun _ => rfl⟩) (by decide +kernel) (by decide +kernel) (fun _ _ _ _ _ _ _ _ hr => (pe_clX2 o_last_set x_last_set hr (takes_of rfl rfl rfl rfl) (by rfl) (pa_cons (pv 0) (pa_cons (pv 1) (pa_cons (pv 2) pa_nil))))) (want_hides cl o) fun G' sq Q E hw => ?_
    walk_at "r"
    exact t_last_set (hG _ sq) hw
  have d2 : DoesL P w K mg base cl o G f2 := by
    refine does_lam ["_law_sheet_here", "_law_tape_here", "_law_begin"] [v, u, b] (ext_lamAt z3 L2) ⟨lent_free L (by decide +kernel) (by decide +kernel) (i := 0) rfl rfl, lent_free L (by decide +kernel) (by decide +kernel) (i := 1) rfl rfl, lent_free L (by decide +kernel) (by decide +kernel) (i := 2) rfl rfl, trivial⟩ ⟨rfl, rfl, rfl, by decide +kernel⟩ (lamB1 "_law_b" (fun z => nomatch z) rfl fun _ _ _ _ _ _ => ⟨_, rfl, fun _ => rfl⟩) (by decide +kernel) (by decide +kernel) (fun _ _ _ _ _ _ _ _ hr => (pe_clX2 o_spoilt x_spoilt hr (takes_of rfl rfl rfl rfl) (by rfl) (pa_cons (pv 0) (pa_cons (pv 1) (pa_cons (pv 2) pa_nil))))) (want_hides cl o) fun G' sq Q E hw => ?_
    walk_at "r"
    exact t_spoilt (hG _ sq) hw
  have d3 : DoesL P w K mg base cl o G f3 := by
    refine does_lam ["_law_sheet_here", "_law_tape_here", "_law_begin"] [v, u, b] (ext_lamAt z4 L3) ⟨lent_free L (by decide +kernel) (by decide +kernel) (i := 0) rfl rfl, lent_free L (by decide +kernel) (by decide +kernel) (i := 1) rfl rfl, lent_free L (by decide +kernel) (by decide +kernel) (i := 2) rfl rfl, trivial⟩ ⟨rfl, rfl, rfl, by decide +kernel⟩ (lamB1 "_law_c" (fun z => nomatch z) rfl fun _ _ _ _ _ _ => ⟨_, rfl, fun _ => rfl⟩) (by decide +kernel) (by decide +kernel) (fun _ _ _ _ _ _ _ _ hr => (pe_clX2 o_lost_at x_lost_at hr (takes_of rfl rfl rfl rfl) (by rfl) (pa_cons (pv 0) (pa_cons (pv 1) (pa_cons (pv 2) (pa_cons pe_str pa_nil)))))) (want_hides cl o) fun G' sq Q E hw => ?_
    walk_at "r"
    exact t_lost_at (hG _ sq) hw
  have d4 : DoesL P w K mg base cl o G f4 := by
    refine does_lam ["_law_sheet_here", "_law_tape_here", "_law_begin", "_law_place"] [v, u, b, m] (ext_lamAt z7 L4) ⟨lent_free L (by decide +kernel) (by decide +kernel) (i := 0) rfl rfl, lent_free L (by decide +kernel) (by decide +kernel) (i := 1) rfl rfl, lent_free L (by decide +kernel) (by decide +kernel) (i := 2) rfl rfl, lent_free L (by decide +kernel) (by decide +kernel) (i := 3) rfl rfl, trivial⟩ ⟨rfl, rfl, rfl, by decide +kernel⟩ (lamB1 "_law_d" (fun z => nomatch z) rfl fun _ _ _ _ _ _ => ⟨_, rfl, fun _ => rfl⟩) (by decide +kernel) (by decide +kernel) (fun _ _ _ _ _ _ _ _ hr => (pe_clX2 o_is_guarded x_is_guarded hr (takes_of rfl rfl rfl rfl) (by rfl) (pa_cons (pv 0) (pa_cons (pv 1) (pa_cons (pv 2) (pa_cons (pv 3) pa_nil)))))) (want_hides cl o) fun G' sq Q E hw => ?_
    walk_at "r"
    exact t_is_guarded (hG _ sq) hw
  have d5 : DoesL P w K mg base cl o G f5 := by
    refine does_lam ["_law_sheet_here", "_law_tape_here", "_law_begin", "_law_place"] [v, u, b, m] (ext_lamAt z8 L5) ⟨lent_free L (by decide +kernel) (by decide +kernel) (i := 0) rfl rfl, lent_free L (by decide +kernel) (by decide +kernel) (i := 1) rfl rfl, lent_free L (by decide +kernel) (by decide +kernel) (i := 2) rfl rfl, lent_free L (by decide +kernel) (by decide +kernel) (i := 3) rfl rfl, trivial⟩ ⟨rfl, rfl, rfl, by decide +kernel⟩ (lamB1 "_law_f" (fun z => nomatch z) rfl fun _ _ _ _ _ _ => ⟨_, rfl, fun _ => rfl⟩) (by decide +kernel) (by decide +kernel) (fun _ _ _ _ _ _ _ _ hr => (pe_clX2 o_cut x_cut hr (takes_of rfl rfl rfl rfl) (by rfl) (pa_cons (pv 0) (pa_cons (pv 1) (pa_cons (pv 2) (pa_cons (pv 3) pa_nil)))))) (want_hides cl o) fun G' sq Q E hw => ?_
    walk_at "r"
    exact t_cut (hG _ sq) hw
  have d6 : DoesL P w K mg base cl o G f6 := by
    refine does_lam ["_law_sheet_here", "_law_tape_here", "_law_begin"] [v, u, b] (ext_lamAt z11 L6) ⟨lent_free L (by decide +kernel) (by decide +kernel) (i := 0) rfl rfl, lent_free L (by decide +kernel) (by decide +kernel) (i := 1) rfl rfl, lent_free L (by decide +kernel) (by decide +kernel) (i := 2) rfl rfl, trivial⟩ ⟨rfl, rfl, rfl, by decide +kernel⟩ (lamB1 "_law_g" (fun z => nomatch z) rfl fun _ _ _ _ _ _ => ⟨_, rfl, fun _ => rfl⟩) (by decide +kernel) (by decide +kernel) (fun _ _ _ _ _ _ _ _ hr => (pe_clX2 o_joined x_joined hr (takes_of rfl rfl rfl rfl) (by rfl) (pa_cons (pv 0) (pa_cons (pe_lstN (pa_cons (pe_lstN pa_nil) (pa_cons (pv 1) pa_nil))) (pa_cons (pv 2) pa_nil))))) (want_hides cl o) fun G' sq Q E hw => ?_
    walk_at "r"
    intro q0 K0 k0 c0 w0
    walk_at "r"
    intro q1 K1 k1 c1 w1
    walk_at "r"
    exact t_joined (hG _ sq) hw (c0.trans c1) (i := 1) w1 rfl (by show 2 ≤ 3; decide) fun sh j x hx hj => by
      match j, hx, hj with
      | 0, hx, _ => cases hx; exact good_nil (c1 _ _ w0)
      | 1, _, hj => exact absurd rfl hj
      | j + 2, hx, _ => simp at hx
  have d7 : DoesL P w K mg base cl o G f7 := by
    refine does_lam ["_law_sheet_here", "_law_tape_here", "_law_begin"] [v, u, b] (ext_lamAt z12 L7) ⟨lent_free L (by decide +kernel) (by decide +kernel) (i := 0) rfl rfl, lent_free L (by decide +kernel) (by decide +kernel) (i := 1) rfl rfl, lent_free L (by decide +kernel) (by decide +kernel) (i := 2) rfl rfl, trivial⟩ ⟨rfl, rfl, rfl, by decide +kernel⟩ (lamB1 "_law_h" (fun z => nomatch z) rfl fun _ _ _ _ _ _ => ⟨_, rfl, fun _ => rfl⟩) (by decide +kernel) (by decide +kernel) (fun _ _ _ _ _ _ _ _ hr => (pe_clX2 o_joined x_joined hr (takes_of rfl rfl rfl rfl) (by rfl) (pa_cons (pv 0) (pa_cons (pe_lstN (pa_cons (pv 1) (pa_cons (pe_lstN pa_nil) (pa_cons (pe_lstN (pa_cons pe_int pa_nil)) pa_nil)))) (pa_cons (pv 2) pa_nil))))) (want_hides cl o) fun G' sq Q E hw => ?_
    walk_at "r"
    intro q0 K0 k0 c0 w0
    walk_at "r"
    intro q1 K1 k1 c1 w1
    walk_at "r"
    intro q2 K2 k2 c2 w2
    walk_at "r"
    exact t_joined (hG _ sq) hw ((c0.trans c1).trans c2) (i := 0) w2 rfl (by show 3 ≤ 3; decide) fun sh j x hx hj => by
      match j, hx, hj with
      | 0, _, hj => exact absurd rfl hj
      | 1, hx, _ => cases hx; exact good_nil (c2 _ _ (c1 _ _ w0))
      | 2, hx, _ => cases hx; exact good_zero (c2 _ _ w1)
      | j + 3, hx, _ => simp at hx
  refine q p7 [f0, f1, f2, f3, f4, f5, f6, f7] G zz (tabs_same t14 y14) (y14 _ _ e7) rfl fun f hf => ?_
  simp only [List.mem_cons, List.not_mem_nil, or_false] at hf
  rcases hf with rfl | rfl | rfl | rfl | rfl | rfl | rfl | rfl
  all_goals assumption

/-! ### all that is handed a text and a set -/
def TextsO (H : Hp) (v x b m : V) : Option Why → Prop
  | none => (∃ sh, GoodSh H v sh ∧ GoodX x sh 32) ∧ GoodN b ∧ m = .int 32
  | some y => BadTx H v x b y
theorem TextsO.seqs {H H' : Hp} {v x b m : V} {o : Option Why} (h : TextsO H v x b m o) (s : Seqs H H') : TextsO H' v x b m o := by
  cases o with
  | none =>
    obtain ⟨⟨sh, h1, h2⟩, h3⟩ := h
    exact ⟨⟨sh, h1.seqs s, h2⟩, h3⟩
  | some y => exact BadTx.seqs h s
def spOfTexts (P : Program) (w : World) (K : PySem.W.Frag) (mg : Str → Option Value) (base : Heap) (cl : Cl) (TTs : List (Addr × Str)) : Sp := fun vs H Q _ => ∃ (v x b m : V) (o : Option Why), vs = [v, x, b, m] ∧ TextsO H v x b m o ∧ LamX.Tabs TTs H ∧
  ∀ (p : Addr) (fs : List Addr) (H' : Hp), LamX.ExtN H H' → LamX.Tabs TTs H' → H' p = some (.lst (fs.map V.ref)) → fs.length = 2 → (∀ f ∈ fs, DoesL P w K mg base cl o H' f) → Q (.ref p) H'
theorem use_law_of_texts {cl : Cl} {H : Hp} {Q : VK} {E : XK} {v x b m : V} {o : Option Why} (h : TextsO H v x b m o) (t : LamX.Tabs TTs H)
    (q : ∀ (p : Addr) (fs : List Addr) (H' : Hp), LamX.ExtN H H' → LamX.Tabs TTs H' → H' p = some (.lst (fs.map V.ref)) → fs.length = 2 → (∀ f ∈ fs, DoesL P w K mg base cl o H' f) → Q (.ref p) H') : spOfTexts P w K mg base cl TTs [v, x, b, m] H Q E := ⟨v, x, b, m, o, rfl, h, t, q⟩
theorem t_shortest {H : Hp} {v x b m : V} {o : Option Why} {Q : VK} {E : XK} (h : TextsO H v x b m o) (hw : Want cl o H Q E) : spShortest [v, x, b] H Q E0 ∨ spxShortest cl [v, x, b] H Q E := by
  cases o with
  | none =>
    obtain ⟨⟨sh, hv, z, rfl, hc, hl⟩, ⟨c, rfl⟩, rfl⟩ := h
    exact .inl (use_shortest hv.1 hv.2 hc hl fun p H' _ s' _ => hw _ H' s')
  | some y => exact .inr (usex_shortest h hw)
theorem t_guarded {H : Hp} {v x b m : V} {o : Option Why} {Q : VK} {E : XK} (h : TextsO H v x b m o) (hw : Want cl o H Q E) : spGuarded [v, x, b, m] H Q E0 ∨ spxGuarded cl [v, x, b, m] H Q E := by
  cases o with
  | none =>
    obtain ⟨⟨sh, hv, z, rfl, hc, hl⟩, ⟨c, rfl⟩, rfl⟩ := h
    exact .inl (use_guarded (m := 32) hv.1 hv.2 hc hl (by decide) fun p t H' _ s' _ _ => hw _ H' s')
  | some y => exact .inr (usex_guarded (.inl h) hw)
theorem cu__law_of_texts : CellU (defScope s__law_of_texts) := cellU_of (by decide +kernel)
theorem ok__law_of_texts {k : Nat} {PT : Addr} (T : TX mg) (F : DfT K mg base "_law_of_texts" s__law_of_texts ["_law_sheet_here", "_law_text_here", "_law_begin", "_law_most"] PT) (hm : (PT, (Str.ofString "_law_of_texts" ++ ".<locals>.") ++ "<lambda>") ∈ TTs) (hu : ∀ p ∈ TTs, p.1 = PT → p.2 = (Str.ofString "_law_of_texts" ++ ".<locals>.") ++ "<lambda>")
    (o_shortest : OkAt P w K mg base "shortest" LJ ["sheet", "text", "begin"] spShortest) (x_shortest : OkX P w K mg base "shortest" LJ ["sheet", "text", "begin"] (spxShortest cl)) (o_guarded : OkAt P w K mg base "guarded" LJ ["sheet", "text", "begin", "most"] spGuarded) (x_guarded : OkX P w K mg base "guarded" LJ ["sheet", "text", "begin", "most"] (spxGuarded cl)) : OkAt P w K mg base "_law_of_texts" (k + 1) ["_law_sheet_here", "_law_text_here", "_law_begin", "_law_most"] (spOfTexts P w K mg base cl TTs) := by
  refine DfT_okC F sc__law_of_texts cu__law_of_texts (fun vs H Q E h => ?_) (fun f c A outer s H vs Q E TB hr h => ?_)
  · obtain ⟨v, x, b, m, o, rfl, _⟩ := h
    rfl
  obtain ⟨v, x, b, m, o, rfl, ho, hT, q⟩ := h
  refine ⟨_, (prs_ret (pe_lstN (pa_cons (pe_lamV0 TB rfl hm hu (free_s (sc := defScope s__law_of_texts) rfl (by decide +kernel)) (by rfl) (by rfl)) (pa_cons (pe_lamV1 TB rfl hm hu (free_s (sc := defScope s__law_of_texts) rfl (by decide +kernel)) (by rfl) (by rfl)) pa_nil)))), ?_⟩
  walk_at "r"
  refine r_lamV hT fun f0 G0 n0 x0 t0 L0 => ?_
  walk_at "r"
  refine r_lamV t0 fun f1 G1 n1 x1 t1 L1 => ?_
  walk_at "r"
  intro p1 G2 m1 s1 e1
  intro G L
  have t2 := tabs_same t1 s1
  have y14 := L.same
  have z1 := (ext_same s1).trans (ext_same y14)
  have z0 := x1.trans z1
  have zz := x0.trans z0
  have hG : ∀ G', Seqs G G' → TextsO G' v x b m o := fun G' sq => ho.seqs ((Seqs.of_ext zz).trans sq)
  have d0 : DoesL P w K mg base cl o G f0 := by
    refine does_lam ["_law_sheet_here", "_law_text_here", "_law_begin"] [v, x, b] (ext_lamAt z0 L0) ⟨lent_free L (by decide +kernel) (by decide +kernel) (i := 0) rfl rfl, lent_free L (by decide +kernel) (by decide +kernel) (i := 1) rfl rfl, lent_free L (by decide +kernel) (by decide +kernel) (i := 2) rfl rfl, trivial⟩ ⟨rfl, rfl, rfl, by decide +kernel⟩ (lamB0 rfl fun _ _ _ _ _ => rfl) (by decide +kernel) (by decide +kernel) (fun _ _ _ _ _ _ _ _ hr => (pe_clX2 o_shortest x_shortest hr (takes_of rfl rfl rfl rfl) (by rfl) (pa_cons (pv 0) (pa_cons (pv 1) (pa_cons (pv 2) pa_nil))))) (want_hides cl o) fun G' sq Q E hw => ?_
    walk_at "r"
    exact t_shortest (hG _ sq) hw
  have d1 : DoesL P w K mg base cl o G f1 := by
    refine does_lam ["_law_sheet_here", "_law_text_here", "_law_begin", "_law_most"] [v, x, b, m] (ext_lamAt z1 L1) ⟨lent_free L (by decide +kernel) (by decide +kernel) (i := 0) rfl rfl, lent_free L (by decide +kernel) (by decide +kernel) (i := 1) rfl rfl, lent_free L (by decide +kernel) (by decide +kernel) (i := 2) rfl rfl, lent_free L (by decide +kernel) (by decide +kernel) (i := 3) rfl rfl, trivial⟩ ⟨rfl, rfl, rfl, by decide +kernel⟩ (lamB1 "_law_a" (fun z => nomatch z) rfl fun _ _ _ _ _ _ => ⟨_, rfl, fun _ => rfl⟩) (by decide +kernel) (by decide +kernel) (fun _ _ _ _ _ _ _ _ hr => (pe_clX2 o_guarded x_guarded hr (takes_of rfl rfl rfl rfl) (by rfl) (pa_cons (pv 0) (pa_cons (pv 1) (pa_cons (pv 2) (pa_cons (pv 3) pa_nil)))))) (want_hides cl o) fun G' sq Q E hw => ?_
    walk_at "r"
    exact t_guarded (hG _ sq) hw
  refine q p1 [f0, f1] G zz (tabs_same t2 y14) (y14 _ _ e1) rfl fun f hf => ?_
  simp only [List.mem_cons, List.not_mem_nil, or_false] at hf
  rcases hf with rfl | rfl
  all_goals assumption

/-! ### sheets that cannot be -/
theorem gs_of {l : List Nat} (h : goodSigns l = true) : 1 ≤ l.length ∧ l.length ≤ 26 ∧ (∀ c ∈ l, 32 ≤ c ∧ c ≤ 126) ∧ l.Nodup := by
  unfold goodSigns at h
  rw [Bool.and_eq_true, Bool.and_eq_true, Bool.and_eq_true] at h
  obtain ⟨⟨⟨h1, h2⟩, h3⟩, h4⟩ := h
  refine ⟨of_decide_eq_true h1, of_decide_eq_true h2, fun c hc => ?_, of_decide_eq_true h4⟩
  have := List.all_eq_true.mp h3 c hc
  rw [Bool.and_eq_true] at this
  exact ⟨of_decide_eq_true this.1, of_decide_eq_true this.2⟩
theorem gs_no {l : List Nat} (h : ¬ (1 ≤ l.length ∧ l.length ≤ 26 ∧ (∀ c ∈ l, 32 ≤ c ∧ c ≤ 126) ∧ l.Nodup)) : goodSigns l = false := Bool.eq_false_iff.mpr fun z => h (gs_of z)
theorem raw_bad0 {s : Raw} (h : goodSigns s.zero = false) : s.good = false := by
  unfold Raw.good
  rw [h]
  rfl
theorem raw_bad1 {s : Raw} (h : goodSigns s.one = false) : s.good = false := by
  unfold Raw.good
  rw [h, Bool.and_false]
  rfl
theorem raw_badL {s : Raw} (h : s.zero.length ≠ s.one.length) : s.good = false := by
  unfold Raw.good
  rw [decide_eq_false h, Bool.and_false]
  rfl
theorem raw_badH {s : Raw} {h : Int} (e : s.home = some h) (hh : ¬ (0 ≤ h ∧ h < s.zero.length)) : s.good = false := by
  unfold Raw.good
  rw [e]
  show (_ && decide (0 ≤ h ∧ h < s.zero.length)) = false
  rw [decide_eq_false hh, Bool.and_false]
theorem hV_I (o : Option Nat) : hV o = hVI (o.map fun h => (h : Int)) := by cases o <;> rfl
theorem cutS_last {l : List Nat} : cutS (mkS l) none (some (-1)) = mkS (l.take (l.length - 1)) := by
  unfold cutS
  rw [HT.sIx_none, len_mkS]
  refine congrArg (fun x : List Nat => mkS x) ?_
  have e : HT.sIx l.length l.length (some (-1)) = l.length - 1 := by
    show (if (-1 : Int) < 0 then ((-1 : Int) + (l.length : Int)).toNat else min (-1 : Int).toNat l.length) = _
    rw [if_pos (by decide)]
    omega
  rw [e]
  show (l.drop 0).take (l.length - 1 - 0) = _
  rw [Nat.sub_zero, List.drop_zero]
theorem cutS_1 {l : List Nat} : cutS (mkS l) none (some 1) = mkS (l.take 1) := cutS_to (k := 1)
theorem nl_app {l : List Nat} : goodSigns (l ++ [10]) = false := gs_no fun z => by
  have := (z.2.2.1 10 (List.mem_append_right _ List.mem_cons_self)).1
  omega
theorem twice_app {l : List Nat} (h : 1 ≤ l.length) : goodSigns (l ++ l.take 1) = false := gs_no fun z => by
  cases l with
  | nil => simp at h
  | cons c r =>
    have nd := z.2.2.2
    rw [List.nodup_append] at nd
    exact nd.2.2 c List.mem_cons_self c (by simp) rfl
theorem aaS : Str.ofString "aa" = mkS [97, 97] := by decide +kernel
theorem o1S : Str.ofString "01" = mkS [48, 49] := by decide +kernel
theorem nlS : Str.ofString "\n" = mkS [10] := by decide +kernel
theorem emS : Str.ofString "" = mkS [] := by decide +kernel
theorem mkS_of (s : Str) : mkS s.cps.toList = s := TL.ext_tl rfl
def wideL : List Nat := (Str.ofString "abcdefghijklmnopqrstuvwxyz0").cps.toList
theorem wideS : Str.ofString "abcdefghijklmnopqrstuvwxyz0" = mkS wideL := (mkS_of _).symm
theorem pickAll {Pd : V → Prop} : ∀ {xs : List V} {j : Nat}, j < xs.length → (∀ x ∈ xs, Pd x) → ∃ z, atI xs (j : Int) = some z ∧ Pd z := fun {xs j} hj h => ⟨xs[j], atI_nat (List.getElem?_eq_getElem hj), h _ (List.getElem_mem hj)⟩
def spLawBad : Sp := fun vs H Q E => ∃ (v u : V) (sh : Sh), vs = [v, u] ∧ (Box H v) ∧ (IsSh H u sh) ∧ (sh.Ok) ∧ (∀ w H', Same H H' → BadSh H' w → Q w H')
theorem use_law_bad {H : Hp} {Q : VK} {E : XK} {v u : V} {sh : Sh} (hb : Box H v) (hu : IsSh H u sh) (ok : sh.Ok) (q : ∀ w H', Same H H' → BadSh H' w → Q w H') : spLawBad [v, u] H Q E := ⟨v, u, sh, rfl, hb, hu, ok, q⟩

theorem ok__law_bad {k : Nat} (T : TX mg) (F : Df K mg "_law_bad" s__law_bad ["_law_box", "_law_sheet_here"]) (o__law_take : OkAt P w K mg base "_law_take" k ["_law_box", "_law_many"] spTake) : OkAt P w K mg base "_law_bad" (k + 1) ["_law_box", "_law_sheet_here"] spLawBad := by
  refine F.ok sc__law_bad (fun vs H Q E h => ?_) (fun f cdv A outer s H vs Q E hr h => ?_)
  · obtain ⟨v, u, sh, rfl, _⟩ := h
    rfl
  obtain ⟨v, u, sh, rfl, hb, hu, ok, q⟩ := h
  refine ⟨_, (pss_cons (ps_asg (pv 1) (pg_tupK K (n := 3) rfl (pgs_cons (pg_name (i := 2) sc__law_bad.nd rfl (by first | exact Or.inl rfl | exact Or.inr rfl)) (pgs_cons (pg_name (i := 3) sc__law_bad.nd rfl (by first | exact Or.inl rfl | exact Or.inr rfl)) (pgs_cons (pg_name (i := 4) sc__law_bad.nd rfl (by first | exact Or.inl rfl | exact Or.inr rfl)) pgs_nil))))) (pss_cons (ps_set (i := 5) sc__law_bad.nd rfl (by first | exact Or.inl rfl | exact Or.inr rfl) (pe_op (op_uAdd K) (pe_callB (cr_len K) (by rfl) T.b_len (by decide +kernel) (pa_cons (pv 2) pa_nil)) (pe_cl o__law_take hr (by rfl) (pa_cons (pv 0) (pa_cons (pe_op op_uPow pe_int pe_int) pa_nil))))) (pss_cons (ps_set (i := 6) sc__law_bad.nd rfl (by first | exact Or.inl rfl | exact Or.inr rfl) pe_str) (pss_cons (ps_set (i := 7) sc__law_bad.nd rfl (by first | exact Or.inl rfl | exact Or.inr rfl) (pe_lstN (pa_cons (pe_tupN (pa_cons pe_str (pa_cons pe_str (pa_cons pe_non pa_nil)))) (pa_cons (pe_tupN (pa_cons (pe_op (op_uAdd K) (pv 2) (pe_slice (sl_u K) (pv 2) po_none (po_some pe_int))) (pa_cons (pe_op (op_uAdd K) (pv 3) (pe_slice (sl_u K) (pv 3) po_none (po_some pe_int))) (pa_cons (pv 4) pa_nil)))) (pa_cons (pe_tupN (pa_cons (pv 2) (pa_cons (pe_slice (sl_u K) (pv 3) po_none (po_some (pe_un un_neg pe_int))) (pa_cons (pv 4) pa_nil)))) (pa_cons (pe_tupN (pa_cons (pe_slice (sl_u K) (pv 2) po_none (po_some (pe_un un_neg pe_int))) (pa_cons (pv 3) (pa_cons (pv 4) pa_nil)))) pa_nil)))))) (pss_cons (ps_set (i := 7) sc__law_bad.nd rfl (by first | exact Or.inl rfl | exact Or.inr rfl) (pe_op (op_uAdd K) (pv 7) (pe_lstN (pa_cons (pe_tupN (pa_cons (pv 2) (pa_cons (pv 3) (pa_cons (pv 5) pa_nil)))) (pa_cons (pe_tupN (pa_cons (pv 2) (pa_cons (pv 3) (pa_cons (pe_un un_neg pe_int) pa_nil)))) (pa_cons (pe_tupN (pa_cons (pv 2) (pa_cons (pv 3) (pa_cons (pe_callB (cr_len K) (by rfl) T.b_len (by decide +kernel) (pa_cons (pv 2) pa_nil)) pa_nil)))) (pa_cons (pe_tupN (pa_cons (pe_op (op_uAdd K) (pe_slice (sl_u K) (pv 2) po_none (po_some (pe_un un_neg pe_int))) pe_str) (pa_cons (pv 3) (pa_cons (pv 4) pa_nil)))) pa_nil))))))) (pss_cons (ps_set (i := 7) sc__law_bad.nd rfl (by first | exact Or.inl rfl | exact Or.inr rfl) (pe_op (op_uAdd K) (pv 7) (pe_lstN (pa_cons (pe_tupN (pa_cons (pv 2) (pa_cons (pe_op (op_uAdd K) (pe_slice (sl_u K) (pv 3) po_none (po_some (pe_un un_neg pe_int))) pe_str) (pa_cons (pv 4) pa_nil)))) (pa_cons (pe_tupN (pa_cons (pv 6) (pa_cons (pv 6) (pa_cons (pv 4) pa_nil)))) (pa_cons (pe_tupN (pa_cons pe_str (pa_cons pe_str (pa_cons pe_non pa_nil)))) (pa_cons (pe_tupN (pa_cons pe_str (pa_cons pe_str (pa_cons pe_non pa_nil)))) pa_nil))))))) (pss_one (ps_ret (pe_ix (ix_u K) (pv 7) (pe_cl o__law_take hr (by rfl) (pa_cons (pv 0) (pa_cons pe_int pa_nil))) (fun _ _ => rfl)))))))))), ?_⟩
  obtain ⟨a, rfl, ha⟩ := id hu
  have h26 := ok.most
  have h1 := ok.pos
  have hlo := ok.len
  have sz : sh.zero.length ≤ 100000 := by omega
  have so : sh.one.length ≤ 100000 := by omega
  have lz : ∀ l : List Nat, l.length ≤ 100000 → (mkS l).length ≤ sizeLine := fun l h => by rw [len_mkS]; exact le_size h
  walk_at "r"
  refine r_lenS (lz _ sz) ?_
  rw [len_mkS]
  walk_at "r"
  refine use_take hb (by decide) (by decide) fun r1 H1 hr1 s1 => ?_
  walk_at "r"
  rw [emS, wideS]
  intro p0 K0 n0 t0 e0
  walk_at "r"
  refine r_slS (lz _ (by omega)) ?_
  rw [cutS_1]
  walk_at "r"
  refine r_addS (by rw [len_mkS, len_mkS]; exact le_size (by first | (rw [List.length_take]; omega) | (show _ + 1 ≤ _; rw [List.length_take]; omega))) ?_
  rw [mkS_app]
  walk_at "r"
  refine r_slS (lz _ (by omega)) ?_
  rw [cutS_1]
  walk_at "r"
  refine r_addS (by rw [len_mkS, len_mkS]; exact le_size (by first | (rw [List.length_take]; omega) | (show _ + 1 ≤ _; rw [List.length_take]; omega))) ?_
  rw [mkS_app]
  walk_at "r"
  intro p1 K1 n1 t1 e1
  walk_at "r"
  refine r_slS (lz _ (by omega)) ?_
  rw [cutS_last]
  walk_at "r"
  intro p2 K2 n2 t2 e2
  walk_at "r"
  refine r_slS (lz _ (by omega)) ?_
  rw [cutS_last]
  walk_at "r"
  intro p3 K3 n3 t3 e3
  walk_at "r"
  intro q1 J1 m1 u1 f1
  walk_at "r"
  intro p4 K4 n4 t4 e4
  walk_at "r"
  intro p5 K5 n5 t5 e5
  walk_at "r"
  refine r_lenS (lz _ sz) ?_
  rw [len_mkS]
  walk_at "r"
  intro p6 K6 n6 t6 e6
  walk_at "r"
  refine r_slS (lz _ (by omega)) ?_
  rw [cutS_last]
  walk_at "r"
  rw [nlS]
  refine r_addS (by rw [len_mkS, len_mkS]; exact le_size (by first | (rw [List.length_take]; omega) | (show _ + 1 ≤ _; rw [List.length_take]; omega))) ?_
  rw [mkS_app]
  walk_at "r"
  intro p7 K7 n7 t7 e7
  walk_at "r"
  intro q2 J2 m2 u2 f2
  walk_at "r"
  refine r_addL (by walk_at "hp") f2 (le_size (by show 8 ≤ 100000; decide)) fun q3 J3 m3 u3 f3 => ?_
  walk_at "r"
  refine r_slS (lz _ (by omega)) ?_
  rw [cutS_last]
  walk_at "r"
  refine r_addS (by rw [len_mkS, len_mkS]; exact le_size (by first | (rw [List.length_take]; omega) | (show _ + 1 ≤ _; rw [List.length_take]; omega))) ?_
  rw [mkS_app]
  walk_at "r"
  intro p8 K8 n8 t8 e8
  walk_at "r"
  intro p9 K9 n9 t9 e9
  walk_at "r"
  rw [aaS, o1S]
  intro p10 K10 n10 t10 e10
  walk_at "r"
  intro p11 K11 n11 t11 e11
  walk_at "r"
  intro q4 J4 m4 u4 f4
  walk_at "r"
  refine r_addL (by walk_at "hp") f4 (le_size (by show 12 ≤ 100000; decide)) fun q5 J5 m5 u5 f5 => ?_
  walk_at "r"
  have a0 := u5 _ _ (u4 _ _ (t11 _ _ (t10 _ _ (t9 _ _ (t8 _ _ (u3 _ _ (u2 _ _ (t7 _ _ (t6 _ _ (t5 _ _ (t4 _ _ (u1 _ _ (t3 _ _ (t2 _ _ (t1 _ _ e0)))))))))))))))
  have a1 := u5 _ _ (u4 _ _ (t11 _ _ (t10 _ _ (t9 _ _ (t8 _ _ (u3 _ _ (u2 _ _ (t7 _ _ (t6 _ _ (t5 _ _ (t4 _ _ (u1 _ _ (t3 _ _ (t2 _ _ e1))))))))))))))
  have a2 := u5 _ _ (u4 _ _ (t11 _ _ (t10 _ _ (t9 _ _ (t8 _ _ (u3 _ _ (u2 _ _ (t7 _ _ (t6 _ _ (t5 _ _ (t4 _ _ (u1 _ _ (t3 _ _ e2)))))))))))))
  have a3 := u5 _ _ (u4 _ _ (t11 _ _ (t10 _ _ (t9 _ _ (t8 _ _ (u3 _ _ (u2 _ _ (t7 _ _ (t6 _ _ (t5 _ _ (t4 _ _ (u1 _ _ e3))))))))))))
  have a4 := u5 _ _ (u4 _ _ (t11 _ _ (t10 _ _ (t9 _ _ (t8 _ _ (u3 _ _ (u2 _ _ (t7 _ _ (t6 _ _ (t5 _ _ e4))))))))))
  have a5 := u5 _ _ (u4 _ _ (t11 _ _ (t10 _ _ (t9 _ _ (t8 _ _ (u3 _ _ (u2 _ _ (t7 _ _ (t6 _ _ e5)))))))))
  have a6 := u5 _ _ (u4 _ _ (t11 _ _ (t10 _ _ (t9 _ _ (t8 _ _ (u3 _ _ (u2 _ _ (t7 _ _ e6))))))))
  have a7 := u5 _ _ (u4 _ _ (t11 _ _ (t10 _ _ (t9 _ _ (t8 _ _ (u3 _ _ (u2 _ _ e7)))))))
  have a8 := u5 _ _ (u4 _ _ (t11 _ _ (t10 _ _ (t9 _ _ e8))))
  have a9 := u5 _ _ (u4 _ _ (t11 _ _ (t10 _ _ e9)))
  have a10 := u5 _ _ (u4 _ _ (t11 _ _ e10))
  have a11 := u5 _ _ (u4 _ _ e11)
  have sJ : Same H J5 := (((((((((((((((((s1.trans t0).trans t1).trans t2).trans t3).trans u1).trans t4).trans t5).trans t6).trans t7).trans u2).trans u3).trans t8).trans t9).trans t10).trans t11).trans u4).trans u5)
  refine use_take (same_box sJ hb) (by decide) (by decide) fun r2 H2 hr2 s2 => ?_
  have g0 := s2 _ _ a0
  have g1 := s2 _ _ a1
  have g2 := s2 _ _ a2
  have g3 := s2 _ _ a3
  have g4 := s2 _ _ a4
  have g5 := s2 _ _ a5
  have g6 := s2 _ _ a6
  have g7 := s2 _ _ a7
  have g8 := s2 _ _ a8
  have g9 := s2 _ _ a9
  have g10 := s2 _ _ a10
  have g11 := s2 _ _ a11
  have f5' := s2 _ _ f5
  clear a0 a1 a2 a3 a4 a5 a6 a7 a8 a9 a10 a11 e0 e1 e2 e3 e4 e5 e6 e7 e8 e9 e10 e11
  rw [hV_I] at g1 g2 g3 g7 g8 g9
  obtain ⟨z, hz, hbad⟩ := pickN (Pd := fun x => BadSh H2 x) (j := r2) (xs := [.ref p0, .ref p1, .ref p2, .ref p3, .ref p4, .ref p5, .ref p6, .ref p7, .ref p8, .ref p9, .ref p10, .ref p11]) (by show r2 < 12; omega) (fun x hx => by
    simp only [List.mem_cons, List.not_mem_nil, or_false] at hx
    rcases hx with rfl | rfl | rfl | rfl | rfl | rfl | rfl | rfl | rfl | rfl | rfl | rfl
    · exact ⟨⟨[], [], none⟩, ⟨p0, rfl, g0⟩, ⟨by decide, by decide⟩, raw_bad0 (by decide)⟩
    · exact ⟨⟨sh.zero ++ sh.zero.take 1, sh.one ++ sh.one.take 1, sh.home.map fun h => (h : Int)⟩, ⟨p1, rfl, g1⟩, ⟨by show List.length _ ≤ _; simp only [List.length_append, List.length_take, List.length_cons, List.length_nil]; omega, by show List.length _ ≤ _; simp only [List.length_append, List.length_take, List.length_cons, List.length_nil]; omega⟩, raw_bad0 (twice_app h1)⟩
    · exact ⟨⟨sh.zero, sh.one.take (sh.one.length - 1), sh.home.map fun h => (h : Int)⟩, ⟨p2, rfl, g2⟩, ⟨by show List.length _ ≤ _; simp only [List.length_append, List.length_take, List.length_cons, List.length_nil]; omega, by show List.length _ ≤ _; simp only [List.length_append, List.length_take, List.length_cons, List.length_nil]; omega⟩, raw_badL (by show sh.zero.length ≠ (sh.one.take (sh.one.length - 1)).length; rw [List.length_take]; omega)⟩
    · exact ⟨⟨sh.zero.take (sh.zero.length - 1), sh.one, sh.home.map fun h => (h : Int)⟩, ⟨p3, rfl, g3⟩, ⟨by show List.length _ ≤ _; simp only [List.length_append, List.length_take, List.length_cons, List.length_nil]; omega, by show List.length _ ≤ _; simp only [List.length_append, List.length_take, List.length_cons, List.length_nil]; omega⟩, raw_badL (by show (sh.zero.take (sh.zero.length - 1)).length ≠ sh.one.length; rw [List.length_take]; omega)⟩
    · exact ⟨⟨sh.zero, sh.one, some ((sh.zero.length : Int) + (r1 : Int))⟩, ⟨p4, rfl, g4⟩, ⟨by show List.length _ ≤ _; simp only [List.length_append, List.length_take, List.length_cons, List.length_nil]; omega, by show List.length _ ≤ _; simp only [List.length_append, List.length_take, List.length_cons, List.length_nil]; omega⟩, raw_badH rfl (by show ¬ (_ ∧ _ < (sh.zero.length : Int)); omega)⟩
    · exact ⟨⟨sh.zero, sh.one, some (-1)⟩, ⟨p5, rfl, g5⟩, ⟨by show List.length _ ≤ _; simp only [List.length_append, List.length_take, List.length_cons, List.length_nil]; omega, by show List.length _ ≤ _; simp only [List.length_append, List.length_take, List.length_cons, List.length_nil]; omega⟩, raw_badH rfl (fun z => absurd z.1 (by decide))⟩
    · exact ⟨⟨sh.zero, sh.one, some (sh.zero.length : Int)⟩, ⟨p6, rfl, g6⟩, ⟨by show List.length _ ≤ _; simp only [List.length_append, List.length_take, List.length_cons, List.length_nil]; omega, by show List.length _ ≤ _; simp only [List.length_append, List.length_take, List.length_cons, List.length_nil]; omega⟩, raw_badH rfl (by show ¬ (_ ∧ _ < (sh.zero.length : Int)); omega)⟩
    · exact ⟨⟨sh.zero.take (sh.zero.length - 1) ++ [10], sh.one, sh.home.map fun h => (h : Int)⟩, ⟨p7, rfl, g7⟩, ⟨by show List.length _ ≤ _; simp only [List.length_append, List.length_take, List.length_cons, List.length_nil]; omega, by show List.length _ ≤ _; simp only [List.length_append, List.length_take, List.length_cons, List.length_nil]; omega⟩, raw_bad0 nl_app⟩
    · exact ⟨⟨sh.zero, sh.one.take (sh.one.length - 1) ++ [10], sh.home.map fun h => (h : Int)⟩, ⟨p8, rfl, g8⟩, ⟨by show List.length _ ≤ _; simp only [List.length_append, List.length_take, List.length_cons, List.length_nil]; omega, by show List.length _ ≤ _; simp only [List.length_append, List.length_take, List.length_cons, List.length_nil]; omega⟩, raw_bad1 nl_app⟩
    · exact ⟨⟨wideL, wideL, sh.home.map fun h => (h : Int)⟩, ⟨p9, rfl, g9⟩, ⟨(show wideL.length ≤ 3000 by decide +kernel), (show wideL.length ≤ 3000 by decide +kernel)⟩, raw_bad0 (show goodSigns wideL = false by decide +kernel)⟩
    · exact ⟨⟨[97, 97], [48, 49], none⟩, ⟨p10, rfl, g10⟩, ⟨by decide, by decide⟩, raw_bad0 (by decide)⟩
    · exact ⟨⟨[48, 49], [97, 97], none⟩, ⟨p11, rfl, g11⟩, ⟨by decide, by decide⟩, raw_bad1 (by decide)⟩)
  refine r_ixL f5' hz ?_
  exact q z H2 (sJ.trans s2) hbad

/-! ### sheets, tapes that cannot be -/
theorem ext_box {H H' : Hp} {v : V} (e : LamX.ExtN H H') (h : Box H v) : Box H' v := by
  obtain ⟨b, l, rfl, h1, h2, h3⟩ := h
  exact ⟨b, l, rfl, e _ _ h1 (fun _ z => nomatch z), e _ _ h2 (fun _ z => nomatch z), h3⟩
theorem ext_sh {H H' : Hp} {v : V} {sh : Sh} (e : LamX.ExtN H H') (h : IsSh H v sh) : IsSh H' v sh := by
  obtain ⟨a, rfl, h⟩ := h
  exact ⟨a, rfl, ext_tup e h⟩
theorem ext_tape {H H' : Hp} {v : V} {t : List Nat} (e : LamX.ExtN H H') (h : IsTape H v t) : IsTape H' v t := by
  obtain ⟨a, rfl, h⟩ := h
  exact ⟨a, rfl, ext_lst e h⟩
theorem refs_app (a b : List Addr) : a.map V.ref ++ b.map V.ref = (a ++ b).map V.ref := (List.map_append ..).symm
theorem due_sheet {H : Hp} {p : Addr} (e : H p = some (.tup [.str "BadSheet", .int 0])) : Da H (.ref p) (whyD (some .sheet)) := .tup e (.cons (.str _) (.cons (.int _) .nil))
theorem due_set {H : Hp} {p : Addr} (e : H p = some (.tup [.str "BadSet", .int 0])) : Da H (.ref p) (whyD (some .set)) := .tup e (.cons (.str _) (.cons (.int _) .nil))
theorem due_count {H : Hp} {p : Addr} (e : H p = some (.tup [.str "BadCount", .int 0])) : Da H (.ref p) (whyD (some .count)) := .tup e (.cons (.str _) (.cons (.int _) .nil))
theorem due_tape {H : Hp} {p : Addr} {n : Nat} (e : H p = some (.tup [.str "BadTape", .int (n : Nat)])) : Da H (.ref p) (whyD (some (.tape n))) := .tup e (.cons (.str _) (.cons (.int _) .nil))
theorem due_sign {H : Hp} {p : Addr} {n : Nat} (e : H p = some (.tup [.str "NoSign", .int (n : Nat)])) : Da H (.ref p) (whyD (some (.sign n))) := .tup e (.cons (.str _) (.cons (.int _) .nil))
def spSheets (TTs : List (Addr × Str)) : Sp := fun vs H Q _ => ∃ (v u : V) (sh : Sh), vs = [v, u] ∧ Box H v ∧ IsSh H u sh ∧ sh.Ok ∧ LamX.Tabs TTs H ∧ ∀ H', LamX.ExtN H H' → LamX.Tabs TTs H' → Q (.bl true) H'
theorem use_law_sheets {H : Hp} {Q : VK} {E : XK} {v u : V} {sh : Sh} (hb : Box H v) (hu : IsSh H u sh) (ok : sh.Ok) (t : LamX.Tabs TTs H) (q : ∀ H', LamX.ExtN H H' → LamX.Tabs TTs H' → Q (.bl true) H') : spSheets TTs [v, u] H Q E := ⟨v, u, sh, rfl, hb, hu, ok, t, q⟩
theorem cu__law_sheets : CellU (defScope s__law_sheets) := cellU_of (by decide +kernel)
theorem ok__law_sheets {k : Nat} {PT : Addr} (T : TX mg) (F : DfT K mg base "_law_sheets" s__law_sheets ["_law_box", "_law_sheet_here"] PT) (hm : (PT, (Str.ofString "_law_sheets" ++ ".<locals>.") ++ "<lambda>") ∈ TTs) (hu : ∀ p ∈ TTs, p.1 = PT → p.2 = (Str.ofString "_law_sheets" ++ ".<locals>.") ++ "<lambda>")
    (o__law_bad : OkAt P w K mg base "_law_bad" k ["_law_box", "_law_sheet_here"] spLawBad) (o__law_of_tapes : OkAt P w K mg base "_law_of_tapes" k ["_law_sheet_here", "_law_tape_here", "_law_begin", "_law_place"] (spOfTapes P w K mg base cl TTs)) (o__law_of_texts : OkAt P w K mg base "_law_of_texts" k ["_law_sheet_here", "_law_text_here", "_law_begin", "_law_most"] (spOfTexts P w K mg base cl TTs))
    (o__law_all : OkAt P w K mg base "_law_all" k ["_law_works", "_law_due"] (spAll P w K mg base cl)) (x_either : OkX P w K mg base "either" LJ ["sheet", "text"] (spxEither cl)) (x_written : OkX P w K mg base "written" LJ ["sheet"] (spxWritten cl)) : OkAt P w K mg base "_law_sheets" (k + 1) ["_law_box", "_law_sheet_here"] (spSheets TTs) := by
  refine F.ok sc__law_sheets (fun vs H Q E h => ?_) (fun f c A outer s H vs Q E TB hr h => ?_)
  · obtain ⟨v, u, sh, rfl, _⟩ := h
    rfl
  obtain ⟨v, u, sh, rfl, hb, hv, ok, hT, q⟩ := h
  refine ⟨_, (pss_cons (ps_set (i := 2) sc__law_sheets.nd rfl (by first | exact Or.inl rfl | exact Or.inr rfl) (pe_cl o__law_bad hr (by rfl) (pa_cons (pv 0) (pa_cons (pv 1) pa_nil)))) (pss_cons (ps_set (i := 3) sc__law_sheets.nd rfl (by first | exact Or.inl rfl | exact Or.inr rfl) (pe_op (op_uAdd K) (pe_cl o__law_of_tapes hr (by rfl) (pa_cons (pv 2) (pa_cons (pe_lstN (pa_cons (pe_un un_neg pe_int) pa_nil)) (pa_cons pe_int (pa_cons (pe_un un_neg pe_int) pa_nil))))) (pe_cl o__law_of_texts hr (by rfl) (pa_cons (pv 2) (pa_cons pe_str (pa_cons pe_int (pa_cons (pe_un un_neg pe_int) pa_nil))))))) (pss_one (ps_ret (pe_clL o__law_all hr (by rfl) (fun _ => rfl) rfl (fun _ _ e => cells_kind cu__law_sheets e) (pa_cons (pe_op (op_uAdd K) (pv 3) (pe_lstN (pa_cons (pe_lamV0 TB rfl hm hu (free_s (sc := defScope s__law_sheets) rfl (by decide +kernel)) (by rfl) (by rfl)) (pa_cons (pe_lamV1 TB rfl hm hu (free_s (sc := defScope s__law_sheets) rfl (by decide +kernel)) (by rfl) (by rfl)) pa_nil)))) (pa_cons (pe_tupN (pa_cons pe_str (pa_cons pe_int pa_nil))) pa_nil))))))), ?_⟩
  walk_at "r"
  refine use_law_bad hb hv ok fun w0 H1 s1 hbad => ?_
  walk_at "r"
  intro p0 H2 n2 s2 e2
  walk_at "r"
  have t2 := tabs_same (tabs_same hT s1) s2
  refine use_law_of_tapes (o := some .sheet) (hbad.seqs (.of_same s2)) t2 fun p3 fs H3 x3 t3 e3 l3 d3 => ?_
  walk_at "r"
  refine use_law_of_texts (o := some .sheet) (hbad.seqs ((Seqs.of_same s2).trans (.of_ext x3))) t3 fun p4 gs H4 x4 t4 e4 l4 d4 => ?_
  walk_at "r"
  refine r_addL (ext_lst x4 e3) e4 (le_size (by rw [List.length_map, List.length_map]; omega)) fun p5 H5 n5 s5 e5 => ?_
  walk_at "r"
  have t5 := tabs_same t4 s5
  refine r_lamV t5 fun f0 H6 n6 x6 t6 L6 => ?_
  walk_at "r"
  refine r_lamV t6 fun f1 H7 n7 x7 t7 L7 => ?_
  walk_at "r"
  intro p8 H8 n8 s8 e8
  walk_at "r"
  have e5' := s8 _ _ (ext_lst x7 (ext_lst x6 e5))
  refine r_addL e5' e8 (le_size (by rw [List.length_append, List.length_map, List.length_map]; show _ + 2 ≤ _; omega)) fun p9 H9 n9 s9 e9 => ?_
  walk_at "r"
  intro p10 H10 n10 s10 e10
  walk_at "r"
  intro G L
  have y := L.same
  have z7 := (ext_same s8).trans ((ext_same s9).trans ((ext_same s10).trans (ext_same y)))
  have z6 := x7.trans z7
  have z5 := x6.trans z6
  have z4 := (ext_same s5).trans z5
  have z3 := x4.trans z4
  have z1 := (ext_same s2).trans (x3.trans z3)
  have hbG : ∀ G', Seqs G G' → BadSh G' w0 := fun G' sq => hbad.seqs ((Seqs.of_ext z1).trans sq)
  have d0 : DoesL P w K mg base cl (some .sheet) G f0 := by
    refine does_lam ["_law_bad_here"] [w0] (ext_lamAt z6 L6) ⟨lent_free L (by decide +kernel) (by decide +kernel) (i := 2) rfl rfl, trivial⟩ ⟨rfl, rfl, rfl, by decide +kernel⟩ (lamB0 rfl fun _ _ _ _ _ => rfl) (by decide +kernel) (by decide +kernel) (fun _ _ _ _ _ _ _ _ hr => (pe_clX x_either hr (takes_of rfl rfl rfl rfl) (by rfl) (pa_cons (pv 0) (pa_cons pe_str pa_nil)))) (want_hides cl _) fun G' sq Q E hw => ?_
    walk_at "r"
    exact usex_either (y := .sheet) (hbG _ sq) hw
  have d1 : DoesL P w K mg base cl (some .sheet) G f1 := by
    refine does_lam ["_law_bad_here"] [w0] (ext_lamAt z7 L7) ⟨lent_free L (by decide +kernel) (by decide +kernel) (i := 2) rfl rfl, trivial⟩ ⟨rfl, rfl, rfl, by decide +kernel⟩ (lamB1 "_law_a" (fun z => nomatch z) rfl fun _ _ _ _ _ _ => ⟨_, rfl, fun _ => rfl⟩) (by decide +kernel) (by decide +kernel) (fun _ _ _ _ _ _ _ _ hr => (pe_clX x_written hr (takes_of rfl rfl rfl rfl) (by rfl) (pa_cons (pv 0) pa_nil))) (want_hides cl _) fun G' sq Q E hw => ?_
    walk_at "r"
    exact usex_written (hbG _ sq) hw
  refine use_law_all (fs := fs ++ gs ++ [f0, f1]) (o := some .sheet) (y _ _ (s10 _ _ (by rw [e9, refs_app]; exact congrArg (fun l => some (HO.lst l)) (refs_app (fs ++ gs) [f0, f1])))) (by rw [List.length_append, List.length_append, l3, l4]; show 8 + 2 + 2 ≤ 100; decide) (fun f hf => ?_) (due_sheet (y _ _ e10)) fun H' s' => ?_
  · rcases List.mem_append.mp hf with hf | hf
    · rcases List.mem_append.mp hf with hf | hf
      · exact (d3 f hf).ext z3
      · exact (d4 f hf).ext z4
    · simp only [List.mem_cons, List.not_mem_nil, or_false] at hf
      rcases hf with rfl | rfl
      · exact d0
      · exact d1
  · exact q _ ((ext_same s1).trans ((ext_same s2).trans (x3.trans (x4.trans ((ext_same s5).trans (x6.trans (x7.trans ((ext_same s8).trans ((ext_same s9).trans ((ext_same s10).trans (ext_same (same_tak L s'))))))))))))
      (tabs_tak (tabs_same (tabs_same (tabs_same t7 s8) s9) s10) L s')
/-! ### tapes -/
theorem codes_int {sh : Sh} {t : List Nat} (h : sh.Codes t) {i : Nat} {c : Int} (e : (t.map fun c : Nat => (c : Int))[i]? = some c) : 0 ≤ c ∧ c < sh.n + 2 := by
  rw [List.getElem?_map] at e
  cases e2 : t[i]? with
  | none => rw [e2] at e; cases e
  | some d =>
    rw [e2] at e
    have := h d (List.mem_of_getElem? e2)
    have e := Option.some.inj e
    subst e
    constructor
    · exact Int.natCast_nonneg d
    · show (d : Int) < _
      omega
theorem badAt_mid {sh : Sh} {t : List Nat} {x : Int} {r : List Int} (hc : sh.Codes t) (hl : t.length ≤ 100) (hx : ¬ (0 ≤ x ∧ x < sh.n + 2)) : BadAt sh (t.map (fun c : Nat => (c : Int)) ++ x :: r) t.length := by
  refine ⟨by rw [List.length_append, List.length_map]; show _ < _ + (_ + 1); omega, hl, fun i hi c e => ?_, .inr fun c e => ?_⟩
  · rw [List.getElem?_append_left (by rw [List.length_map]; exact hi)] at e
    exact codes_int hc e
  · rw [List.getElem?_append_right (by rw [List.length_map]; omega), List.length_map, Nat.sub_self] at e
    cases e
    exact hx
theorem badAt_long {sh : Sh} {t : List Nat} (hc : sh.Codes t) (hl : t.length ≤ 100) : BadAt sh (t.map (fun c : Nat => (c : Int)) ++ List.replicate (101 - t.length) 0) 100 := by
  refine ⟨by rw [List.length_append, List.length_map, List.length_replicate]; omega, Nat.le_refl _, fun i hi c e => ?_, .inl rfl⟩
  rcases Nat.lt_or_ge i t.length with z | z
  · rw [List.getElem?_append_left (by rw [List.length_map]; exact z)] at e
    exact codes_int hc e
  · rw [List.getElem?_append_right (by rw [List.length_map]; exact z)] at e
    have := List.eq_of_mem_replicate (List.mem_of_getElem? e)
    rw [this]
    omega
theorem flat_rep {x : V} : ∀ n : Nat, (List.replicate n [x]).flatten = List.replicate n x
  | 0 => rfl
  | n + 1 => by
    rw [List.replicate_succ, List.flatten_cons, flat_rep n]
    rfl
theorem ints_map (t : List Nat) : tapeV t = (t.map fun c : Nat => (c : Int)).map V.int := tapeV_ints t
def spTapes (TTs : List (Addr × Str)) : Sp := fun vs H Q _ => ∃ (v u r : V) (sh : Sh) (t : List Nat), vs = [v, u, r] ∧ Box H v ∧ IsSh H u sh ∧ sh.Ok ∧ IsTape H r t ∧ sh.Codes t ∧ t.length ≤ 100 ∧ LamX.Tabs TTs H ∧ ∀ H', LamX.ExtN H H' → LamX.Tabs TTs H' → Q (.bl true) H'
theorem use_law_tapes {H : Hp} {Q : VK} {E : XK} {v u r : V} {sh : Sh} {t : List Nat} (hb : Box H v) (hu : IsSh H u sh) (ok : sh.Ok) (ht : IsTape H r t) (hc : sh.Codes t) (hl : t.length ≤ 100) (tb : LamX.Tabs TTs H) (q : ∀ H', LamX.ExtN H H' → LamX.Tabs TTs H' → Q (.bl true) H') : spTapes TTs [v, u, r] H Q E := ⟨v, u, r, sh, t, rfl, hb, hu, ok, ht, hc, hl, tb, q⟩
theorem ok__law_tapes {k : Nat} (T : TX mg) (F : Df K mg "_law_tapes" s__law_tapes ["_law_box", "_law_sheet_here", "_law_tape_here"]) (o__law_take : OkAt P w K mg base "_law_take" k ["_law_box", "_law_many"] spTake) (o__law_of_tapes : OkAt P w K mg base "_law_of_tapes" k ["_law_sheet_here", "_law_tape_here", "_law_begin", "_law_place"] (spOfTapes P w K mg base cl TTs))
    (o__law_all : OkAt P w K mg base "_law_all" k ["_law_works", "_law_due"] (spAll P w K mg base cl)) : OkAt P w K mg base "_law_tapes" (k + 1) ["_law_box", "_law_sheet_here", "_law_tape_here"] (spTapes TTs) := by
  refine F.ok sc__law_tapes (fun vs H Q E h => ?_) (fun f cdv A outer s H vs Q E hr h => ?_)
  · obtain ⟨v, u, r, sh, t, rfl, _⟩ := h
    rfl
  obtain ⟨v, u, r, sh, t, rfl, hb, hu, ok, ht, hc, hl, hT, q⟩ := h
  refine ⟨_, (pss_cons (ps_set (i := 3) sc__law_tapes.nd rfl (by first | exact Or.inl rfl | exact Or.inr rfl) (pe_callB (cr_len K) (by rfl) T.b_len (by decide +kernel) (pa_cons (pe_ix (ix_u K) (pv 1) pe_int (fun _ _ => rfl)) pa_nil))) (pss_cons (ps_set (i := 4) sc__law_tapes.nd rfl (by first | exact Or.inl rfl | exact Or.inr rfl) (pe_cl o__law_take hr (by rfl) (pa_cons (pv 0) (pa_cons (pe_op (op_uAdd K) (pe_callB (cr_len K) (by rfl) T.b_len (by decide +kernel) (pa_cons (pv 2) pa_nil)) pe_int) pa_nil)))) (pss_cons (ps_set (i := 5) sc__law_tapes.nd rfl (by first | exact Or.inl rfl | exact Or.inr rfl) (pe_ix (ix_u K) (pe_lstN (pa_cons (pe_un un_neg pe_int) (pa_cons (pe_op (op_uAdd K) (pv 3) pe_int) (pa_cons (pe_op (op_uAdd K) (pe_op (op_uAdd K) (pv 3) pe_int) (pe_cl o__law_take hr (by rfl) (pa_cons (pv 0) (pa_cons (pe_op op_uPow pe_int pe_int) pa_nil)))) (pa_cons (pe_op op_uSub (pe_un un_neg pe_int) (pe_cl o__law_take hr (by rfl) (pa_cons (pv 0) (pa_cons (pe_op op_uPow pe_int pe_int) pa_nil)))) pa_nil))))) (pe_cl o__law_take hr (by rfl) (pa_cons (pv 0) (pa_cons pe_int pa_nil))) (fun _ _ => rfl))) (pss_cons (ps_if (pt_not (pt_val (pe_cl o__law_all hr (by rfl) (pa_cons (pe_cl o__law_of_tapes hr (by rfl) (pa_cons (pv 1) (pa_cons (pe_op (op_uAdd K) (pe_op (op_uAdd K) (pe_slice (sl_u K) (pv 2) po_none (po_some (pv 4))) (pe_lstN (pa_cons (pv 5) pa_nil))) (pe_slice (sl_u K) (pv 2) (po_some (pv 4)) po_none)) (pa_cons pe_int (pa_cons (pe_un un_neg pe_int) pa_nil))))) (pa_cons (pe_tupN (pa_cons pe_str (pa_cons (pv 4) pa_nil))) pa_nil))))) (pss_one (ps_ret pe_bl)) pss_nil) (pss_cons (ps_set (i := 6) sc__law_tapes.nd rfl (by first | exact Or.inl rfl | exact Or.inr rfl) (pe_op (op_uAdd K) (pv 2) (pe_op op_uRepL (pe_lstN (pa_cons pe_int pa_nil)) (pe_op op_uSub pe_int (pe_callB (cr_len K) (by rfl) T.b_len (by decide +kernel) (pa_cons (pv 2) pa_nil)))))) (pss_one (ps_ret (pe_cl o__law_all hr (by rfl) (pa_cons (pe_cl o__law_of_tapes hr (by rfl) (pa_cons (pv 1) (pa_cons (pv 6) (pa_cons pe_int (pa_cons (pe_un un_neg pe_int) pa_nil))))) (pa_cons (pe_tupN (pa_cons pe_str (pa_cons pe_int pa_nil))) pa_nil)))))))))), ?_⟩
  obtain ⟨a, rfl, ha⟩ := id hu
  obtain ⟨b, rfl, htp⟩ := id ht
  have h26 := ok.most
  walk_at "r"
  refine r_lenS (by rw [len_mkS]; exact le_size (by omega)) ?_
  rw [len_mkS]
  walk_at "r"
  rw [tapeV_len]
  refine use_take hb (by omega) (by omega) fun at0 H1 hr1 s1 => ?_
  walk_at "r"
  refine use_take (same_box s1 hb) (by decide) (by decide) fun r2 H2 hr2 s2 => ?_
  walk_at "r"
  have s12 := s1.trans s2
  refine use_take (same_box s12 hb) (by decide) (by decide) fun r3 H3 hr3 s3 => ?_
  walk_at "r"
  intro p4 H4 n4 s4 e4
  walk_at "r"
  have s14 := (s12.trans s3).trans s4
  refine use_take (same_box s14 hb) (by decide) (by decide) fun r5 H5 hr5 s5 => ?_
  have s15 := s14.trans s5
  obtain ⟨z, hz, x, rfl, hx⟩ := pickN (Pd := fun z => ∃ x : Int, z = .int x ∧ ¬ (0 ≤ x ∧ x < sh.n + 2)) (j := r5) (xs := [.int (-1), .int ((sh.zero.length : Int) + 2), .int ((sh.zero.length : Int) + 2 + (r2 : Int)), .int (-1 - (r3 : Int))]) (by show r5 < 4; omega) (fun z hz => by
    have en : sh.n = sh.zero.length := rfl
    simp only [List.mem_cons, List.not_mem_nil, or_false] at hz
    rcases hz with rfl | rfl | rfl | rfl
    · exact ⟨_, rfl, by omega⟩
    · exact ⟨_, rfl, by omega⟩
    · exact ⟨_, rfl, by omega⟩
    · exact ⟨_, rfl, by omega⟩)
  refine r_ixL (s5 _ _ e4) hz ?_
  walk_at "r"
  have lat : at0 ≤ t.length := by omega
  have tl : (t.take at0).length = at0 := by rw [List.length_take]; omega
  refine r_slL (s15 _ _ htp) fun p6 H6 n6 s6 e6 => ?_
  rw [cut_to] at e6
  walk_at "r"
  intro p7 H7 n7 s7 e7
  walk_at "r"
  refine r_addL (s7 _ _ e6) e7 (by rw [List.length_take, tapeV_len]; exact le_size (by show _ + 1 ≤ _; omega)) fun p8 H8 n8 s8 e8 => ?_
  walk_at "r"
  refine r_slL (s8 _ _ (s7 _ _ (s6 _ _ (s15 _ _ htp)))) fun p9 H9 n9 s9 e9 => ?_
  rw [cut_from] at e9
  walk_at "r"
  refine r_addL (s9 _ _ e8) e9 (by rw [List.length_append, List.length_take, List.length_drop, tapeV_len]; exact le_size (by show _ + 1 + _ ≤ _; omega)) fun p10 H10 n10 s10 e10 => ?_
  walk_at "r"
  have s610 := ((((s6.trans s7).trans s8).trans s9).trans s10)
  have s110 := s15.trans s610
  have t10 := tabs_same hT s110
  have eI : H10 p10 = some (.lst (((t.take at0).map (fun c : Nat => (c : Int)) ++ x :: (t.drop at0).map (fun c : Nat => (c : Int))).map V.int)) := by
    rw [e10, List.map_append, List.map_cons, ← ints_map, ← ints_map]
    unfold tapeV
    rw [← List.map_take, ← List.map_drop]
    simp
  have bad1 : BadAt sh ((t.take at0).map (fun c : Nat => (c : Int)) ++ x :: (t.drop at0).map (fun c : Nat => (c : Int))) at0 := by
    have := badAt_mid (r := (t.drop at0).map (fun c : Nat => (c : Int))) (t := t.take at0) (fun c h => hc c (List.mem_of_mem_take h)) (by omega) hx
    rw [tl] at this
    exact this
  refine use_law_of_tapes (o := some (.tape at0)) ⟨sh, ⟨same_sh s110 hu, ok⟩, _, ⟨p10, rfl, eI⟩, bad1⟩ t10 fun p11 fs H11 x11 t11 e11 l11 d11 => ?_
  walk_at "r"
  intro p12 H12 n12 s12' e12
  walk_at "r"
  refine use_law_all (o := some (.tape at0)) (s12' _ _ e11) (by omega) (fun f hf => (d11 f hf).ext (ext_same s12')) (due_tape e12) fun H13 s13 => ?_
  walk_at "r"
  have z13 : LamX.ExtN H H13 := (ext_same s110).trans (x11.trans ((ext_same s12').trans (ext_same s13)))
  have t13 := tabs_same (tabs_same t11 s12') s13
  have h13 := ext_lst z13 htp
  intro p14 H14 n14 s14' e14
  walk_at "r"
  rw [tapeV_len]
  refine ⟨_, _, _, rfl, rfl, e14, by omega, by omega, ?_, fun p15 H15 n15 s15' e15 => ?_⟩
  · show 1 * _ ≤ _
    exact le_size (by omega)
  rw [flat_rep] at e15
  walk_at "r"
  refine r_addL (s15' _ _ (s14' _ _ h13)) e15 (by rw [List.length_replicate, tapeV_len]; exact le_size (by omega)) fun p16 H16 n16 s16 e16 => ?_
  walk_at "r"
  have z16 : LamX.ExtN H H16 := z13.trans ((ext_same s14').trans ((ext_same s15').trans (ext_same s16)))
  have t16 := tabs_same (tabs_same (tabs_same t13 s14') s15') s16
  have eJ : H16 p16 = some (.lst ((t.map (fun c : Nat => (c : Int)) ++ List.replicate (101 - t.length) 0).map V.int)) := by
    rw [e16, List.map_append, ← ints_map, List.map_replicate]
    rw [show ((101 : Int) - (t.length : Int)).toNat = 101 - t.length by omega]
  refine use_law_of_tapes (o := some (.tape 100)) ⟨sh, ⟨ext_sh z16 hu, ok⟩, _, ⟨p16, rfl, eJ⟩, badAt_long hc hl⟩ t16 fun p17 gs H17 x17 t17 e17 l17 d17 => ?_
  walk_at "r"
  intro p18 H18 n18 s18 e18
  walk_at "r"
  refine use_law_all (o := some (.tape 100)) (s18 _ _ e17) (by omega) (fun f hf => (d17 f hf).ext (ext_same s18)) (due_tape (n := 100) e18) fun H19 s19 => ?_
  exact q H19 (z16.trans (x17.trans ((ext_same s18).trans (ext_same s19)))) (tabs_same (tabs_same t17 s18) s19)

/-! ### texts that neither set can write -/
theorem badIn_mid {sh : Sh} {x : List Nat} {at0 : Nat} (ok : sh.Ok) (hc : sh.Can x) (hl : x.length ≤ 32) (ha : at0 ≤ x.length) : BadIn sh (x.take at0 ++ [10] ++ x.drop at0) at0 := by
  have tl : (x.take at0).length = at0 := by rw [List.length_take]; omega
  refine ⟨by rw [List.length_append, List.length_append, tl]; show _ < _ + 1 + _; omega, by omega, fun i hi c e => ?_, .inr fun c e => ?_⟩
  · rw [List.append_assoc, List.getElem?_append_left (by omega)] at e
    exact hc c (List.mem_of_mem_take (List.mem_of_getElem? e))
  · rw [List.append_assoc, List.getElem?_append_right (by omega), tl, Nat.sub_self] at e
    cases e
    rintro (z | z)
    · have := (ok.ok0 10 z).1
      omega
    · have := (ok.ok1 10 z).1
      omega
theorem badIn_long {sh : Sh} {x : List Nat} {c : Nat} (hc : sh.Can x) (hl : x.length ≤ 32) (h0 : c ∈ sh.zero) : BadIn sh (x ++ List.replicate (33 - x.length) c) 32 := by
  refine ⟨by rw [List.length_append, List.length_replicate]; omega, Nat.le_refl _, fun i hi d e => ?_, .inl rfl⟩
  rcases List.mem_append.mp (List.mem_of_getElem? e) with z | z
  · exact hc d z
  · rw [List.eq_of_mem_replicate z]
    exact .inl h0
theorem fold_rep {c : Nat} : ∀ (n : Nat) (a : Array Nat), ((List.replicate n #[c]).foldl (· ++ ·) a).toList = a.toList ++ List.replicate n c
  | 0, a => by simp
  | n + 1, a => by
    rw [List.replicate_succ, List.foldl_cons, fold_rep n, List.replicate_succ, Array.toList_append, List.append_assoc]
    rfl
theorem mul_one {c : Nat} {k : Int} (h : 1 ≤ k) : Txt.mul (mkS [c]) k = mkS (List.replicate k.toNat c) := by
  unfold Txt.mul
  rw [if_neg (by omega)]
  by_cases e : k = 1
  · rw [e]
    rfl
  · rw [if_neg (by rw [len_mkS]; show ¬ ((k == 1 || false) = true); rw [Bool.or_false, beq_iff_eq]; exact e)]
    refine TL.ext_tl ?_
    exact (fold_rep k.toNat #[]).trans rfl
/-- the list of all that is asked, told of all parts -/
theorem does_app {cl : Cl} {o : Option Why} {H : Hp} {a b : List Addr} (h1 : ∀ f ∈ a, DoesL P w K mg base cl o H f) (h2 : ∀ f ∈ b, DoesL P w K mg base cl o H f) : ∀ f ∈ a ++ b, DoesL P w K mg base cl o H f := fun f hf => by
  rcases List.mem_append.mp hf with z | z
  · exact h1 f z
  · exact h2 f z
theorem does_two {cl : Cl} {o : Option Why} {H : Hp} {f g : Addr} (h1 : DoesL P w K mg base cl o H f) (h2 : DoesL P w K mg base cl o H g) : ∀ x ∈ [f, g], DoesL P w K mg base cl o H x := fun x hx => by
  simp only [List.mem_cons, List.not_mem_nil, or_false] at hx
  rcases hx with rfl | rfl <;> assumption
theorem does_one {cl : Cl} {o : Option Why} {H : Hp} {f : Addr} (h1 : DoesL P w K mg base cl o H f) : ∀ x ∈ [f], DoesL P w K mg base cl o H x := fun x hx => by
  rw [List.mem_singleton.mp hx]
  exact h1
def spLaw (K : PySem.W.Frag) (TTs : List (Addr × Str)) : Sp := fun vs H Q E => ∃ (a : Addr) (ns : List Int), vs = [.ref a] ∧ (SqL K H a (ns.map V.int)) ∧ (ns.length ≤ 63) ∧ (LamX.Tabs TTs H) ∧ (∀ H', Q (.bl true) H')
theorem use_law {K : PySem.W.Frag} {TTs : List (Addr × Str)} {H : Hp} {Q : VK} {E : XK} {a : Addr} {ns : List Int} (ha : SqL K H a (ns.map V.int)) (hl : ns.length ≤ 63) (hT : LamX.Tabs TTs H) (q : ∀ H', Q (.bl true) H') : spLaw K TTs [.ref a] H Q E := ⟨a, ns, rfl, ha, hl, hT, q⟩

theorem cu_law : CellU (defScope s_law) := cellU_of (by decide +kernel)
theorem ok_law {k : Nat} {fl : Addr} {fd : FuncData} {PT : Addr} (T : TX mg) (F : FnT mg K base "law" s_law fl fd PT) (hm : (PT, (Str.ofString "law" ++ ".<locals>.") ++ "<lambda>") ∈ TTs) (hu : ∀ p ∈ TTs, p.1 = PT → p.2 = (Str.ofString "law" ++ ".<locals>.") ++ "<lambda>")
    (o__law_begun : OkAt P w K mg base "_law_begun" k ["_law_script"] (spBegun K)) (o__law_take : OkAt P w K mg base "_law_take" k ["_law_box", "_law_many"] spTake) (o__law_sheet : OkAt P w K mg base "_law_sheet" k ["_law_box", "_law_most"] spSheet) (o__law_text : OkAt P w K mg base "_law_text" k ["_law_box", "_law_sheet_here", "_law_most"] spLawText)
    (o__law_sheets : OkAt P w K mg base "_law_sheets" k ["_law_box", "_law_sheet_here"] (spSheets TTs)) (o__law_tapes : OkAt P w K mg base "_law_tapes" k ["_law_box", "_law_sheet_here", "_law_tape_here"] (spTapes TTs)) (o__law_of_tapes : OkAt P w K mg base "_law_of_tapes" k ["_law_sheet_here", "_law_tape_here", "_law_begin", "_law_place"] (spOfTapes P w K mg base cl TTs)) (o__law_of_texts : OkAt P w K mg base "_law_of_texts" k ["_law_sheet_here", "_law_text_here", "_law_begin", "_law_most"] (spOfTexts P w K mg base cl TTs))
    (o__law_all : OkAt P w K mg base "_law_all" k ["_law_works", "_law_due"] (spAll P w K mg base cl)) (x_either : OkX P w K mg base "either" LJ ["sheet", "text"] (spxEither cl)) (o_cut : OkAt P w K mg base "cut" LJ ["sheet", "tape", "begin", "place"] spCut) (x_cut : OkX P w K mg base "cut" LJ ["sheet", "tape", "begin", "place"] (spxCut cl)) (o_is_guarded : OkAt P w K mg base "is_guarded" LJ ["sheet", "tape", "begin", "most"] spIsGuarded) (x_is_guarded : OkX P w K mg base "is_guarded" LJ ["sheet", "tape", "begin", "most"] (spxIsGuarded cl)) (o_guarded : OkAt P w K mg base "guarded" LJ ["sheet", "text", "begin", "most"] spGuarded) (x_guarded : OkX P w K mg base "guarded" LJ ["sheet", "text", "begin", "most"] (spxGuarded cl)) : FnOk P w K mg base CX0 (k + 1) fl fd ["_law_script"] (spLaw K TTs) := by
  refine F.ok sc_law (fun vs H Q E h => ?_) (fun f c A outer s H vs Q E TB hr h => ?_)
  · obtain ⟨a, ns, rfl, _⟩ := h
    rfl
  obtain ⟨a, ns, rfl, ha, hl, hT, q⟩ := h
  refine ⟨_, (pss_cons (ps_set (i := 1) sc_law.nd rfl (by first | exact Or.inl rfl | exact Or.inr rfl) (pe_cl o__law_begun hr (by rfl) (pa_cons (pv 0) pa_nil))) (pss_cons (ps_set (i := 2) sc_law.nd rfl (by first | exact Or.inl rfl | exact Or.inr rfl) (pe_cl o__law_sheet hr (by rfl) (pa_cons (pv 1) (pa_cons pe_int pa_nil)))) (pss_cons (ps_set (i := 3) sc_law.nd rfl (by first | exact Or.inl rfl | exact Or.inr rfl) (pe_callB (cr_len K) (by rfl) T.b_len (by decide +kernel) (pa_cons (pe_ix (ix_u K) (pv 2) pe_int (fun _ _ => rfl)) pa_nil))) (pss_cons (ps_set (i := 4) sc_law.nd rfl (by first | exact Or.inl rfl | exact Or.inr rfl) (pe_slice (sl_u K) (pe_lc (own := [("_law_turn", 5)]) (g := gName 5) (tt := tYes) rfl sc_law.nd (pi_range1 (by rfl) T.b_range (pa_cons pe_int pa_nil)) (blkOk_by (own := [("_law_turn", 5)]) (N := ["_law_script", "_law_box", "_law_sheet_here", "_law_n", "_law_tape_here", "_law_turn", "_law_text_here", "_law_at", "_law_texts", "_law_wide", "_law_begin", "_law_far", "_law_works"]) (sc := defScope s_law) (by decide +kernel)) (fun _ _ _ _ _ => (pg_name (i := 5) sc_law.nd rfl (by first | exact Or.inl rfl | exact Or.inr rfl))) (fun _ _ _ _ _ => pts_nil) (fun _ _ _ _ _ => (pe_cl o__law_take hr (by rfl) (pa_cons (pv 1) (pa_cons (pe_op (op_uAdd K) (pv 3) pe_int) pa_nil))))) po_none (po_some (pe_ix (ix_u K) (pe_lstN (pa_cons pe_int (pa_cons (pe_cl o__law_take hr (by rfl) (pa_cons (pv 1) (pa_cons pe_int pa_nil))) pa_nil))) (pe_cl o__law_take hr (by rfl) (pa_cons (pv 1) (pa_cons pe_int pa_nil))) (fun _ _ => rfl))))) (pss_cons (ps_if (PW.pt (pw_or (pt_not (pt_val (pe_cl o__law_sheets hr (by rfl) (pa_cons (pv 1) (pa_cons (pv 2) pa_nil))))) (pw_or1 (pt_not (pt_val (pe_cl o__law_tapes hr (by rfl) (pa_cons (pv 1) (pa_cons (pv 2) (pa_cons (pv 4) pa_nil))))))))) (pss_one (ps_ret pe_bl)) pss_nil) (pss_cons (ps_set (i := 6) sc_law.nd rfl (by first | exact Or.inl rfl | exact Or.inr rfl) (pe_cl o__law_text hr (by rfl) (pa_cons (pv 1) (pa_cons (pv 2) (pa_cons pe_int pa_nil))))) (pss_cons (ps_set (i := 7) sc_law.nd rfl (by first | exact Or.inl rfl | exact Or.inr rfl) (pe_cl o__law_take hr (by rfl) (pa_cons (pv 1) (pa_cons (pe_op (op_uAdd K) (pe_callB (cr_len K) (by rfl) T.b_len (by decide +kernel) (pa_cons (pv 6) pa_nil)) pe_int) pa_nil)))) (pss_cons (ps_set (i := 8) sc_law.nd rfl (by first | exact Or.inl rfl | exact Or.inr rfl) (pe_cl o__law_of_texts hr (by rfl) (pa_cons (pv 2) (pa_cons (pe_op (op_uAdd K) (pe_op (op_uAdd K) (pe_slice (sl_u K) (pv 6) po_none (po_some (pv 7))) pe_str) (pe_slice (sl_u K) (pv 6) (po_some (pv 7)) po_none)) (pa_cons pe_int (pa_cons (pe_un un_neg pe_int) pa_nil)))))) (pss_cons (ps_if (pt_not (pt_val (pe_clL o__law_all hr (by rfl) (fun _ => rfl) rfl (fun _ _ e => cells_kind cu_law e) (pa_cons (pe_op (op_uAdd K) (pv 8) (pe_lstN (pa_cons (pe_lamV0 TB rfl hm hu (free_s (sc := defScope s_law) rfl (by decide +kernel)) (by rfl) (by rfl)) pa_nil))) (pa_cons (pe_tupN (pa_cons pe_str (pa_cons (pv 7) pa_nil))) pa_nil))))) (pss_one (ps_ret pe_bl)) pss_nil) (pss_cons (ps_set (i := 9) sc_law.nd rfl (by first | exact Or.inl rfl | exact Or.inr rfl) (pe_op (op_uAdd K) (pv 6) (pe_op op_uRepS (pe_slice (sl_u K) (pe_ix (ix_u K) (pv 2) pe_int (fun _ _ => rfl)) po_none (po_some pe_int)) (pe_op op_uSub pe_int (pe_callB (cr_len K) (by rfl) T.b_len (by decide +kernel) (pa_cons (pv 6) pa_nil)))))) (pss_cons (ps_if (pt_not (pt_val (pe_clL o__law_all hr (by rfl) (fun _ => rfl) rfl (fun _ _ e => cells_kind cu_law e) (pa_cons (pe_op (op_uAdd K) (pe_cl o__law_of_texts hr (by rfl) (pa_cons (pv 2) (pa_cons (pv 9) (pa_cons pe_int (pa_cons (pe_un un_neg pe_int) pa_nil))))) (pe_lstN (pa_cons (pe_lamV0 TB rfl hm hu (free_s (sc := defScope s_law) rfl (by decide +kernel)) (by rfl) (by rfl)) pa_nil))) (pa_cons (pe_tupN (pa_cons pe_str (pa_cons pe_int pa_nil))) pa_nil))))) (pss_one (ps_ret pe_bl)) pss_nil) (pss_cons (ps_set (i := 10) sc_law.nd rfl (by first | exact Or.inl rfl | exact Or.inr rfl) (pe_ix (ix_u K) (pe_lstN (pa_cons pe_int (pa_cons (pe_un un_neg pe_int) (pa_cons (pe_op (op_uAdd K) pe_int (pe_cl o__law_take hr (by rfl) (pa_cons (pv 1) (pa_cons (pe_op op_uPow pe_int pe_int) pa_nil)))) pa_nil)))) (pe_cl o__law_take hr (by rfl) (pa_cons (pv 1) (pa_cons pe_int pa_nil))) (fun _ _ => rfl))) (pss_cons (ps_if (pt_not (pt_val (pe_clL o__law_all hr (by rfl) (fun _ => rfl) rfl (fun _ _ e => cells_kind cu_law e) (pa_cons (pe_op (op_uAdd K) (pe_cl o__law_of_tapes hr (by rfl) (pa_cons (pv 2) (pa_cons (pv 4) (pa_cons (pv 10) (pa_cons (pe_un un_neg pe_int) pa_nil))))) (pe_cl o__law_of_texts hr (by rfl) (pa_cons (pv 2) (pa_cons (pv 6) (pa_cons (pv 10) (pa_cons (pe_un un_neg pe_int) pa_nil)))))) (pa_cons (pe_tupN (pa_cons pe_str (pa_cons pe_int pa_nil))) pa_nil))))) (pss_one (ps_ret pe_bl)) pss_nil) (pss_cons (ps_set (i := 11) sc_law.nd rfl (by first | exact Or.inl rfl | exact Or.inr rfl) (pe_ix (ix_u K) (pe_lstN (pa_cons (pe_un un_neg pe_int) (pa_cons (pe_op (op_uAdd K) pe_int (pe_cl o__law_take hr (by rfl) (pa_cons (pv 1) (pa_cons (pe_op op_uPow pe_int pe_int) pa_nil)))) (pa_cons (pe_op (op_uAdd K) (pe_callB (cr_len K) (by rfl) T.b_len (by decide +kernel) (pa_cons (pv 4) pa_nil)) pe_int) pa_nil)))) (pe_cl o__law_take hr (by rfl) (pa_cons (pv 1) (pa_cons pe_int pa_nil))) (fun _ _ => rfl))) (pss_cons (ps_set (i := 12) sc_law.nd rfl (by first | exact Or.inl rfl | exact Or.inr rfl) (pe_lstN (pa_cons (pe_lamV0 TB rfl hm hu (free_s (sc := defScope s_law) rfl (by decide +kernel)) (by rfl) (by rfl)) (pa_cons (pe_lamV1 TB rfl hm hu (free_s (sc := defScope s_law) rfl (by decide +kernel)) (by rfl) (by rfl)) pa_nil)))) (pss_cons (ps_if (pt_not (pt_val (pe_clL o__law_all hr (by rfl) (fun _ => rfl) rfl (fun _ _ e => cells_kind cu_law e) (pa_cons (pe_op (op_uAdd K) (pv 12) (pe_lstN (pa_cons (pe_lamV1 TB rfl hm hu (free_s (sc := defScope s_law) rfl (by decide +kernel)) (by rfl) (by rfl)) pa_nil))) (pa_cons (pe_tupN (pa_cons pe_str (pa_cons pe_int pa_nil))) pa_nil))))) (pss_one (ps_ret pe_bl)) pss_nil) (pss_one (ps_ret (pe_clL o__law_all hr (by rfl) (fun _ => rfl) rfl (fun _ _ e => cells_kind cu_law e) (pa_cons (pe_op (op_uAdd K) (pe_cl o__law_of_tapes hr (by rfl) (pa_cons (pv 2) (pa_cons (pv 4) (pa_cons pe_int (pa_cons pe_int pa_nil))))) (pe_cl o__law_of_texts hr (by rfl) (pa_cons (pv 2) (pa_cons (pe_slice (sl_u K) (pv 6) po_none (po_some pe_int)) (pa_cons pe_int (pa_cons pe_int pa_nil)))))) (pa_cons pe_non pa_nil))))))))))))))))))))), ?_⟩
  walk_at "r"
  refine use_begun ha hl fun bx H1 s1 hb => ?_
  walk_at "r"
  refine use_sheet hb (by decide) (by decide) fun v sh H2 s2 hv ok hn => ?_
  obtain ⟨va, rfl, hva⟩ := id hv
  have h26 := ok.most
  have h1 := ok.pos
  have hlo := ok.len
  walk_at "r"
  refine r_lenS (by rw [len_mkS]; exact le_size (by omega)) ?_
  rw [len_mkS]
  walk_at "r"
  have hT2 := tabs_same hT (s1.trans s2)
  have hb2 := same_box s2 hb
  refine c_range1G (by decide) (by decide) (fun D i H' => ∃ t : List Nat, sh.Codes t ∧ t.length = i ∧ Same H2 H' ∧ H' D = some (.lst (tapeV t))) (fun D H3 nD s3 e3 => ⟨[], (fun c hc => nomatch hc), rfl, s3, e3⟩) ?_ ?_
  · rintro D i H3 hi nD ⟨t, hc, hlt, s3, e3⟩
    walk_at "r"
    refine ⟨rfl, ?_⟩
    walk_at "r"
    refine use_take (same_box s3 hb2) (by omega) (by omega) fun r4 H4 hr4 s4 => ?_
    refine ⟨_, s4 _ _ e3, by rw [tapeV_len]; exact lt_size (by omega), t ++ [r4], ?_, by rw [List.length_append, hlt]; rfl, (but_upd (o := .lst (tapeV t ++ [.int (r4 : Nat)]))).same (s3.trans s4) nD, ?_⟩
    · intro d hd
      rcases List.mem_append.mp hd with z | z
      · exact hc d z
      · rw [List.mem_singleton.mp z]
        unfold Sh.n
        omega
    · rw [upd_same, ← tapeV_app]
      rfl
  · rintro D H3 nD ⟨t0, hc0, hl0, s3, e3⟩
    walk_at "r"
    refine use_take (same_box s3 hb2) (by decide) (by decide) fun r4 H4 hr4 s4 => ?_
    walk_at "r"
    intro p5 H5 n5 s5 e5
    walk_at "r"
    have s25 := (s3.trans s4).trans s5
    refine use_take (same_box s25 hb2) (by decide) (by decide) fun r6 H6 hr6 s6 => ?_
    have s26 := s25.trans s6
    obtain ⟨m, hm6, hm100⟩ := pick_nat (ns := [100, r4]) (m := 100) (j := r6) (by show r6 < 2; omega) (fun n hn => by
      simp only [List.mem_cons, List.not_mem_nil, or_false] at hn
      rcases hn with rfl | rfl <;> omega)
    refine r_ixL (s6 _ _ e5) hm6 ?_
    walk_at "r"
    have eD := s6 _ _ (s5 _ _ (s4 _ _ e3))
    refine r_slL eD fun pt H7 n7 s7 e7 => ?_
    rw [cut_to] at e7
    have e7 : H7 pt = some (.lst (tapeV (t0.take m))) := by
      rw [e7]
      unfold tapeV
      rw [List.map_take]
    have hc : sh.Codes (t0.take m) := fun c h => hc0 c (List.mem_of_mem_take h)
    have hlt : (t0.take m).length ≤ 100 := by rw [List.length_take]; omega
    generalize t0.take m = t at *
    walk_at "r"
    have s27 := s26.trans s7
    have hv7 := same_sh s27 hv
    have hb7 := same_box s27 hb2
    have hT7 := tabs_same hT2 s27
    clear e5 eD e3 s25 s26 hm6 hm100
    refine use_law_sheets hb7 hv7 ok hT7 fun H8 x8 t8 => ?_
    walk_at "r"
    refine use_law_tapes (ext_box x8 hb7) (ext_sh x8 hv7) ok ⟨pt, rfl, ext_lst x8 e7⟩ hc hlt t8 fun H9 x9 t9 => ?_
    have x79 := x8.trans x9
    have hb9 := ext_box x79 hb7
    have hv9 := ext_sh x79 hv7
    have e9 := ext_lst x79 e7
    clear x8 x9 x79 hv7 hb7 hT7 t8 e7 hv hb hb2 hT hT2 s27
    walk_at "r"
    refine use_law_text (m := 32) hb9 hv9 ok (by decide) fun x H10 s10 hcan hxl => ?_
    walk_at "r"
    refine r_lenS (by rw [len_mkS]; exact le_size (by omega)) ?_
    rw [len_mkS]
    walk_at "r"
    refine use_take (same_box s10 hb9) (by omega) (by omega) fun at0 H11 hr11 s11 => ?_
    walk_at "r"
    have hat : at0 ≤ x.length := by omega
    have hbx := badIn_mid ok hcan hxl hat
    have hlx : (x.take at0 ++ [10] ++ x.drop at0).length ≤ 1000 := by
      rw [List.length_append, List.length_append, List.length_take, List.length_drop]
      show _ + 1 + _ ≤ _
      omega
    have hbX : BadX (.str (mkS (x.take at0 ++ [10] ++ x.drop at0))) sh at0 := ⟨_, rfl, hlx, hbx⟩
    have s911 := s10.trans s11
    have hb11 := same_box s911 hb9
    have hv11 := same_sh s911 hv9
    have e11 := s911 _ _ e9
    have t11 := tabs_same t9 s911
    clear hb9 hv9 e9 t9 s10 s11 s911
    refine r_slS (by rw [len_mkS]; exact le_size (by omega)) ?_
    rw [cutS_to, nlS]
    walk_at "r"
    refine r_addS (by rw [len_mkS, len_mkS, List.length_take]; exact le_size (by show _ + 1 ≤ _; omega)) ?_
    rw [mkS_app]
    walk_at "r"
    refine r_slS (by rw [len_mkS]; exact le_size (by omega)) ?_
    rw [cutS_from]
    walk_at "r"
    refine r_addS (by rw [len_mkS, len_mkS, List.length_append, List.length_take, List.length_drop]; exact le_size (by show _ + 1 + _ ≤ _; omega)) ?_
    rw [mkS_app]
    walk_at "r"
    refine use_law_of_texts (o := some (.sign at0)) ⟨sh, ⟨hv11, ok⟩, hbX⟩ t11 fun p12 fs H12 x12 t12 e12 l12 d12 => ?_
    walk_at "r"
    refine r_lamV t12 fun f0 H13 n13 x13 t13 L0 => ?_
    walk_at "r"
    intro p14 H14 n14 s14 e14
    walk_at "r"
    refine r_addL (s14 _ _ (ext_lst x13 e12)) e14 (by rw [List.length_map, l12]; exact le_size (by show 3 ≤ _; omega)) fun p15 H15 n15 s15 e15 => ?_
    walk_at "r"
    intro p16 H16 n16 s16 e16
    walk_at "r"
    intro G L
    have y := L.same
    have z13 := (ext_same s14).trans ((ext_same s15).trans ((ext_same s16).trans (ext_same y)))
    have z12 := x13.trans z13
    have z11 := x12.trans z12
    have dE : DoesL P w K mg base cl (some (.sign at0)) G f0 := by
      refine does_lam ["_law_sheet_here", "_law_text_here", "_law_at"] [.ref va, .str (mkS x), .int (at0 : Nat)] (ext_lamAt z13 L0) ⟨lent_free L (by decide +kernel) (by decide +kernel) (i := 2) rfl rfl, lent_free L (by decide +kernel) (by decide +kernel) (i := 6) rfl rfl, lent_free L (by decide +kernel) (by decide +kernel) (i := 7) rfl rfl, trivial⟩ ⟨rfl, rfl, rfl, by decide +kernel⟩ (lamB0 rfl fun _ _ _ _ _ => rfl) (by decide +kernel) (by decide +kernel) (fun _ _ _ _ _ _ _ _ hr => (pe_clX x_either hr (takes_of rfl rfl rfl rfl) (by rfl) (pa_cons (pv 0) (pa_cons (pe_op (op_uAdd K) (pe_op (op_uAdd K) (pe_slice (sl_u K) (pv 1) po_none (po_some (pv 2))) pe_str) (pe_slice (sl_u K) (pv 1) (po_some (pv 2)) po_none)) pa_nil)))) (want_hides cl _) fun G' sq Q E hw => ?_
      walk_at "r"
      refine r_slS (by rw [len_mkS]; exact le_size (by omega)) ?_
      rw [cutS_to]
      walk_at "r"
      refine r_addS (by rw [len_mkS, len_mkS, List.length_take]; exact le_size (by show _ + 1 ≤ _; omega)) ?_
      rw [mkS_app]
      walk_at "r"
      refine r_slS (by rw [len_mkS]; exact le_size (by omega)) ?_
      rw [cutS_from]
      walk_at "r"
      refine r_addS (by rw [len_mkS, len_mkS, List.length_append, List.length_take, List.length_drop]; exact le_size (by show _ + 1 + _ ≤ _; omega)) ?_
      rw [mkS_app]
      walk_at "r"
      exact usex_either (y := .sign at0) ⟨sh, GoodSh.seqs ⟨hv11, ok⟩ ((Seqs.of_ext z11).trans sq), hbX⟩ hw
    refine use_law_all (fs := fs ++ [f0]) (o := some (.sign at0)) (y _ _ (s16 _ _ (by rw [e15]; exact congrArg (fun l => some (HO.lst l)) (refs_app fs [f0])))) (by rw [List.length_append, l12]; show 2 + 1 ≤ 100; decide) (does_app (fun f hf => (d12 f hf).ext z12) (does_one dE)) (due_sign (y _ _ e16)) fun H17 s17 => ?_
    have x17 : LamX.ExtN H11 (takC _ H17) := x12.trans (x13.trans ((ext_same s14).trans ((ext_same s15).trans ((ext_same s16).trans (ext_same (same_tak L s17))))))
    have t17 := tabs_tak (tabs_same (tabs_same (tabs_same t13 s14) s15) s16) L s17
    generalize takC _ H17 = H17 at x17 t17 ⊢
    have hb17 := ext_box x17 hb11
    have hv17 := ext_sh x17 hv11
    have e17 := ext_lst x17 e11
    clear dE z11 z12 z13 y L e16 s16 e15 s15 e14 s14 L0 t13 x13 d12 e12 t12 x12 x17 hb11 hv11 e11 t11
    obtain ⟨va', eva, hva17⟩ := id hv17
    cases eva
    obtain ⟨c0, z0, ez0⟩ : ∃ c z, sh.zero = c :: z := by
      cases e : sh.zero with
      | nil => rw [e] at h1; exact absurd h1 (by decide)
      | cons c z => exact ⟨c, z, rfl⟩
    walk_at "r"
    refine r_slS (by rw [len_mkS]; exact le_size (by omega)) ?_
    rw [cutS_1]
    walk_at "r"
    refine r_lenS (by rw [len_mkS]; exact le_size (by omega)) ?_
    rw [len_mkS]
    walk_at "r"
    refine ⟨_, _, rfl, rfl, by rw [len_mkS, List.length_take]; omega, by omega, by omega, ?_⟩
    have e1 : Txt.mul (mkS (sh.zero.take 1)) (33 - (x.length : Int)) = mkS (List.replicate (33 - x.length) c0) := by
      rw [ez0]
      show Txt.mul (mkS [c0]) _ = _
      rw [mul_one (by omega), show (33 - (x.length : Int)).toNat = 33 - x.length by omega]
    rw [e1]
    refine r_addS (by rw [len_mkS, len_mkS, List.length_replicate]; exact le_size (by omega)) ?_
    rw [mkS_app]
    walk_at "r"
    have hbY : BadX (.str (mkS (x ++ List.replicate (33 - x.length) c0))) sh 32 := ⟨_, rfl, by rw [List.length_append, List.length_replicate]; omega, badIn_long hcan hxl (by rw [ez0]; exact List.mem_cons_self)⟩
    clear e1 ez0
    refine use_law_of_texts (o := some (.sign 32)) ⟨sh, ⟨hv17, ok⟩, hbY⟩ t17 fun p18 gs H18 x18 t18 e18 l18 d18 => ?_
    walk_at "r"
    refine r_lamV t18 fun f1 H19 n19 x19 t19 L1 => ?_
    walk_at "r"
    intro p20 H20 n20 s20 e20
    walk_at "r"
    refine r_addL (s20 _ _ (ext_lst x19 e18)) e20 (by rw [List.length_map, l18]; exact le_size (by show 3 ≤ _; omega)) fun p21 H21 n21 s21 e21 => ?_
    walk_at "r"
    intro p22 H22 n22 s22 e22
    walk_at "r"
    intro G L
    have y := L.same
    have z19 := (ext_same s20).trans ((ext_same s21).trans ((ext_same s22).trans (ext_same y)))
    have z18 := x19.trans z19
    have z17 := x18.trans z18
    have dF : DoesL P w K mg base cl (some (.sign 32)) G f1 := by
      refine does_lam ["_law_sheet_here", "_law_wide"] [.ref va, (.str (mkS (x ++ List.replicate (33 - x.length) c0)))] (ext_lamAt z19 L1) ⟨lent_free L (by decide +kernel) (by decide +kernel) (i := 2) rfl rfl, lent_free L (by decide +kernel) (by decide +kernel) (i := 9) rfl rfl, trivial⟩ ⟨rfl, rfl, rfl, by decide +kernel⟩ (lamB0 rfl fun _ _ _ _ _ => rfl) (by decide +kernel) (by decide +kernel) (fun _ _ _ _ _ _ _ _ hr => (pe_clX x_either hr (takes_of rfl rfl rfl rfl) (by rfl) (pa_cons (pv 0) (pa_cons (pv 1) pa_nil)))) (want_hides cl _) fun G' sq Q E hw => ?_
      walk_at "r"
      exact usex_either (y := .sign 32) ⟨sh, GoodSh.seqs ⟨hv17, ok⟩ ((Seqs.of_ext z17).trans sq), hbY⟩ hw
    refine use_law_all (fs := gs ++ [f1]) (o := some (.sign 32)) (y _ _ (s22 _ _ (by rw [e21]; exact congrArg (fun l => some (HO.lst l)) (refs_app gs [f1])))) (by rw [List.length_append, l18]; show 2 + 1 ≤ 100; decide) (does_app (fun f hf => (d18 f hf).ext z18) (does_one dF)) (due_sign (n := 32) (y _ _ e22)) fun H23 s23 => ?_
    have x23 : LamX.ExtN H17 (takC _ H23) := x18.trans (x19.trans ((ext_same s20).trans ((ext_same s21).trans ((ext_same s22).trans (ext_same (same_tak L s23))))))
    have t23 := tabs_tak (tabs_same (tabs_same (tabs_same t19 s20) s21) s22) L s23
    generalize takC _ H23 = H23 at x23 t23 ⊢
    have hb23 := ext_box x23 hb17
    have hv23 := ext_sh x23 hv17
    have e23 := ext_lst x23 e17
    clear dF z17 z18 z19 y L e22 s22 e21 s21 e20 s20 L1 t19 x19 d18 e18 t18 x18 x23 hb17 hv17 hva17 e17 t17
    walk_at "r"
    refine use_take hb23 (by decide) (by decide) fun r24 H24 hr24 s24 => ?_
    walk_at "r"
    intro p25 H25 n25 s25 e25
    walk_at "r"
    have s2325 := s24.trans s25
    refine use_take (same_box s2325 hb23) (by decide) (by decide) fun r26 H26 hr26 s26 => ?_
    have s2326 := s2325.trans s26
    obtain ⟨zb, hzb, hbN⟩ := pickN (Pd := fun z => BadN z) (j := r26) (xs := [.int 2, .int (-1), .int (2 + (r24 : Int))]) (by show r26 < 3; omega) (fun z hz => by
      simp only [List.mem_cons, List.not_mem_nil, or_false] at hz
      rcases hz with rfl | rfl | rfl
      · exact ⟨_, rfl, by decide, by decide⟩
      · exact ⟨_, rfl, by decide, by decide⟩
      · exact ⟨_, rfl, by omega, by omega⟩)
    refine r_ixL (s26 _ _ e25) hzb ?_
    have hb26 := same_box s2326 hb23
    have hv26 := same_sh s2326 hv23
    have e26 := s2326 _ _ e23
    have t26 := tabs_same t23 s2326
    clear s24 s25 s26 s2325 s2326 e25 hb23 hv23 e23 t23 hzb
    walk_at "r"
    have gT : ∀ {G : Hp}, IsSh G (.ref va) sh → G pt = some (.lst (tapeV t)) → ∃ sh, GoodSh G (.ref va) sh ∧ GoodT G (.ref pt) sh := fun h e => ⟨sh, ⟨h, ok⟩, t, ⟨pt, rfl, e⟩, hc, hlt⟩
    have gX : ∀ {G : Hp}, IsSh G (.ref va) sh → ∃ sh, GoodSh G (.ref va) sh ∧ GoodX (.str (mkS x)) sh 32 := fun h => ⟨sh, ⟨h, ok⟩, x, rfl, hcan, hxl⟩
    refine use_law_of_tapes (o := some .set) ⟨gT hv26 e26, hbN⟩ t26 fun p27 fs2 H27 x27 t27 e27 l27 d27 => ?_
    walk_at "r"
    refine use_law_of_texts (o := some .set) ⟨gX (ext_sh x27 hv26), hbN⟩ t27 fun p28 gs2 H28 x28 t28 e28 l28 d28 => ?_
    walk_at "r"
    refine r_addL (ext_lst x28 e27) e28 (by rw [List.length_map, List.length_map, l27, l28]; exact le_size (by decide)) fun p29 H29 n29 s29 e29 => ?_
    walk_at "r"
    intro p30 H30 n30 s30 e30
    walk_at "r"
    intro G L
    have y := L.same
    have z28 := (ext_same s29).trans ((ext_same s30).trans (ext_same y))
    refine use_law_all (fs := fs2 ++ gs2) (o := some .set) (y _ _ (s30 _ _ (by rw [e29]; exact congrArg (fun l => some (HO.lst l)) (refs_app fs2 gs2)))) (by rw [List.length_append, l27, l28]; decide) (does_app (fun f hf => (d27 f hf).ext (x28.trans z28)) (fun f hf => (d28 f hf).ext z28)) (due_set (y _ _ e30)) fun H31 s31 => ?_
    have x31 : LamX.ExtN H26 (takC _ H31) := x27.trans (x28.trans ((ext_same s29).trans ((ext_same s30).trans (ext_same (same_tak L s31)))))
    have t31 := tabs_tak (tabs_same (tabs_same t28 s29) s30) L s31
    generalize takC _ H31 = H31 at x31 t31 ⊢
    have hb31 := ext_box x31 hb26
    have hv31 := ext_sh x31 hv26
    have e31 := ext_lst x31 e26
    clear z28 y L e30 s30 e29 s29 d28 e28 t28 x28 d27 e27 t27 x27 x31 hb26 hv26 e26 t26
    walk_at "r"
    refine use_take hb31 (by decide) (by decide) fun r32 H32 hr32 s32 => ?_
    walk_at "r"
    have e32 := s32 _ _ e31
    rw [tapeV_len]
    intro p33 H33 n33 s33 e33
    walk_at "r"
    have s3133 := s32.trans s33
    refine use_take (same_box s3133 hb31) (by decide) (by decide) fun r34 H34 hr34 s34 => ?_
    have s3134 := s3133.trans s34
    obtain ⟨zf, hzf, nf, rfl, hnf⟩ := pickN (Pd := fun z => ∃ n : Int, z = .int n ∧ (n < 0 ∨ 32 < n ∧ (t.length : Int) < n)) (j := r34) (xs := [.int (-1), .int (101 + (r32 : Int)), .int ((t.length : Int) + 33)]) (by show r34 < 3; omega) (fun z hz => by
      simp only [List.mem_cons, List.not_mem_nil, or_false] at hz
      rcases hz with rfl | rfl | rfl
      · exact ⟨_, rfl, .inl (by decide)⟩
      · exact ⟨_, rfl, .inr ⟨by omega, by omega⟩⟩
      · exact ⟨_, rfl, .inr ⟨by omega, by omega⟩⟩)
    refine r_ixL (s34 _ _ e33) hzf ?_
    have hb34 := same_box s3134 hb31
    have hv34 := same_sh s3134 hv31
    have e34 := s3134 _ _ e31
    have t34 := tabs_same t31 s3134
    clear s32 s33 s34 s3133 s3134 e33 e32 hb31 hv31 e31 t31 hzf
    walk_at "r"
    refine r_lamV t34 fun f2 H35 n35 x35 t35 L2 => ?_
    walk_at "r"
    refine r_lamV t35 fun f3 H36 n36 x36 t36 L3 => ?_
    walk_at "r"
    intro p37 H37 n37 s37 e37
    walk_at "r"
    have t37 := tabs_same t36 s37
    refine r_lamV t37 fun f4 H38 n38 x38 t38 L4 => ?_
    walk_at "r"
    intro p39 H39 n39 s39 e39
    walk_at "r"
    refine r_addL (s39 _ _ (ext_lst x38 e37)) e39 (le_size (by show 3 ≤ 100000; decide)) fun p40 H40 n40 s40 e40 => ?_
    walk_at "r"
    intro p41 H41 n41 s41 e41
    walk_at "r"
    intro G L
    have y := L.same
    have z38 := (ext_same s39).trans ((ext_same s40).trans ((ext_same s41).trans (ext_same y)))
    have z36 := (ext_same s37).trans (x38.trans z38)
    have z35 := x36.trans z36
    have z34 := x35.trans z35
    have hvG := ext_sh z34 hv34
    have eG := ext_lst z34 e34
    have sqT : ∀ {G'}, Seqs G G' → ∃ sh, GoodSh G' (.ref va) sh ∧ GoodT G' (.ref pt) sh := fun sq => by
      obtain ⟨sh', h1, h2⟩ := gT hvG eG
      exact ⟨sh', h1.seqs sq, h2.seqs sq⟩
    have dC : DoesL P w K mg base cl (some .count) G f2 := by
      refine does_lam ["_law_sheet_here", "_law_tape_here", "_law_far"] [.ref va, .ref pt, .int nf] (ext_lamAt z35 L2) ⟨lent_free L (by decide +kernel) (by decide +kernel) (i := 2) rfl rfl, lent_free L (by decide +kernel) (by decide +kernel) (i := 4) rfl rfl, lent_free L (by decide +kernel) (by decide +kernel) (i := 11) rfl rfl, trivial⟩ ⟨rfl, rfl, rfl, by decide +kernel⟩ (lamB0 rfl fun _ _ _ _ _ => rfl) (by decide +kernel) (by decide +kernel) (fun _ _ _ _ _ _ _ _ hr => (pe_clX2 o_cut x_cut hr (takes_of rfl rfl rfl rfl) (by rfl) (pa_cons (pv 0) (pa_cons (pv 1) (pa_cons pe_int (pa_cons (pv 2) pa_nil)))))) (want_hides cl _) fun G' sq Q E hw => ?_
      walk_at "r"
      exact .inr (usex_cut (y := .count) (.inr ⟨rfl, ⟨sh, t, GoodSh.seqs ⟨hvG, ok⟩ sq, ⟨pt, rfl, sq.lst eG⟩, hc, hlt, nf, rfl, by omega⟩, ⟨false, rfl⟩⟩) hw)
    have dG : DoesL P w K mg base cl (some .count) G f3 := by
      refine does_lam ["_law_sheet_here", "_law_tape_here", "_law_far"] [.ref va, .ref pt, .int nf] (ext_lamAt z36 L3) ⟨lent_free L (by decide +kernel) (by decide +kernel) (i := 2) rfl rfl, lent_free L (by decide +kernel) (by decide +kernel) (i := 4) rfl rfl, lent_free L (by decide +kernel) (by decide +kernel) (i := 11) rfl rfl, trivial⟩ ⟨rfl, rfl, rfl, by decide +kernel⟩ (lamB1 "_law_a" (fun z => nomatch z) rfl fun _ _ _ _ _ _ => ⟨_, rfl, fun _ => rfl⟩) (by decide +kernel) (by decide +kernel) (fun _ _ _ _ _ _ _ _ hr => (pe_clX2 o_is_guarded x_is_guarded hr (takes_of rfl rfl rfl rfl) (by rfl) (pa_cons (pv 0) (pa_cons (pv 1) (pa_cons pe_int (pa_cons (pv 2) pa_nil)))))) (want_hides cl _) fun G' sq Q E hw => ?_
      walk_at "r"
      exact .inr (usex_is_guarded (y := .count) (.inr ⟨rfl, sqT sq, ⟨true, rfl⟩, nf, rfl, by omega⟩) hw)
    have dH : DoesL P w K mg base cl (some .count) G f4 := by
      refine does_lam ["_law_sheet_here", "_law_text_here", "_law_far"] [.ref va, .str (mkS x), .int nf] (ext_lamAt z38 L4) ⟨lent_free L (by decide +kernel) (by decide +kernel) (i := 2) rfl rfl, lent_free L (by decide +kernel) (by decide +kernel) (i := 6) rfl rfl, lent_free L (by decide +kernel) (by decide +kernel) (i := 11) rfl rfl, trivial⟩ ⟨rfl, rfl, rfl, by decide +kernel⟩ (lamB1 "_law_b" (fun z => nomatch z) rfl fun _ _ _ _ _ _ => ⟨_, rfl, fun _ => rfl⟩) (by decide +kernel) (by decide +kernel) (fun _ _ _ _ _ _ _ _ hr => (pe_clX2 o_guarded x_guarded hr (takes_of rfl rfl rfl rfl) (by rfl) (pa_cons (pv 0) (pa_cons (pv 1) (pa_cons pe_int (pa_cons (pv 2) pa_nil)))))) (want_hides cl _) fun G' sq Q E hw => ?_
      walk_at "r"
      exact .inr (usex_guarded (y := .count) (.inr ⟨rfl, ⟨sh, GoodSh.seqs ⟨hvG, ok⟩ sq, x, rfl, hcan, hxl⟩, ⟨false, rfl⟩, nf, rfl, by omega⟩) hw)
    refine use_law_all (fs := [f2, f3] ++ [f4]) (o := some .count) (y _ _ (s41 _ _ e40)) (by show 3 ≤ 100; decide) (does_app (does_two dC dG) (does_one dH)) (due_count (y _ _ e41)) fun H42 s42 => ?_
    have x42 : LamX.ExtN H34 (takC _ H42) := x35.trans (x36.trans ((ext_same s37).trans (x38.trans ((ext_same s39).trans ((ext_same s40).trans ((ext_same s41).trans (ext_same (same_tak L s42))))))))
    have t42 := tabs_tak (tabs_same (tabs_same (tabs_same t38 s39) s40) s41) L s42
    generalize takC _ H42 = H42 at x42 t42 ⊢
    have hb42 := ext_box x42 hb34
    have hv42 := ext_sh x42 hv34
    have e42 := ext_lst x42 e34
    clear dC dG dH sqT hvG eG z38 z36 z35 z34 y L e41 s41 e40 s40 e39 s39 L4 x38 e37 s37 L3 x36 L2 x35 t35 t36 t37 t38 x42 hb34 hv34 e34 t34
    walk_at "r"
    refine use_law_of_tapes (o := none) ⟨gT hv42 e42, ⟨true, rfl⟩, rfl⟩ t42 fun p43 fs3 H43 x43 t43 e43 l43 d43 => ?_
    walk_at "r"
    refine r_slS (by rw [len_mkS]; exact le_size (by omega)) ?_
    rw [show cutS (mkS x) none (some 20) = mkS (x.take 20) from cutS_to (k := 20)]
    walk_at "r"
    refine use_law_of_texts (o := none) ⟨⟨sh, ⟨ext_sh x43 hv42, ok⟩, x.take 20, rfl, fun c h => hcan c (List.mem_of_mem_take h), by rw [List.length_take]; omega⟩, ⟨false, rfl⟩, rfl⟩ t43 fun p44 gs3 H44 x44 t44 e44 l44 d44 => ?_
    walk_at "r"
    refine r_addL (ext_lst x44 e43) e44 (by rw [List.length_map, List.length_map, l43, l44]; exact le_size (by decide)) fun p45 H45 n45 s45 e45 => ?_
    walk_at "r"
    intro G L
    have y := L.same
    have z44 := (ext_same s45).trans (ext_same y)
    refine use_law_all (fs := fs3 ++ gs3) (o := none) (y _ _ (by rw [e45]; exact congrArg (fun l => some (HO.lst l)) (refs_app fs3 gs3))) (by rw [List.length_append, l43, l44]; decide) (does_app (fun f hf => (d43 f hf).ext (x44.trans z44)) (fun f hf => (d44 f hf).ext z44)) .non fun H46 s46 => ?_
    exact q _

end
/-! ### what the top has written; the law's own head -/
set_option maxHeartbeats 16000000 in
theorem all_mk {l : PySem.W.OpenLaw} {w : World} {K : PySem.W.Frag} {h : Heap} {mg : Str → Option Value} {fa f0 f1 f2 f3 f4 f5 f6 f7 f8 f9 f10 f11 f12 f13 f14 f15 f16 f17 f18 f19 f20 f21 f22 f23 f24 f25 f26 f27 f28 f29 f30 f31 f32 f33 f34 f35 f36 f37 f38 f39 f40 f41 f42 f43 cA38 pT__law_of_tapes cA39 pT__law_of_texts cA41 pT__law_sheets cA43 pT_law cl_TapeError cl_BadSheet cl_BadSet cl_BadTape cl_NoSign cl_BadCount cl_BadText fi_BadTape fi_NoSign : Addr} (X : K.In h) (G : h.Ns mainGlobals mg) (hfa : mg "law" = some (.ref fa)) (tabs : TabsOf K ["_law_of_tapes", "_law_of_texts", "_law_sheets", "law"] h)
    {od0 an0 od1 an1 od2 an2 od3 an3 od4 an4 od5 an5 od6 an6 od7 an7 od8 an8 od9 an9 od10 an10 od11 an11 od12 an12 od13 an13 od14 an14 od15 an15 od16 an16 od17 an17 od18 an18 od19 an19 od20 an20 od21 an21 od22 an22 od23 an23 od24 an24 od25 an25 od26 an26 od27 an27 od28 an28 od29 an29 od30 an30 od31 an31 od32 an32 od33 an33 od34 an34 od35 an35 od36 an36 od37 an37 od38 an38 od39 an39 od40 an40 od41 an41 od42 an42 od43 an43 oo38 oo39 oo41 oo43 nd_BadTape on_BadTape an_BadTape nd_NoSign on_NoSign an_NoSign : Option Addr} {sl0 sl1 sl2 sl3 sl4 sl5 sl6 sl7 sl8 sl9 sl10 sl11 sl12 sl13 sl14 sl15 sl16 sl17 sl18 sl19 sl20 sl21 sl22 sl23 sl24 sl25 sl26 sl27 sl28 sl29 sl30 sl31 sl32 sl33 sl34 sl35 sl36 sl37 sl38 sl39 sl40 sl41 sl42 sl43 sm38 sm39 sm41 sm43 sl_BadTape sl_NoSign : Array (Option Value)} {oc0 kV0 dc0 pm0 ct0 oc1 kV1 dc1 pm1 ct1 oc2 kV2 dc2 pm2 ct2 oc3 kV3 dc3 pm3 ct3 oc4 kV4 dc4 pm4 ct4 oc5 kV5 dc5 pm5 ct5 oc6 kV6 dc6 pm6 ct6 oc7 kV7 dc7 pm7 ct7 oc8 kV8 dc8 pm8 ct8 oc9 kV9 dc9 pm9 ct9 oc10 kV10 dc10 pm10 ct10 oc11 kV11 dc11 pm11 ct11 oc12 kV12 dc12 pm12 ct12 oc13 kV13 dc13 pm13 ct13 oc14 kV14 dc14 pm14 ct14 oc15 kV15 dc15 pm15 ct15 oc16 kV16 dc16 pm16 ct16 oc17 kV17 dc17 pm17 ct17 oc18 kV18 dc18 pm18 ct18 oc19 kV19 dc19 pm19 ct19 oc20 kV20 dc20 pm20 ct20 oc21 kV21 dc21 pm21 ct21 oc22 kV22 dc22 pm22 ct22 oc23 kV23 dc23 pm23 ct23 oc24 kV24 dc24 pm24 ct24 oc25 kV25 dc25 pm25 ct25 oc26 kV26 dc26 pm26 ct26 oc27 kV27 dc27 pm27 ct27 oc28 kV28 dc28 pm28 ct28 oc29 kV29 dc29 pm29 ct29 oc30 kV30 dc30 pm30 ct30 oc31 kV31 dc31 pm31 ct31 oc32 kV32 dc32 pm32 ct32 oc33 kV33 dc33 pm33 ct33 oc34 kV34 dc34 pm34 ct34 oc35 kV35 dc35 pm35 ct35 oc36 kV36 dc36 pm36 ct36 oc37 kV37 dc37 pm37 ct37 oc38 kV38 dc38 pm38 ct38 oc39 kV39 dc39 pm39 ct39 oc40 kV40 dc40 pm40 ct40 oc41 kV41 dc41 pm41 ct41 oc42 kV42 dc42 pm42 ct42 oc43 kV43 dc43 pm43 ct43 cd0 cd1 cd2 cd3 cd4 cd5 cd6 cd7 cd8 cd9 cd10 cd11 cd12 cd13 cd14 cd15 cd16 cd17 cd18 cd19 cd20 cd21 cd22 cd23 cd24 cd25 cd26 cd27 cd28 cd29 cd30 cd31 cd32 cd33 cd34 cd35 cd36 cd37 oe38 oe39 cd40 oe41 cd42 oe43 oc_BadTape kV_BadTape dc_BadTape pm_BadTape ct_BadTape cd_BadTape oc_NoSign kV_NoSign dc_NoSign pm_NoSign ct_NoSign cd_NoSign : Value} {tk_MOST_SIGNS tk_MOST_CODES tk_MOST_TEXT tk_FIRST tk_LAST tk_NONE tk_NEVER tk_NOTHING : Tok} {ws38 ws39 ws41 ws43 : Array Value}
    (a0 : PySem.W.nsIn K mainGlobals "_law_take" = some (some (.ref f0))) (l0 : K.lookup f0 = some ⟨oc0, od0, .func (PySem.W.fnOf "_law_take" "_law_take" (defArgs s__law_take) (defBody s__law_take) (defScope s__law_take) .none kV0 dc0 pm0 an0 cd0 ct0), sl0⟩) (c0 : PySem.W.codeIn K cd0 "_law_take" = true) (k0 : PySem.W.keepIn K (.ref f0) = true)
    (a1 : PySem.W.nsIn K mainGlobals "is_shift" = some (some (.ref f1))) (l1 : K.lookup f1 = some ⟨oc1, od1, .func (PySem.W.fnOf "is_shift" "is_shift" (defArgs s_is_shift) (defBody s_is_shift) (defScope s_is_shift) .none kV1 dc1 pm1 an1 cd1 ct1), sl1⟩) (c1 : PySem.W.codeIn K cd1 "is_shift" = true) (k1 : PySem.W.keepIn K (.ref f1) = true)
    (a2 : PySem.W.nsIn K mainGlobals "set_behind" = some (some (.ref f2))) (l2 : K.lookup f2 = some ⟨oc2, od2, .func (PySem.W.fnOf "set_behind" "set_behind" (defArgs s_set_behind) (defBody s_set_behind) (defScope s_set_behind) .none kV2 dc2 pm2 an2 cd2 ct2), sl2⟩) (c2 : PySem.W.codeIn K cd2 "set_behind" = true) (k2 : PySem.W.keepIn K (.ref f2) = true)
    (a3 : PySem.W.nsIn K mainGlobals "are_signs" = some (some (.ref f3))) (l3 : K.lookup f3 = some ⟨oc3, od3, .func (PySem.W.fnOf "are_signs" "are_signs" (defArgs s_are_signs) (defBody s_are_signs) (defScope s_are_signs) .none kV3 dc3 pm3 an3 cd3 ct3), sl3⟩) (c3 : PySem.W.codeIn K cd3 "are_signs" = true) (k3 : PySem.W.keepIn K (.ref f3) = true)
    (a4 : PySem.W.nsIn K mainGlobals "gone" = some (some (.ref f4))) (l4 : K.lookup f4 = some ⟨oc4, od4, .func (PySem.W.fnOf "gone" "gone" (defArgs s_gone) (defBody s_gone) (defScope s_gone) .none kV4 dc4 pm4 an4 cd4 ct4), sl4⟩) (c4 : PySem.W.codeIn K cd4 "gone" = true) (k4 : PySem.W.keepIn K (.ref f4) = true)
    (a5 : PySem.W.nsIn K mainGlobals "need_sheet" = some (some (.ref f5))) (l5 : K.lookup f5 = some ⟨oc5, od5, .func (PySem.W.fnOf "need_sheet" "need_sheet" (defArgs s_need_sheet) (defBody s_need_sheet) (defScope s_need_sheet) .none kV5 dc5 pm5 an5 cd5 ct5), sl5⟩) (c5 : PySem.W.codeIn K cd5 "need_sheet" = true) (k5 : PySem.W.keepIn K (.ref f5) = true)
    (a6 : PySem.W.nsIn K mainGlobals "need_set" = some (some (.ref f6))) (l6 : K.lookup f6 = some ⟨oc6, od6, .func (PySem.W.fnOf "need_set" "need_set" (defArgs s_need_set) (defBody s_need_set) (defScope s_need_set) .none kV6 dc6 pm6 an6 cd6 ct6), sl6⟩) (c6 : PySem.W.codeIn K cd6 "need_set" = true) (k6 : PySem.W.keepIn K (.ref f6) = true)
    (a7 : PySem.W.nsIn K mainGlobals "need_tape" = some (some (.ref f7))) (l7 : K.lookup f7 = some ⟨oc7, od7, .func (PySem.W.fnOf "need_tape" "need_tape" (defArgs s_need_tape) (defBody s_need_tape) (defScope s_need_tape) .none kV7 dc7 pm7 an7 cd7 ct7), sl7⟩) (c7 : PySem.W.codeIn K cd7 "need_tape" = true) (k7 : PySem.W.keepIn K (.ref f7) = true)
    (a8 : PySem.W.nsIn K mainGlobals "need_all" = some (some (.ref f8))) (l8 : K.lookup f8 = some ⟨oc8, od8, .func (PySem.W.fnOf "need_all" "need_all" (defArgs s_need_all) (defBody s_need_all) (defScope s_need_all) .none kV8 dc8 pm8 an8 cd8 ct8), sl8⟩) (c8 : PySem.W.codeIn K cd8 "need_all" = true) (k8 : PySem.W.keepIn K (.ref f8) = true)
    (a9 : PySem.W.nsIn K mainGlobals "read" = some (some (.ref f9))) (l9 : K.lookup f9 = some ⟨oc9, od9, .func (PySem.W.fnOf "read" "read" (defArgs s_read) (defBody s_read) (defScope s_read) .none kV9 dc9 pm9 an9 cd9 ct9), sl9⟩) (c9 : PySem.W.codeIn K cd9 "read" = true) (k9 : PySem.W.keepIn K (.ref f9) = true)
    (a10 : PySem.W.nsIn K mainGlobals "last_set" = some (some (.ref f10))) (l10 : K.lookup f10 = some ⟨oc10, od10, .func (PySem.W.fnOf "last_set" "last_set" (defArgs s_last_set) (defBody s_last_set) (defScope s_last_set) .none kV10 dc10 pm10 an10 cd10 ct10), sl10⟩) (c10 : PySem.W.codeIn K cd10 "last_set" = true) (k10 : PySem.W.keepIn K (.ref f10) = true)
    (a11 : PySem.W.nsIn K mainGlobals "_law_begun" = some (some (.ref f11))) (l11 : K.lookup f11 = some ⟨oc11, od11, .func (PySem.W.fnOf "_law_begun" "_law_begun" (defArgs s__law_begun) (defBody s__law_begun) (defScope s__law_begun) .none kV11 dc11 pm11 an11 cd11 ct11), sl11⟩) (c11 : PySem.W.codeIn K cd11 "_law_begun" = true) (k11 : PySem.W.keepIn K (.ref f11) = true)
    (a12 : PySem.W.nsIn K mainGlobals "_law_picked" = some (some (.ref f12))) (l12 : K.lookup f12 = some ⟨oc12, od12, .func (PySem.W.fnOf "_law_picked" "_law_picked" (defArgs s__law_picked) (defBody s__law_picked) (defScope s__law_picked) .none kV12 dc12 pm12 an12 cd12 ct12), sl12⟩) (c12 : PySem.W.codeIn K cd12 "_law_picked" = true) (k12 : PySem.W.keepIn K (.ref f12) = true)
    (a13 : PySem.W.nsIn K mainGlobals "_law_sheet" = some (some (.ref f13))) (l13 : K.lookup f13 = some ⟨oc13, od13, .func (PySem.W.fnOf "_law_sheet" "_law_sheet" (defArgs s__law_sheet) (defBody s__law_sheet) (defScope s__law_sheet) .none kV13 dc13 pm13 an13 cd13 ct13), sl13⟩) (c13 : PySem.W.codeIn K cd13 "_law_sheet" = true) (k13 : PySem.W.keepIn K (.ref f13) = true)
    (a14 : PySem.W.nsIn K mainGlobals "_law_alike" = some (some (.ref f14))) (l14 : K.lookup f14 = some ⟨oc14, od14, .func (PySem.W.fnOf "_law_alike" "_law_alike" (defArgs s__law_alike) (defBody s__law_alike) (defScope s__law_alike) .none kV14 dc14 pm14 an14 cd14 ct14), sl14⟩) (c14 : PySem.W.codeIn K cd14 "_law_alike" = true) (k14 : PySem.W.keepIn K (.ref f14) = true)
    (a15 : PySem.W.nsIn K mainGlobals "shift_to" = some (some (.ref f15))) (l15 : K.lookup f15 = some ⟨oc15, od15, .func (PySem.W.fnOf "shift_to" "shift_to" (defArgs s_shift_to) (defBody s_shift_to) (defScope s_shift_to) .none kV15 dc15 pm15 an15 cd15 ct15), sl15⟩) (c15 : PySem.W.codeIn K cd15 "shift_to" = true) (k15 : PySem.W.keepIn K (.ref f15) = true)
    (a16 : PySem.W.nsIn K mainGlobals "code_of" = some (some (.ref f16))) (l16 : K.lookup f16 = some ⟨oc16, od16, .func (PySem.W.fnOf "code_of" "code_of" (defArgs s_code_of) (defBody s_code_of) (defScope s_code_of) .none kV16 dc16 pm16 an16 cd16 ct16), sl16⟩) (c16 : PySem.W.codeIn K cd16 "code_of" = true) (k16 : PySem.W.keepIn K (.ref f16) = true)
    (a17 : PySem.W.nsIn K mainGlobals "need_text" = some (some (.ref f17))) (l17 : K.lookup f17 = some ⟨oc17, od17, .func (PySem.W.fnOf "need_text" "need_text" (defArgs s_need_text) (defBody s_need_text) (defScope s_need_text) .none kV17 dc17 pm17 an17 cd17 ct17), sl17⟩) (c17 : PySem.W.codeIn K cd17 "need_text" = true) (k17 : PySem.W.keepIn K (.ref f17) = true)
    (a18 : PySem.W.nsIn K mainGlobals "costs_of" = some (some (.ref f18))) (l18 : K.lookup f18 = some ⟨oc18, od18, .func (PySem.W.fnOf "costs_of" "costs_of" (defArgs s_costs_of) (defBody s_costs_of) (defScope s_costs_of) .none kV18 dc18 pm18 an18 cd18 ct18), sl18⟩) (c18 : PySem.W.codeIn K cd18 "costs_of" = true) (k18 : PySem.W.keepIn K (.ref f18) = true)
    (a19 : PySem.W.nsIn K mainGlobals "shortest" = some (some (.ref f19))) (l19 : K.lookup f19 = some ⟨oc19, od19, .func (PySem.W.fnOf "shortest" "shortest" (defArgs s_shortest) (defBody s_shortest) (defScope s_shortest) .none kV19 dc19 pm19 an19 cd19 ct19), sl19⟩) (c19 : PySem.W.codeIn K cd19 "shortest" = true) (k19 : PySem.W.keepIn K (.ref f19) = true)
    (a20 : PySem.W.nsIn K mainGlobals "_law_text" = some (some (.ref f20))) (l20 : K.lookup f20 = some ⟨oc20, od20, .func (PySem.W.fnOf "_law_text" "_law_text" (defArgs s__law_text) (defBody s__law_text) (defScope s__law_text) .none kV20 dc20 pm20 an20 cd20 ct20), sl20⟩) (c20 : PySem.W.codeIn K cd20 "_law_text" = true) (k20 : PySem.W.keepIn K (.ref f20) = true)
    (a21 : PySem.W.nsIn K mainGlobals "without" = some (some (.ref f21))) (l21 : K.lookup f21 = some ⟨oc21, od21, .func (PySem.W.fnOf "without" "without" (defArgs s_without) (defBody s_without) (defScope s_without) .none kV21 dc21 pm21 an21 cd21 ct21), sl21⟩) (c21 : PySem.W.codeIn K cd21 "without" = true) (k21 : PySem.W.keepIn K (.ref f21) = true)
    (a22 : PySem.W.nsIn K mainGlobals "all_spoilt" = some (some (.ref f22))) (l22 : K.lookup f22 = some ⟨oc22, od22, .func (PySem.W.fnOf "all_spoilt" "all_spoilt" (defArgs s_all_spoilt) (defBody s_all_spoilt) (defScope s_all_spoilt) .none kV22 dc22 pm22 an22 cd22 ct22), sl22⟩) (c22 : PySem.W.codeIn K cd22 "all_spoilt" = true) (k22 : PySem.W.keepIn K (.ref f22) = true)
    (a23 : PySem.W.nsIn K mainGlobals "spoilt" = some (some (.ref f23))) (l23 : K.lookup f23 = some ⟨oc23, od23, .func (PySem.W.fnOf "spoilt" "spoilt" (defArgs s_spoilt) (defBody s_spoilt) (defScope s_spoilt) .none kV23 dc23 pm23 an23 cd23 ct23), sl23⟩) (c23 : PySem.W.codeIn K cd23 "spoilt" = true) (k23 : PySem.W.keepIn K (.ref f23) = true)
    (a24 : PySem.W.nsIn K mainGlobals "lost_at" = some (some (.ref f24))) (l24 : K.lookup f24 = some ⟨oc24, od24, .func (PySem.W.fnOf "lost_at" "lost_at" (defArgs s_lost_at) (defBody s_lost_at) (defScope s_lost_at) .none kV24 dc24 pm24 an24 cd24 ct24), sl24⟩) (c24 : PySem.W.codeIn K cd24 "lost_at" = true) (k24 : PySem.W.keepIn K (.ref f24) = true)
    (a25 : PySem.W.nsIn K mainGlobals "need_most" = some (some (.ref f25))) (l25 : K.lookup f25 = some ⟨oc25, od25, .func (PySem.W.fnOf "need_most" "need_most" (defArgs s_need_most) (defBody s_need_most) (defScope s_need_most) .none kV25 dc25 pm25 an25 cd25 ct25), sl25⟩) (c25 : PySem.W.codeIn K cd25 "need_most" = true) (k25 : PySem.W.keepIn K (.ref f25) = true)
    (a26 : PySem.W.nsIn K mainGlobals "is_guarded" = some (some (.ref f26))) (l26 : K.lookup f26 = some ⟨oc26, od26, .func (PySem.W.fnOf "is_guarded" "is_guarded" (defArgs s_is_guarded) (defBody s_is_guarded) (defScope s_is_guarded) .none kV26 dc26 pm26 an26 cd26 ct26), sl26⟩) (c26 : PySem.W.codeIn K cd26 "is_guarded" = true) (k26 : PySem.W.keepIn K (.ref f26) = true)
    (a27 : PySem.W.nsIn K mainGlobals "steps_from" = some (some (.ref f27))) (l27 : K.lookup f27 = some ⟨oc27, od27, .func (PySem.W.fnOf "steps_from" "steps_from" (defArgs s_steps_from) (defBody s_steps_from) (defScope s_steps_from) .none kV27 dc27 pm27 an27 cd27 ct27), sl27⟩) (c27 : PySem.W.codeIn K cd27 "steps_from" = true) (k27 : PySem.W.keepIn K (.ref f27) = true)
    (a28 : PySem.W.nsIn K mainGlobals "guarded" = some (some (.ref f28))) (l28 : K.lookup f28 = some ⟨oc28, od28, .func (PySem.W.fnOf "guarded" "guarded" (defArgs s_guarded) (defBody s_guarded) (defScope s_guarded) .none kV28 dc28 pm28 an28 cd28 ct28), sl28⟩) (c28 : PySem.W.codeIn K cd28 "guarded" = true) (k28 : PySem.W.keepIn K (.ref f28) = true)
    (a29 : PySem.W.nsIn K mainGlobals "set_at" = some (some (.ref f29))) (l29 : K.lookup f29 = some ⟨oc29, od29, .func (PySem.W.fnOf "set_at" "set_at" (defArgs s_set_at) (defBody s_set_at) (defScope s_set_at) .none kV29 dc29 pm29 an29 cd29 ct29), sl29⟩) (c29 : PySem.W.codeIn K cd29 "set_at" = true) (k29 : PySem.W.keepIn K (.ref f29) = true)
    (a30 : PySem.W.nsIn K mainGlobals "led_in" = some (some (.ref f30))) (l30 : K.lookup f30 = some ⟨oc30, od30, .func (PySem.W.fnOf "led_in" "led_in" (defArgs s_led_in) (defBody s_led_in) (defScope s_led_in) .none kV30 dc30 pm30 an30 cd30 ct30), sl30⟩) (c30 : PySem.W.codeIn K cd30 "led_in" = true) (k30 : PySem.W.keepIn K (.ref f30) = true)
    (a31 : PySem.W.nsIn K mainGlobals "joined" = some (some (.ref f31))) (l31 : K.lookup f31 = some ⟨oc31, od31, .func (PySem.W.fnOf "joined" "joined" (defArgs s_joined) (defBody s_joined) (defScope s_joined) .none kV31 dc31 pm31 an31 cd31 ct31), sl31⟩) (c31 : PySem.W.codeIn K cd31 "joined" = true) (k31 : PySem.W.keepIn K (.ref f31) = true)
    (a32 : PySem.W.nsIn K mainGlobals "cut" = some (some (.ref f32))) (l32 : K.lookup f32 = some ⟨oc32, od32, .func (PySem.W.fnOf "cut" "cut" (defArgs s_cut) (defBody s_cut) (defScope s_cut) .none kV32 dc32 pm32 an32 cd32 ct32), sl32⟩) (c32 : PySem.W.codeIn K cd32 "cut" = true) (k32 : PySem.W.keepIn K (.ref f32) = true)
    (a33 : PySem.W.nsIn K mainGlobals "either" = some (some (.ref f33))) (l33 : K.lookup f33 = some ⟨oc33, od33, .func (PySem.W.fnOf "either" "either" (defArgs s_either) (defBody s_either) (defScope s_either) .none kV33 dc33 pm33 an33 cd33 ct33), sl33⟩) (c33 : PySem.W.codeIn K cd33 "either" = true) (k33 : PySem.W.keepIn K (.ref f33) = true)
    (a34 : PySem.W.nsIn K mainGlobals "written" = some (some (.ref f34))) (l34 : K.lookup f34 = some ⟨oc34, od34, .func (PySem.W.fnOf "written" "written" (defArgs s_written) (defBody s_written) (defScope s_written) .none kV34 dc34 pm34 an34 cd34 ct34), sl34⟩) (c34 : PySem.W.codeIn K cd34 "written" = true) (k34 : PySem.W.keepIn K (.ref f34) = true)
    (a35 : PySem.W.nsIn K mainGlobals "_law_class" = some (some (.ref f35))) (l35 : K.lookup f35 = some ⟨oc35, od35, .func (PySem.W.fnOf "_law_class" "_law_class" (defArgs s__law_class) (defBody s__law_class) (defScope s__law_class) .none kV35 dc35 pm35 an35 cd35 ct35), sl35⟩) (c35 : PySem.W.codeIn K cd35 "_law_class" = true) (k35 : PySem.W.keepIn K (.ref f35) = true)
    (a36 : PySem.W.nsIn K mainGlobals "_law_refused" = some (some (.ref f36))) (l36 : K.lookup f36 = some ⟨oc36, od36, .func (PySem.W.fnOf "_law_refused" "_law_refused" (defArgs s__law_refused) (defBody s__law_refused) (defScope s__law_refused) .none kV36 dc36 pm36 an36 cd36 ct36), sl36⟩) (c36 : PySem.W.codeIn K cd36 "_law_refused" = true) (k36 : PySem.W.keepIn K (.ref f36) = true)
    (a37 : PySem.W.nsIn K mainGlobals "_law_all" = some (some (.ref f37))) (l37 : K.lookup f37 = some ⟨oc37, od37, .func (PySem.W.fnOf "_law_all" "_law_all" (defArgs s__law_all) (defBody s__law_all) (defScope s__law_all) .none kV37 dc37 pm37 an37 cd37 ct37), sl37⟩) (c37 : PySem.W.codeIn K cd37 "_law_all" = true) (k37 : PySem.W.keepIn K (.ref f37) = true)
    (a38 : PySem.W.nsIn K mainGlobals "_law_of_tapes" = some (some (.ref f38))) (l38 : K.lookup f38 = some ⟨oc38, od38, .func (PySem.W.fnOf "_law_of_tapes" "_law_of_tapes" (defArgs s__law_of_tapes) (defBody s__law_of_tapes) (defScope s__law_of_tapes) .none kV38 dc38 pm38 an38 (.ref cA38) ct38), sl38⟩) (c38 : PySem.W.codeIn K (.ref cA38) "_law_of_tapes" = true) (k38 : PySem.W.keepIn K (.ref f38) = true)
    (u38 : K.lookup cA38 = some ⟨oe38, oo38, .fields ws38, sm38⟩)
    (a39 : PySem.W.nsIn K mainGlobals "_law_of_texts" = some (some (.ref f39))) (l39 : K.lookup f39 = some ⟨oc39, od39, .func (PySem.W.fnOf "_law_of_texts" "_law_of_texts" (defArgs s__law_of_texts) (defBody s__law_of_texts) (defScope s__law_of_texts) .none kV39 dc39 pm39 an39 (.ref cA39) ct39), sl39⟩) (c39 : PySem.W.codeIn K (.ref cA39) "_law_of_texts" = true) (k39 : PySem.W.keepIn K (.ref f39) = true)
    (u39 : K.lookup cA39 = some ⟨oe39, oo39, .fields ws39, sm39⟩)
    (a40 : PySem.W.nsIn K mainGlobals "_law_bad" = some (some (.ref f40))) (l40 : K.lookup f40 = some ⟨oc40, od40, .func (PySem.W.fnOf "_law_bad" "_law_bad" (defArgs s__law_bad) (defBody s__law_bad) (defScope s__law_bad) .none kV40 dc40 pm40 an40 cd40 ct40), sl40⟩) (c40 : PySem.W.codeIn K cd40 "_law_bad" = true) (k40 : PySem.W.keepIn K (.ref f40) = true)
    (a41 : PySem.W.nsIn K mainGlobals "_law_sheets" = some (some (.ref f41))) (l41 : K.lookup f41 = some ⟨oc41, od41, .func (PySem.W.fnOf "_law_sheets" "_law_sheets" (defArgs s__law_sheets) (defBody s__law_sheets) (defScope s__law_sheets) .none kV41 dc41 pm41 an41 (.ref cA41) ct41), sl41⟩) (c41 : PySem.W.codeIn K (.ref cA41) "_law_sheets" = true) (k41 : PySem.W.keepIn K (.ref f41) = true)
    (u41 : K.lookup cA41 = some ⟨oe41, oo41, .fields ws41, sm41⟩)
    (a42 : PySem.W.nsIn K mainGlobals "_law_tapes" = some (some (.ref f42))) (l42 : K.lookup f42 = some ⟨oc42, od42, .func (PySem.W.fnOf "_law_tapes" "_law_tapes" (defArgs s__law_tapes) (defBody s__law_tapes) (defScope s__law_tapes) .none kV42 dc42 pm42 an42 cd42 ct42), sl42⟩) (c42 : PySem.W.codeIn K cd42 "_law_tapes" = true) (k42 : PySem.W.keepIn K (.ref f42) = true)
    (a43 : PySem.W.nsIn K mainGlobals "law" = some (some (.ref f43))) (l43 : K.lookup f43 = some ⟨oc43, od43, .func (PySem.W.fnOf "law" "law" (defArgs s_law) (defBody s_law) (defScope s_law) .none kV43 dc43 pm43 an43 (.ref cA43) ct43), sl43⟩) (c43 : PySem.W.codeIn K (.ref cA43) "law" = true) (k43 : PySem.W.keepIn K (.ref f43) = true)
    (u43 : K.lookup cA43 = some ⟨oe43, oo43, .fields ws43, sm43⟩)
    (z_len : PySem.W.nsIn K mainGlobals "len" = some none)
    (z_range : PySem.W.nsIn K mainGlobals "range" = some none)
    (z_list : PySem.W.nsIn K mainGlobals "list" = some none)
    (z_int : PySem.W.nsIn K mainGlobals "int" = some none)
    (z_str : PySem.W.nsIn K mainGlobals "str" = some none)
    (z_all : PySem.W.nsIn K mainGlobals "all" = some none)
    (z_isinstance : PySem.W.nsIn K mainGlobals "isinstance" = some none)
    (z_min : PySem.W.nsIn K mainGlobals "min" = some none)
    (z_sorted : PySem.W.nsIn K mainGlobals "sorted" = some none)
    (z_enumerate : PySem.W.nsIn K mainGlobals "enumerate" = some none)
    (z_reversed : PySem.W.nsIn K mainGlobals "reversed" = some none)
    (z_set : PySem.W.nsIn K mainGlobals "set" = some none)
    (z_tuple : PySem.W.nsIn K mainGlobals "tuple" = some none)
    (z_bool : PySem.W.nsIn K mainGlobals "bool" = some none)
    (z_ValueError : PySem.W.nsIn K mainGlobals "ValueError" = some none)
    (y_MOST_SIGNS : PySem.W.nsIn K mainGlobals "MOST_SIGNS" = some (some (.int 26 tk_MOST_SIGNS)))
    (y_MOST_CODES : PySem.W.nsIn K mainGlobals "MOST_CODES" = some (some (.int 100 tk_MOST_CODES)))
    (y_MOST_TEXT : PySem.W.nsIn K mainGlobals "MOST_TEXT" = some (some (.int 32 tk_MOST_TEXT)))
    (y_FIRST : PySem.W.nsIn K mainGlobals "FIRST" = some (some (.str " " tk_FIRST)))
    (y_LAST : PySem.W.nsIn K mainGlobals "LAST" = some (some (.str "~" tk_LAST)))
    (y_NONE : PySem.W.nsIn K mainGlobals "NONE" = some (some (.int (-1) tk_NONE)))
    (y_NEVER : PySem.W.nsIn K mainGlobals "NEVER" = some (some (.int 1000000 tk_NEVER)))
    (y_NOTHING : PySem.W.nsIn K mainGlobals "NOTHING" = some (some (.str "-" tk_NOTHING)))
    (gx_TapeError : PySem.W.nsIn K mainGlobals "TapeError" = some (some (.ref cl_TapeError)))
    (gx_BadSheet : PySem.W.nsIn K mainGlobals "BadSheet" = some (some (.ref cl_BadSheet)))
    (gx_BadSet : PySem.W.nsIn K mainGlobals "BadSet" = some (some (.ref cl_BadSet)))
    (gx_BadTape : PySem.W.nsIn K mainGlobals "BadTape" = some (some (.ref cl_BadTape)))
    (gx_NoSign : PySem.W.nsIn K mainGlobals "NoSign" = some (some (.ref cl_NoSign)))
    (gx_BadCount : PySem.W.nsIn K mainGlobals "BadCount" = some (some (.ref cl_BadCount)))
    (gx_BadText : PySem.W.nsIn K mainGlobals "BadText" = some (some (.ref cl_BadText)))
    (x_k_BadSheet : PySem.W.keepIn K (.ref cl_BadSheet) = true)
    (x_ex_BadSheet : PySem.W.subIn K (.ref cl_BadSheet) (.type "BaseException") = some true)
    (x_ty_BadSheet : PySem.W.typeIn K (.ref cl_BadSheet) = some (.type "type"))
    (x_x_BadSheet : PySem.W.excIn K cl_BadSheet [.type "ValueError", .type "Exception", .type "BaseException", .type "object"] "ValueError.__new__" = true)
    (x_h_BadSheet_TapeError : PySem.W.exmOne K (.ref cl_BadSheet) (.ref cl_TapeError) = some true)
    (x_is_BadSheet_BadSheet : PySem.W.kitOne K (.ref cl_BadSheet) (.ref cl_BadSheet) = some true)
    (x_is_BadSheet_BadSet : PySem.W.kitOne K (.ref cl_BadSheet) (.ref cl_BadSet) = some false)
    (x_is_BadSheet_BadTape : PySem.W.kitOne K (.ref cl_BadSheet) (.ref cl_BadTape) = some false)
    (x_is_BadSheet_NoSign : PySem.W.kitOne K (.ref cl_BadSheet) (.ref cl_NoSign) = some false)
    (x_is_BadSheet_BadCount : PySem.W.kitOne K (.ref cl_BadSheet) (.ref cl_BadCount) = some false)
    (x_is_BadSheet_BadText : PySem.W.kitOne K (.ref cl_BadSheet) (.ref cl_BadText) = some false)
    (x_iv_BadSheet : PySem.W.kitOne K (.ref cl_BadSheet) (.type "ValueError") = some true)
    (x_k_BadSet : PySem.W.keepIn K (.ref cl_BadSet) = true)
    (x_ex_BadSet : PySem.W.subIn K (.ref cl_BadSet) (.type "BaseException") = some true)
    (x_ty_BadSet : PySem.W.typeIn K (.ref cl_BadSet) = some (.type "type"))
    (x_x_BadSet : PySem.W.excIn K cl_BadSet [.type "ValueError", .type "Exception", .type "BaseException", .type "object"] "ValueError.__new__" = true)
    (x_h_BadSet_TapeError : PySem.W.exmOne K (.ref cl_BadSet) (.ref cl_TapeError) = some true)
    (x_is_BadSet_BadSheet : PySem.W.kitOne K (.ref cl_BadSet) (.ref cl_BadSheet) = some false)
    (x_is_BadSet_BadSet : PySem.W.kitOne K (.ref cl_BadSet) (.ref cl_BadSet) = some true)
    (x_is_BadSet_BadTape : PySem.W.kitOne K (.ref cl_BadSet) (.ref cl_BadTape) = some false)
    (x_is_BadSet_NoSign : PySem.W.kitOne K (.ref cl_BadSet) (.ref cl_NoSign) = some false)
    (x_is_BadSet_BadCount : PySem.W.kitOne K (.ref cl_BadSet) (.ref cl_BadCount) = some false)
    (x_is_BadSet_BadText : PySem.W.kitOne K (.ref cl_BadSet) (.ref cl_BadText) = some false)
    (x_iv_BadSet : PySem.W.kitOne K (.ref cl_BadSet) (.type "ValueError") = some true)
    (x_k_BadTape : PySem.W.keepIn K (.ref cl_BadTape) = true)
    (x_ex_BadTape : PySem.W.subIn K (.ref cl_BadTape) (.type "BaseException") = some true)
    (x_ty_BadTape : PySem.W.typeIn K (.ref cl_BadTape) = some (.type "type"))
    (x_n_BadTape : PySem.W.findIn K (.ref cl_BadTape) "place" = some none)
    (x_h_BadTape_TapeError : PySem.W.exmOne K (.ref cl_BadTape) (.ref cl_TapeError) = some true)
    (x_is_BadTape_BadSheet : PySem.W.kitOne K (.ref cl_BadTape) (.ref cl_BadSheet) = some false)
    (x_is_BadTape_BadSet : PySem.W.kitOne K (.ref cl_BadTape) (.ref cl_BadSet) = some false)
    (x_is_BadTape_BadTape : PySem.W.kitOne K (.ref cl_BadTape) (.ref cl_BadTape) = some true)
    (x_is_BadTape_NoSign : PySem.W.kitOne K (.ref cl_BadTape) (.ref cl_NoSign) = some false)
    (x_is_BadTape_BadCount : PySem.W.kitOne K (.ref cl_BadTape) (.ref cl_BadCount) = some false)
    (x_is_BadTape_BadText : PySem.W.kitOne K (.ref cl_BadTape) (.ref cl_BadText) = some false)
    (x_iv_BadTape : PySem.W.kitOne K (.ref cl_BadTape) (.type "ValueError") = some true)
    (x_k_NoSign : PySem.W.keepIn K (.ref cl_NoSign) = true)
    (x_ex_NoSign : PySem.W.subIn K (.ref cl_NoSign) (.type "BaseException") = some true)
    (x_ty_NoSign : PySem.W.typeIn K (.ref cl_NoSign) = some (.type "type"))
    (x_n_NoSign : PySem.W.findIn K (.ref cl_NoSign) "place" = some none)
    (x_h_NoSign_TapeError : PySem.W.exmOne K (.ref cl_NoSign) (.ref cl_TapeError) = some true)
    (x_is_NoSign_BadSheet : PySem.W.kitOne K (.ref cl_NoSign) (.ref cl_BadSheet) = some false)
    (x_is_NoSign_BadSet : PySem.W.kitOne K (.ref cl_NoSign) (.ref cl_BadSet) = some false)
    (x_is_NoSign_BadTape : PySem.W.kitOne K (.ref cl_NoSign) (.ref cl_BadTape) = some false)
    (x_is_NoSign_NoSign : PySem.W.kitOne K (.ref cl_NoSign) (.ref cl_NoSign) = some true)
    (x_is_NoSign_BadCount : PySem.W.kitOne K (.ref cl_NoSign) (.ref cl_BadCount) = some false)
    (x_is_NoSign_BadText : PySem.W.kitOne K (.ref cl_NoSign) (.ref cl_BadText) = some false)
    (x_iv_NoSign : PySem.W.kitOne K (.ref cl_NoSign) (.type "ValueError") = some true)
    (x_k_BadCount : PySem.W.keepIn K (.ref cl_BadCount) = true)
    (x_ex_BadCount : PySem.W.subIn K (.ref cl_BadCount) (.type "BaseException") = some true)
    (x_ty_BadCount : PySem.W.typeIn K (.ref cl_BadCount) = some (.type "type"))
    (x_x_BadCount : PySem.W.excIn K cl_BadCount [.type "ValueError", .type "Exception", .type "BaseException", .type "object"] "ValueError.__new__" = true)
    (x_h_BadCount_TapeError : PySem.W.exmOne K (.ref cl_BadCount) (.ref cl_TapeError) = some true)
    (x_is_BadCount_BadSheet : PySem.W.kitOne K (.ref cl_BadCount) (.ref cl_BadSheet) = some false)
    (x_is_BadCount_BadSet : PySem.W.kitOne K (.ref cl_BadCount) (.ref cl_BadSet) = some false)
    (x_is_BadCount_BadTape : PySem.W.kitOne K (.ref cl_BadCount) (.ref cl_BadTape) = some false)
    (x_is_BadCount_NoSign : PySem.W.kitOne K (.ref cl_BadCount) (.ref cl_NoSign) = some false)
    (x_is_BadCount_BadCount : PySem.W.kitOne K (.ref cl_BadCount) (.ref cl_BadCount) = some true)
    (x_is_BadCount_BadText : PySem.W.kitOne K (.ref cl_BadCount) (.ref cl_BadText) = some false)
    (x_iv_BadCount : PySem.W.kitOne K (.ref cl_BadCount) (.type "ValueError") = some true)
    (gx_hn : PySem.W.specialIn K (.builtin "object.__class__") "__get__" = some (some (.builtin "getset_descriptor.__get__")))
    (gx_ht : PySem.W.takesIn K (.builtin "object.__class__") = some true)
    (ga_BadSheet : PySem.W.findIn K (.ref cl_BadSheet) "__getattribute__" = some (some (.builtin "BaseException.__getattribute__")))
    (gg_BadSheet : PySem.W.findIn K (.ref cl_BadSheet) "__getattr__" = some none)
    (hd_BadSheet : PySem.W.hasDictIn K cl_BadSheet = true)
    (ca_BadSheet : PySem.W.findIn K (.ref cl_BadSheet) "__class__" = some (some (.builtin "object.__class__")))
    (mo_BadSheet : PySem.W.mroIn K cl_BadSheet (.type "object") = some true)
    (ga_BadSet : PySem.W.findIn K (.ref cl_BadSet) "__getattribute__" = some (some (.builtin "BaseException.__getattribute__")))
    (gg_BadSet : PySem.W.findIn K (.ref cl_BadSet) "__getattr__" = some none)
    (hd_BadSet : PySem.W.hasDictIn K cl_BadSet = true)
    (ca_BadSet : PySem.W.findIn K (.ref cl_BadSet) "__class__" = some (some (.builtin "object.__class__")))
    (mo_BadSet : PySem.W.mroIn K cl_BadSet (.type "object") = some true)
    (ga_BadTape : PySem.W.findIn K (.ref cl_BadTape) "__getattribute__" = some (some (.builtin "BaseException.__getattribute__")))
    (gg_BadTape : PySem.W.findIn K (.ref cl_BadTape) "__getattr__" = some none)
    (hd_BadTape : PySem.W.hasDictIn K cl_BadTape = true)
    (ca_BadTape : PySem.W.findIn K (.ref cl_BadTape) "__class__" = some (some (.builtin "object.__class__")))
    (mo_BadTape : PySem.W.mroIn K cl_BadTape (.type "object") = some true)
    (sa_BadTape : PySem.W.findIn K (.ref cl_BadTape) "__setattr__" = some (some (.builtin "object.__setattr__")))
    {nm_BadTape q_BadTape : Str} {N_BadTape : Addr} {bs_BadTape sub_BadTape : List Value} {sn_BadTape : List Str} {ab_BadTape : Bool} {col_BadTape : Option Bool} {m0_BadTape m1_BadTape m2_BadTape m3_BadTape m5_BadTape : Option Value}
    (xl_BadTape : K.lookup cl_BadTape = some (excClassObj nm_BadTape q_BadTape cl_BadTape N_BadTape bs_BadTape [.ref cl_TapeError, .type "ValueError", .type "Exception", .type "BaseException", .type "object"] true sn_BadTape sub_BadTape ab_BadTape col_BadTape nd_BadTape m0_BadTape m1_BadTape m2_BadTape m3_BadTape m5_BadTape "ValueError.__new__"))
    (in_BadTape : PySem.W.findIn K (.ref cl_BadTape) "__init__" = some (some (.ref fi_BadTape)))
    (ti_BadTape : PySem.W.typeIn K (.ref fi_BadTape) = some (.type "function"))
    (li_BadTape : K.lookup fi_BadTape = some ⟨oc_BadTape, on_BadTape, .func (PySem.W.fnOf "__init__" "BadTape.__init__" (defArgs s_BadTape_init) (defBody s_BadTape_init) (defScope s_BadTape_init) .none kV_BadTape dc_BadTape pm_BadTape an_BadTape cd_BadTape ct_BadTape), sl_BadTape⟩)
    (ci_BadTape : PySem.W.codeIn K cd_BadTape "BadTape.__init__" = true)
    (ki_BadTape : PySem.W.keepIn K (.ref fi_BadTape) = true)
    (ga_NoSign : PySem.W.findIn K (.ref cl_NoSign) "__getattribute__" = some (some (.builtin "BaseException.__getattribute__")))
    (gg_NoSign : PySem.W.findIn K (.ref cl_NoSign) "__getattr__" = some none)
    (hd_NoSign : PySem.W.hasDictIn K cl_NoSign = true)
    (ca_NoSign : PySem.W.findIn K (.ref cl_NoSign) "__class__" = some (some (.builtin "object.__class__")))
    (mo_NoSign : PySem.W.mroIn K cl_NoSign (.type "object") = some true)
    (sa_NoSign : PySem.W.findIn K (.ref cl_NoSign) "__setattr__" = some (some (.builtin "object.__setattr__")))
    {nm_NoSign q_NoSign : Str} {N_NoSign : Addr} {bs_NoSign sub_NoSign : List Value} {sn_NoSign : List Str} {ab_NoSign : Bool} {col_NoSign : Option Bool} {m0_NoSign m1_NoSign m2_NoSign m3_NoSign m5_NoSign : Option Value}
    (xl_NoSign : K.lookup cl_NoSign = some (excClassObj nm_NoSign q_NoSign cl_NoSign N_NoSign bs_NoSign [.ref cl_TapeError, .type "ValueError", .type "Exception", .type "BaseException", .type "object"] true sn_NoSign sub_NoSign ab_NoSign col_NoSign nd_NoSign m0_NoSign m1_NoSign m2_NoSign m3_NoSign m5_NoSign "ValueError.__new__"))
    (in_NoSign : PySem.W.findIn K (.ref cl_NoSign) "__init__" = some (some (.ref fi_NoSign)))
    (ti_NoSign : PySem.W.typeIn K (.ref fi_NoSign) = some (.type "function"))
    (li_NoSign : K.lookup fi_NoSign = some ⟨oc_NoSign, on_NoSign, .func (PySem.W.fnOf "__init__" "NoSign.__init__" (defArgs s_NoSign_init) (defBody s_NoSign_init) (defScope s_NoSign_init) .none kV_NoSign dc_NoSign pm_NoSign an_NoSign cd_NoSign ct_NoSign), sl_NoSign⟩)
    (ci_NoSign : PySem.W.codeIn K cd_NoSign "NoSign.__init__" = true)
    (ki_NoSign : PySem.W.keepIn K (.ref fi_NoSign) = true)
    (ga_BadCount : PySem.W.findIn K (.ref cl_BadCount) "__getattribute__" = some (some (.builtin "BaseException.__getattribute__")))
    (gg_BadCount : PySem.W.findIn K (.ref cl_BadCount) "__getattr__" = some none)
    (hd_BadCount : PySem.W.hasDictIn K cl_BadCount = true)
    (ca_BadCount : PySem.W.findIn K (.ref cl_BadCount) "__class__" = some (some (.builtin "object.__class__")))
    (mo_BadCount : PySem.W.mroIn K cl_BadCount (.type "object") = some true)
    (br_TapeError : PySem.W.readsIn K cl_TapeError (.type "type") = true)
    (bg_TapeError : PySem.W.specialIn K (.ref cl_TapeError) "__getattribute__" = some (some (.builtin "type.__getattribute__")))
    (bi_TapeError : PySem.W.findCls K (.ref cl_TapeError) (.type "type") "__init__" = some (.val (.builtin "ValueError.__init__")))
    (v38 : (ws38[11]? : Option Value) = some (.ref pT__law_of_tapes)) (n38 : K.lookup pT__law_of_tapes = none)
    (v39 : (ws39[11]? : Option Value) = some (.ref pT__law_of_texts)) (n39 : K.lookup pT__law_of_texts = none)
    (v41 : (ws41[11]? : Option Value) = some (.ref pT__law_sheets)) (n41 : K.lookup pT__law_sheets = none)
    (v43 : (ws43[11]? : Option Value) = some (.ref pT_law)) (n43 : K.lookup pT_law = none)
    (ne_0_1 : pT__law_of_tapes ≠ pT__law_of_texts)
    (ne_0_2 : pT__law_of_tapes ≠ pT__law_sheets)
    (ne_0_3 : pT__law_of_tapes ≠ pT_law)
    (ne_1_2 : pT__law_of_texts ≠ pT__law_sheets)
    (ne_1_3 : pT__law_of_texts ≠ pT_law)
    (ne_2_3 : pT__law_sheets ≠ pT_law)
    : LamX.LawAtS l w K CX0 19 63 "_law_script" mg fa h := by
  have e := hfa.symm.trans (PySem.W.mg_of X G a43)
  cases e
  have T : TX mg := ⟨PySem.W.mg_none_of X G z_len, PySem.W.mg_none_of X G z_range, PySem.W.mg_none_of X G z_list, PySem.W.mg_none_of X G z_int, PySem.W.mg_none_of X G z_str, PySem.W.mg_none_of X G z_all, PySem.W.mg_none_of X G z_isinstance, PySem.W.mg_none_of X G z_min, PySem.W.mg_none_of X G z_sorted, PySem.W.mg_none_of X G z_enumerate, PySem.W.mg_none_of X G z_reversed, PySem.W.mg_none_of X G z_set, PySem.W.mg_none_of X G z_tuple, PySem.W.mg_none_of X G z_bool, PySem.W.mg_none_of X G z_ValueError, ⟨_, PySem.W.mg_of X G y_MOST_SIGNS⟩, ⟨_, PySem.W.mg_of X G y_MOST_CODES⟩, ⟨_, PySem.W.mg_of X G y_MOST_TEXT⟩, ⟨_, PySem.W.mg_of X G y_FIRST⟩, ⟨_, PySem.W.mg_of X G y_LAST⟩, ⟨_, PySem.W.mg_of X G y_NONE⟩, ⟨_, PySem.W.mg_of X G y_NEVER⟩, ⟨_, PySem.W.mg_of X G y_NOTHING⟩⟩
  have XT : EX K mg ⟨cl_TapeError, cl_BadSheet, cl_BadSet, cl_BadTape, cl_NoSign, cl_BadCount, cl_BadText⟩ := ⟨PySem.W.mg_of X G gx_TapeError, PySem.W.mg_of X G gx_BadSheet, PySem.W.mg_of X G gx_BadSet, PySem.W.mg_of X G gx_BadTape, PySem.W.mg_of X G gx_NoSign, PySem.W.mg_of X G gx_BadCount, PySem.W.mg_of X G gx_BadText, x_k_BadSheet, x_ex_BadSheet, x_ty_BadSheet, x_x_BadSheet, ⟨ga_BadSheet, gg_BadSheet, x_ex_BadSheet, hd_BadSheet, ca_BadSheet, gx_hn, gx_ht, mo_BadSheet⟩, x_h_BadSheet_TapeError, x_is_BadSheet_BadSheet, x_is_BadSheet_BadSet, x_is_BadSheet_BadTape, x_is_BadSheet_NoSign, x_is_BadSheet_BadCount, x_is_BadSheet_BadText, x_iv_BadSheet, x_k_BadSet, x_ex_BadSet, x_ty_BadSet, x_x_BadSet, ⟨ga_BadSet, gg_BadSet, x_ex_BadSet, hd_BadSet, ca_BadSet, gx_hn, gx_ht, mo_BadSet⟩, x_h_BadSet_TapeError, x_is_BadSet_BadSheet, x_is_BadSet_BadSet, x_is_BadSet_BadTape, x_is_BadSet_NoSign, x_is_BadSet_BadCount, x_is_BadSet_BadText, x_iv_BadSet, x_k_BadTape, x_ex_BadTape, x_ty_BadTape, ⟨⟨_, _, _, _, _, _, _, _, _, _, _, _, _, _, _, xl_BadTape, rfl⟩, sa_BadTape, x_ex_BadTape, x_ty_BadTape, x_k_BadTape⟩, x_n_BadTape, ⟨ga_BadTape, gg_BadTape, x_ex_BadTape, hd_BadTape⟩, ⟨ga_BadTape, gg_BadTape, x_ex_BadTape, hd_BadTape, ca_BadTape, gx_hn, gx_ht, mo_BadTape⟩, x_h_BadTape_TapeError, x_is_BadTape_BadSheet, x_is_BadTape_BadSet, x_is_BadTape_BadTape, x_is_BadTape_NoSign, x_is_BadTape_BadCount, x_is_BadTape_BadText, x_iv_BadTape, x_k_NoSign, x_ex_NoSign, x_ty_NoSign, ⟨⟨_, _, _, _, _, _, _, _, _, _, _, _, _, _, _, xl_NoSign, rfl⟩, sa_NoSign, x_ex_NoSign, x_ty_NoSign, x_k_NoSign⟩, x_n_NoSign, ⟨ga_NoSign, gg_NoSign, x_ex_NoSign, hd_NoSign⟩, ⟨ga_NoSign, gg_NoSign, x_ex_NoSign, hd_NoSign, ca_NoSign, gx_hn, gx_ht, mo_NoSign⟩, x_h_NoSign_TapeError, x_is_NoSign_BadSheet, x_is_NoSign_BadSet, x_is_NoSign_BadTape, x_is_NoSign_NoSign, x_is_NoSign_BadCount, x_is_NoSign_BadText, x_iv_NoSign, x_k_BadCount, x_ex_BadCount, x_ty_BadCount, x_x_BadCount, ⟨ga_BadCount, gg_BadCount, x_ex_BadCount, hd_BadCount, ca_BadCount, gx_hn, gx_ht, mo_BadCount⟩, x_h_BadCount_TapeError, x_is_BadCount_BadSheet, x_is_BadCount_BadSet, x_is_BadCount_BadTape, x_is_BadCount_NoSign, x_is_BadCount_BadCount, x_is_BadCount_BadText, x_iv_BadCount, ⟨br_TapeError, bg_TapeError, bi_TapeError⟩⟩
  have FI_BadTape := fun_mk (x := "__init__") (qual := "BadTape.__init__") (st := s_BadTape_init) li_BadTape ci_BadTape ki_BadTape
  have FI_NoSign := fun_mk (x := "__init__") (qual := "NoSign.__init__") (st := s_NoSign_init) li_NoSign ci_NoSign ki_NoSign
  have F__law_take := fun_mk (st := s__law_take) l0 c0 k0
  have D__law_take : Df K mg "_law_take" s__law_take ["_law_box", "_law_many"] := ⟨_, _, F__law_take, F__law_take.binds (ps := ["_law_box", "_law_many"]) (fun _ _ _ _ _ _ us hl => match us, hl with | [_, _], _ => rfl), PySem.W.mg_of X G a0⟩
  have F_is_shift := fun_mk (st := s_is_shift) l1 c1 k1
  have D_is_shift : Df K mg "is_shift" s_is_shift ["sheet", "code"] := ⟨_, _, F_is_shift, F_is_shift.binds (ps := ["sheet", "code"]) (fun _ _ _ _ _ _ us hl => match us, hl with | [_, _], _ => rfl), PySem.W.mg_of X G a1⟩
  have F_set_behind := fun_mk (st := s_set_behind) l2 c2 k2
  have D_set_behind : Df K mg "set_behind" s_set_behind ["sheet", "code", "number"] := ⟨_, _, F_set_behind, F_set_behind.binds (ps := ["sheet", "code", "number"]) (fun _ _ _ _ _ _ us hl => match us, hl with | [_, _, _], _ => rfl), PySem.W.mg_of X G a2⟩
  have F_are_signs := fun_mk (st := s_are_signs) l3 c3 k3
  have D_are_signs : Df K mg "are_signs" s_are_signs ["signs"] := ⟨_, _, F_are_signs, F_are_signs.binds (ps := ["signs"]) (fun _ _ _ _ _ _ us hl => match us, hl with | [_], _ => rfl), PySem.W.mg_of X G a3⟩
  have F_gone := fun_mk (st := s_gone) l4 c4 k4
  have D_gone : Df K mg "gone" s_gone ["sheet", "tape", "begin"] := ⟨_, _, F_gone, F_gone.binds (ps := ["sheet", "tape", "begin"]) (fun _ _ _ _ _ _ us hl => match us, hl with | [_, _, _], _ => rfl), PySem.W.mg_of X G a4⟩
  have F_need_sheet := fun_mk (st := s_need_sheet) l5 c5 k5
  have D_need_sheet : Df K mg "need_sheet" s_need_sheet ["sheet"] := ⟨_, _, F_need_sheet, F_need_sheet.binds (ps := ["sheet"]) (fun _ _ _ _ _ _ us hl => match us, hl with | [_], _ => rfl), PySem.W.mg_of X G a5⟩
  have F_need_set := fun_mk (st := s_need_set) l6 c6 k6
  have D_need_set : Df K mg "need_set" s_need_set ["number"] := ⟨_, _, F_need_set, F_need_set.binds (ps := ["number"]) (fun _ _ _ _ _ _ us hl => match us, hl with | [_], _ => rfl), PySem.W.mg_of X G a6⟩
  have F_need_tape := fun_mk (st := s_need_tape) l7 c7 k7
  have D_need_tape : Df K mg "need_tape" s_need_tape ["sheet", "tape"] := ⟨_, _, F_need_tape, F_need_tape.binds (ps := ["sheet", "tape"]) (fun _ _ _ _ _ _ us hl => match us, hl with | [_, _], _ => rfl), PySem.W.mg_of X G a7⟩
  have F_need_all := fun_mk (st := s_need_all) l8 c8 k8
  have D_need_all : Df K mg "need_all" s_need_all ["sheet", "tape", "begin"] := ⟨_, _, F_need_all, F_need_all.binds (ps := ["sheet", "tape", "begin"]) (fun _ _ _ _ _ _ us hl => match us, hl with | [_, _, _], _ => rfl), PySem.W.mg_of X G a8⟩
  have F_read := fun_mk (st := s_read) l9 c9 k9
  have D_read : Df K mg "read" s_read ["sheet", "tape", "begin"] := ⟨_, _, F_read, F_read.binds (ps := ["sheet", "tape", "begin"]) (fun _ _ _ _ _ _ us hl => match us, hl with | [_, _, _], _ => rfl), PySem.W.mg_of X G a9⟩
  have F_last_set := fun_mk (st := s_last_set) l10 c10 k10
  have D_last_set : Df K mg "last_set" s_last_set ["sheet", "tape", "begin"] := ⟨_, _, F_last_set, F_last_set.binds (ps := ["sheet", "tape", "begin"]) (fun _ _ _ _ _ _ us hl => match us, hl with | [_, _, _], _ => rfl), PySem.W.mg_of X G a10⟩
  have F__law_begun := fun_mk (st := s__law_begun) l11 c11 k11
  have D__law_begun : Df K mg "_law_begun" s__law_begun ["_law_script"] := ⟨_, _, F__law_begun, F__law_begun.binds (ps := ["_law_script"]) (fun _ _ _ _ _ _ us hl => match us, hl with | [_], _ => rfl), PySem.W.mg_of X G a11⟩
  have F__law_picked := fun_mk (st := s__law_picked) l12 c12 k12
  have D__law_picked : Df K mg "_law_picked" s__law_picked ["_law_box", "_law_signs", "_law_many"] := ⟨_, _, F__law_picked, F__law_picked.binds (ps := ["_law_box", "_law_signs", "_law_many"]) (fun _ _ _ _ _ _ us hl => match us, hl with | [_, _, _], _ => rfl), PySem.W.mg_of X G a12⟩
  have F__law_sheet := fun_mk (st := s__law_sheet) l13 c13 k13
  have D__law_sheet : Df K mg "_law_sheet" s__law_sheet ["_law_box", "_law_most"] := ⟨_, _, F__law_sheet, F__law_sheet.binds (ps := ["_law_box", "_law_most"]) (fun _ _ _ _ _ _ us hl => match us, hl with | [_, _], _ => rfl), PySem.W.mg_of X G a13⟩
  have F__law_alike := fun_mk (st := s__law_alike) l14 c14 k14
  have D__law_alike : Df K mg "_law_alike" s__law_alike ["_law_found", "_law_due"] := ⟨_, _, F__law_alike, F__law_alike.binds (ps := ["_law_found", "_law_due"]) (fun _ _ _ _ _ _ us hl => match us, hl with | [_, _], _ => rfl), PySem.W.mg_of X G a14⟩
  have F_shift_to := fun_mk (st := s_shift_to) l15 c15 k15
  have D_shift_to : Df K mg "shift_to" s_shift_to ["sheet", "number"] := ⟨_, _, F_shift_to, F_shift_to.binds (ps := ["sheet", "number"]) (fun _ _ _ _ _ _ us hl => match us, hl with | [_, _], _ => rfl), PySem.W.mg_of X G a15⟩
  have F_code_of := fun_mk (st := s_code_of) l16 c16 k16
  have D_code_of : Df K mg "code_of" s_code_of ["sheet", "sign", "number"] := ⟨_, _, F_code_of, F_code_of.binds (ps := ["sheet", "sign", "number"]) (fun _ _ _ _ _ _ us hl => match us, hl with | [_, _, _], _ => rfl), PySem.W.mg_of X G a16⟩
  have F_need_text := fun_mk (st := s_need_text) l17 c17 k17
  have D_need_text : Df K mg "need_text" s_need_text ["sheet", "text"] := ⟨_, _, F_need_text, F_need_text.binds (ps := ["sheet", "text"]) (fun _ _ _ _ _ _ us hl => match us, hl with | [_, _], _ => rfl), PySem.W.mg_of X G a17⟩
  have F_costs_of := fun_mk (st := s_costs_of) l18 c18 k18
  have D_costs_of : Df K mg "costs_of" s_costs_of ["sheet", "text"] := ⟨_, _, F_costs_of, F_costs_of.binds (ps := ["sheet", "text"]) (fun _ _ _ _ _ _ us hl => match us, hl with | [_, _], _ => rfl), PySem.W.mg_of X G a18⟩
  have F_shortest := fun_mk (st := s_shortest) l19 c19 k19
  have D_shortest : Df K mg "shortest" s_shortest ["sheet", "text", "begin"] := ⟨_, _, F_shortest, F_shortest.binds (ps := ["sheet", "text", "begin"]) (fun _ _ _ _ _ _ us hl => match us, hl with | [_, _, _], _ => rfl), PySem.W.mg_of X G a19⟩
  have F__law_text := fun_mk (st := s__law_text) l20 c20 k20
  have D__law_text : Df K mg "_law_text" s__law_text ["_law_box", "_law_sheet_here", "_law_most"] := ⟨_, _, F__law_text, F__law_text.binds (ps := ["_law_box", "_law_sheet_here", "_law_most"]) (fun _ _ _ _ _ _ us hl => match us, hl with | [_, _, _], _ => rfl), PySem.W.mg_of X G a20⟩
  have F_without := fun_mk (st := s_without) l21 c21 k21
  have D_without : Df K mg "without" s_without ["tape", "place"] := ⟨_, _, F_without, F_without.binds (ps := ["tape", "place"]) (fun _ _ _ _ _ _ us hl => match us, hl with | [_, _], _ => rfl), PySem.W.mg_of X G a21⟩
  have F_all_spoilt := fun_mk (st := s_all_spoilt) l22 c22 k22
  have D_all_spoilt : Df K mg "all_spoilt" s_all_spoilt ["sheet", "tape", "begin"] := ⟨_, _, F_all_spoilt, F_all_spoilt.binds (ps := ["sheet", "tape", "begin"]) (fun _ _ _ _ _ _ us hl => match us, hl with | [_, _, _], _ => rfl), PySem.W.mg_of X G a22⟩
  have F_spoilt := fun_mk (st := s_spoilt) l23 c23 k23
  have D_spoilt : Df K mg "spoilt" s_spoilt ["sheet", "tape", "begin"] := ⟨_, _, F_spoilt, F_spoilt.binds (ps := ["sheet", "tape", "begin"]) (fun _ _ _ _ _ _ us hl => match us, hl with | [_, _, _], _ => rfl), PySem.W.mg_of X G a23⟩
  have F_lost_at := fun_mk (st := s_lost_at) l24 c24 k24
  have D_lost_at : Df K mg "lost_at" s_lost_at ["sheet", "tape", "begin", "text"] := ⟨_, _, F_lost_at, F_lost_at.binds (ps := ["sheet", "tape", "begin", "text"]) (fun _ _ _ _ _ _ us hl => match us, hl with | [_, _, _, _], _ => rfl), PySem.W.mg_of X G a24⟩
  have F_need_most := fun_mk (st := s_need_most) l25 c25 k25
  have D_need_most : Df K mg "need_most" s_need_most ["most"] := ⟨_, _, F_need_most, F_need_most.binds (ps := ["most"]) (fun _ _ _ _ _ _ us hl => match us, hl with | [_], _ => rfl), PySem.W.mg_of X G a25⟩
  have F_is_guarded := fun_mk (st := s_is_guarded) l26 c26 k26
  have D_is_guarded : Df K mg "is_guarded" s_is_guarded ["sheet", "tape", "begin", "most"] := ⟨_, _, F_is_guarded, F_is_guarded.binds (ps := ["sheet", "tape", "begin", "most"]) (fun _ _ _ _ _ _ us hl => match us, hl with | [_, _, _, _], _ => rfl), PySem.W.mg_of X G a26⟩
  have F_steps_from := fun_mk (st := s_steps_from) l27 c27 k27
  have D_steps_from : Df K mg "steps_from" s_steps_from ["sheet", "text", "most", "state"] := ⟨_, _, F_steps_from, F_steps_from.binds (ps := ["sheet", "text", "most", "state"]) (fun _ _ _ _ _ _ us hl => match us, hl with | [_, _, _, _], _ => rfl), PySem.W.mg_of X G a27⟩
  have F_guarded := fun_mk (st := s_guarded) l28 c28 k28
  have D_guarded : Df K mg "guarded" s_guarded ["sheet", "text", "begin", "most"] := ⟨_, _, F_guarded, F_guarded.binds (ps := ["sheet", "text", "begin", "most"]) (fun _ _ _ _ _ _ us hl => match us, hl with | [_, _, _, _], _ => rfl), PySem.W.mg_of X G a28⟩
  have F_set_at := fun_mk (st := s_set_at) l29 c29 k29
  have D_set_at : Df K mg "set_at" s_set_at ["sheet", "tape", "begin"] := ⟨_, _, F_set_at, F_set_at.binds (ps := ["sheet", "tape", "begin"]) (fun _ _ _ _ _ _ us hl => match us, hl with | [_, _, _], _ => rfl), PySem.W.mg_of X G a29⟩
  have F_led_in := fun_mk (st := s_led_in) l30 c30 k30
  have D_led_in : Df K mg "led_in" s_led_in ["sheet", "tape", "begin", "here"] := ⟨_, _, F_led_in, F_led_in.binds (ps := ["sheet", "tape", "begin", "here"]) (fun _ _ _ _ _ _ us hl => match us, hl with | [_, _, _, _], _ => rfl), PySem.W.mg_of X G a30⟩
  have F_joined := fun_mk (st := s_joined) l31 c31 k31
  have D_joined : Df K mg "joined" s_joined ["sheet", "tapes", "begin"] := ⟨_, _, F_joined, F_joined.binds (ps := ["sheet", "tapes", "begin"]) (fun _ _ _ _ _ _ us hl => match us, hl with | [_, _, _], _ => rfl), PySem.W.mg_of X G a31⟩
  have F_cut := fun_mk (st := s_cut) l32 c32 k32
  have D_cut : Df K mg "cut" s_cut ["sheet", "tape", "begin", "place"] := ⟨_, _, F_cut, F_cut.binds (ps := ["sheet", "tape", "begin", "place"]) (fun _ _ _ _ _ _ us hl => match us, hl with | [_, _, _, _], _ => rfl), PySem.W.mg_of X G a32⟩
  have F_either := fun_mk (st := s_either) l33 c33 k33
  have D_either : Df K mg "either" s_either ["sheet", "text"] := ⟨_, _, F_either, F_either.binds (ps := ["sheet", "text"]) (fun _ _ _ _ _ _ us hl => match us, hl with | [_, _], _ => rfl), PySem.W.mg_of X G a33⟩
  have F_written := fun_mk (st := s_written) l34 c34 k34
  have D_written : Df K mg "written" s_written ["sheet"] := ⟨_, _, F_written, F_written.binds (ps := ["sheet"]) (fun _ _ _ _ _ _ us hl => match us, hl with | [_], _ => rfl), PySem.W.mg_of X G a34⟩
  have F__law_class := fun_mk (st := s__law_class) l35 c35 k35
  have D__law_class : Df K mg "_law_class" s__law_class ["_law_e"] := ⟨_, _, F__law_class, F__law_class.binds (ps := ["_law_e"]) (fun _ _ _ _ _ _ us hl => match us, hl with | [_], _ => rfl), PySem.W.mg_of X G a35⟩
  have F__law_refused := fun_mk (st := s__law_refused) l36 c36 k36
  have D__law_refused : Df K mg "_law_refused" s__law_refused ["_law_work"] := ⟨_, _, F__law_refused, F__law_refused.binds (ps := ["_law_work"]) (fun _ _ _ _ _ _ us hl => match us, hl with | [_], _ => rfl), PySem.W.mg_of X G a36⟩
  have F__law_all := fun_mk (st := s__law_all) l37 c37 k37
  have D__law_all : Df K mg "_law_all" s__law_all ["_law_works", "_law_due"] := ⟨_, _, F__law_all, F__law_all.binds (ps := ["_law_works", "_law_due"]) (fun _ _ _ _ _ _ us hl => match us, hl with | [_, _], _ => rfl), PySem.W.mg_of X G a37⟩
  have F__law_of_tapes := fun_mk (st := s__law_of_tapes) l38 c38 k38
  have B__law_of_tapes := F__law_of_tapes.binds (ps := ["_law_sheet_here", "_law_tape_here", "_law_begin", "_law_place"]) (fun _ _ _ _ _ _ us hl => match us, hl with | [_, _, _, _], _ => rfl)
  obtain ⟨hd__law_of_tapes, em__law_of_tapes⟩ := tabs "_law_of_tapes" (by simp) _ _ (tab_in a38 l38 rfl u38 v38)
  have F__law_of_texts := fun_mk (st := s__law_of_texts) l39 c39 k39
  have B__law_of_texts := F__law_of_texts.binds (ps := ["_law_sheet_here", "_law_text_here", "_law_begin", "_law_most"]) (fun _ _ _ _ _ _ us hl => match us, hl with | [_, _, _, _], _ => rfl)
  obtain ⟨hd__law_of_texts, em__law_of_texts⟩ := tabs "_law_of_texts" (by simp) _ _ (tab_in a39 l39 rfl u39 v39)
  have F__law_bad := fun_mk (st := s__law_bad) l40 c40 k40
  have D__law_bad : Df K mg "_law_bad" s__law_bad ["_law_box", "_law_sheet_here"] := ⟨_, _, F__law_bad, F__law_bad.binds (ps := ["_law_box", "_law_sheet_here"]) (fun _ _ _ _ _ _ us hl => match us, hl with | [_, _], _ => rfl), PySem.W.mg_of X G a40⟩
  have F__law_sheets := fun_mk (st := s__law_sheets) l41 c41 k41
  have B__law_sheets := F__law_sheets.binds (ps := ["_law_box", "_law_sheet_here"]) (fun _ _ _ _ _ _ us hl => match us, hl with | [_, _], _ => rfl)
  obtain ⟨hd__law_sheets, em__law_sheets⟩ := tabs "_law_sheets" (by simp) _ _ (tab_in a41 l41 rfl u41 v41)
  have F__law_tapes := fun_mk (st := s__law_tapes) l42 c42 k42
  have D__law_tapes : Df K mg "_law_tapes" s__law_tapes ["_law_box", "_law_sheet_here", "_law_tape_here"] := ⟨_, _, F__law_tapes, F__law_tapes.binds (ps := ["_law_box", "_law_sheet_here", "_law_tape_here"]) (fun _ _ _ _ _ _ us hl => match us, hl with | [_, _, _], _ => rfl), PySem.W.mg_of X G a42⟩
  have F_law := fun_mk (st := s_law) l43 c43 k43
  have B_law := F_law.binds (ps := ["_law_script"]) (fun _ _ _ _ _ _ us hl => match us, hl with | [_], _ => rfl)
  obtain ⟨hd_law, em_law⟩ := tabs "law" (by simp) _ _ (tab_in a43 l43 rfl u43 v43)
  generalize hTT : ([(pT__law_of_tapes, (Str.ofString "_law_of_tapes" ++ ".<locals>.") ++ "<lambda>"), (pT__law_of_texts, (Str.ofString "_law_of_texts" ++ ".<locals>.") ++ "<lambda>"), (pT__law_sheets, (Str.ofString "_law_sheets" ++ ".<locals>.") ++ "<lambda>"), (pT_law, (Str.ofString "law" ++ ".<locals>.") ++ "<lambda>")] : List (Addr × Str)) = TTs
  have hm__law_of_tapes : (pT__law_of_tapes, (Str.ofString "_law_of_tapes" ++ ".<locals>.") ++ "<lambda>") ∈ TTs := by rw [← hTT]; simp
  have hu__law_of_tapes : ∀ p ∈ TTs, p.1 = pT__law_of_tapes → p.2 = (Str.ofString "_law_of_tapes" ++ ".<locals>.") ++ "<lambda>" := by
    intro p hp e
    rw [← hTT] at hp
    simp only [List.mem_cons, List.not_mem_nil, or_false] at hp
    rcases hp with z | z | z | z
    · rw [z]
    · rw [z] at e; exact absurd e (Ne.symm ne_0_1)
    · rw [z] at e; exact absurd e (Ne.symm ne_0_2)
    · rw [z] at e; exact absurd e (Ne.symm ne_0_3)
  have hm__law_of_texts : (pT__law_of_texts, (Str.ofString "_law_of_texts" ++ ".<locals>.") ++ "<lambda>") ∈ TTs := by rw [← hTT]; simp
  have hu__law_of_texts : ∀ p ∈ TTs, p.1 = pT__law_of_texts → p.2 = (Str.ofString "_law_of_texts" ++ ".<locals>.") ++ "<lambda>" := by
    intro p hp e
    rw [← hTT] at hp
    simp only [List.mem_cons, List.not_mem_nil, or_false] at hp
    rcases hp with z | z | z | z
    · rw [z] at e; exact absurd e ne_0_1
    · rw [z]
    · rw [z] at e; exact absurd e (Ne.symm ne_1_2)
    · rw [z] at e; exact absurd e (Ne.symm ne_1_3)
  have hm__law_sheets : (pT__law_sheets, (Str.ofString "_law_sheets" ++ ".<locals>.") ++ "<lambda>") ∈ TTs := by rw [← hTT]; simp
  have hu__law_sheets : ∀ p ∈ TTs, p.1 = pT__law_sheets → p.2 = (Str.ofString "_law_sheets" ++ ".<locals>.") ++ "<lambda>" := by
    intro p hp e
    rw [← hTT] at hp
    simp only [List.mem_cons, List.not_mem_nil, or_false] at hp
    rcases hp with z | z | z | z
    · rw [z] at e; exact absurd e ne_0_2
    · rw [z] at e; exact absurd e ne_1_2
    · rw [z]
    · rw [z] at e; exact absurd e (Ne.symm ne_2_3)
  have hm_law : (pT_law, (Str.ofString "law" ++ ".<locals>.") ++ "<lambda>") ∈ TTs := by rw [← hTT]; simp
  have hu_law : ∀ p ∈ TTs, p.1 = pT_law → p.2 = (Str.ofString "law" ++ ".<locals>.") ++ "<lambda>" := by
    intro p hp e
    rw [← hTT] at hp
    simp only [List.mem_cons, List.not_mem_nil, or_false] at hp
    rcases hp with z | z | z | z
    · rw [z] at e; exact absurd e ne_0_3
    · rw [z] at e; exact absurd e ne_1_3
    · rw [z] at e; exact absurd e ne_2_3
    · rw [z]
  refine ⟨PySem.W.fnOf "law" "law" (defArgs s_law) (defBody s_law) (defScope s_law) .none kV43 dc43 pm43 an43 (.ref cA43) ct43, [(cA38, pT__law_of_tapes), (cA39, pT__law_of_texts), (cA41, pT__law_sheets), (cA43, pT_law)], spLaw K TTs, (by intro p hp; simp only [List.mem_cons, List.not_mem_nil, or_false] at hp; rcases hp with z | z | z | z <;> subst z <;> first | exact em__law_of_tapes | exact em__law_of_texts | exact em__law_sheets | exact em_law), (by intro p hp; simp only [List.mem_cons, List.not_mem_nil, or_false] at hp; rcases hp with z | z | z | z <;> subst z <;> first | exact n38 | exact n39 | exact n41 | exact n43), (by intro p hp; simp only [List.mem_cons, List.not_mem_nil, or_false] at hp; rcases hp with z | z | z | z <;> subst z <;> first | exact hd__law_of_tapes | exact hd__law_of_texts | exact hd__law_sheets | exact hd_law), fun s v => .of_eq rfl, fun H a ns hl _ hH hS => ⟨a, ns, rfl, hS, hl, fun p hp => ?_, fun _ => rfl⟩, fun base _ _ tb => ?_⟩
  · rw [← hTT] at hp
    simp only [List.mem_cons, List.not_mem_nil, or_false] at hp
    rcases hp with z | z | z | z <;> subst z
    · exact LamX.TabS.nil (hH (cA38, pT__law_of_tapes) (by simp))
    · exact LamX.TabS.nil (hH (cA39, pT__law_of_texts) (by simp))
    · exact LamX.TabS.nil (hH (cA41, pT__law_sheets) (by simp))
    · exact LamX.TabS.nil (hH (cA43, pT_law) (by simp))
  · have D__law_of_tapes : DfT K mg base "_law_of_tapes" s__law_of_tapes ["_law_sheet_here", "_law_tape_here", "_law_begin", "_law_place"] pT__law_of_tapes := ⟨_, _, _, _, _, _, _, _, _, _, l38, c38, k38, PySem.W.mg_of X G a38, B__law_of_tapes, tb (cA38, pT__law_of_tapes) (by simp)⟩
    have D__law_of_texts : DfT K mg base "_law_of_texts" s__law_of_texts ["_law_sheet_here", "_law_text_here", "_law_begin", "_law_most"] pT__law_of_texts := ⟨_, _, _, _, _, _, _, _, _, _, l39, c39, k39, PySem.W.mg_of X G a39, B__law_of_texts, tb (cA39, pT__law_of_texts) (by simp)⟩
    have D__law_sheets : DfT K mg base "_law_sheets" s__law_sheets ["_law_box", "_law_sheet_here"] pT__law_sheets := ⟨_, _, _, _, _, _, _, _, _, _, l41, c41, k41, PySem.W.mg_of X G a41, B__law_sheets, tb (cA41, pT__law_sheets) (by simp)⟩
    have D_law : FnT mg K base "law" s_law _ _ pT_law := ⟨_, _, _, _, _, _, _, _, _, rfl, l43, c43, tb (cA43, pT_law) (by simp)⟩
    have i_NoSign := iok_NoSign (P := l.prog) (w := w) (base := base) XT.b_TapeError XT.g_TapeError XT.o_NoSign XT.n_NoSign FI_NoSign in_NoSign ti_NoSign
    have i_BadTape := iok_BadTape (P := l.prog) (w := w) (base := base) XT.b_TapeError XT.g_TapeError XT.o_BadTape XT.n_BadTape FI_BadTape in_BadTape ti_BadTape
    have o__law_take := ok__law_take (P := l.prog) (w := w) (K := K) (mg := mg) (base := base) (k := 0) (F := D__law_take)
    have o_is_shift := ok_is_shift (P := l.prog) (w := w) (K := K) (mg := mg) (base := base) (k := 0) (T := T) (F := D_is_shift)
    have o_set_behind := ok_set_behind (P := l.prog) (w := w) (K := K) (mg := mg) (base := base) (k := 1) (T := T) (F := D_set_behind) (o_is_shift := o_is_shift.mono (by decide))
    have o_are_signs := ok_are_signs (P := l.prog) (w := w) (K := K) (mg := mg) (base := base) (k := 0) (T := T) (F := D_are_signs)
    have o_gone := ok_gone (P := l.prog) (w := w) (K := K) (mg := mg) (base := base) (k := 2) (T := T) (F := D_gone) (o_is_shift := o_is_shift.mono (by decide)) (o_set_behind := o_set_behind.mono (by decide))
    have o_need_sheet := ok_need_sheet (P := l.prog) (w := w) (K := K) (mg := mg) (base := base) (k := 1) (T := T) (F := D_need_sheet) (o_are_signs := o_are_signs.mono (by decide))
    have o_need_set := ok_need_set (P := l.prog) (w := w) (K := K) (mg := mg) (base := base) (k := 0) (T := T) (F := D_need_set)
    have o_need_tape := ok_need_tape (P := l.prog) (w := w) (K := K) (mg := mg) (base := base) (k := 0) (T := T) (F := D_need_tape)
    have o_need_all := ok_need_all (P := l.prog) (w := w) (K := K) (mg := mg) (base := base) (k := 2) (T := T) (F := D_need_all) (o_need_sheet := o_need_sheet.mono (by decide)) (o_need_tape := o_need_tape.mono (by decide)) (o_need_set := o_need_set.mono (by decide))
    have o_read := ok_read (P := l.prog) (w := w) (K := K) (mg := mg) (base := base) (k := 3) (T := T) (F := D_read) (o_need_all := o_need_all.mono (by decide)) (o_gone := o_gone.mono (by decide))
    have o_last_set := ok_last_set (P := l.prog) (w := w) (K := K) (mg := mg) (base := base) (k := 3) (T := T) (F := D_last_set) (o_need_all := o_need_all.mono (by decide)) (o_gone := o_gone.mono (by decide))
    have o__law_begun := ok__law_begun (P := l.prog) (w := w) (K := K) (mg := mg) (base := base) (k := 0) (T := T) (F := D__law_begun)
    have o__law_picked := ok__law_picked (P := l.prog) (w := w) (K := K) (mg := mg) (base := base) (k := 1) (T := T) (F := D__law_picked) (o__law_take := o__law_take.mono (by decide))
    have o__law_sheet := ok__law_sheet (P := l.prog) (w := w) (K := K) (mg := mg) (base := base) (k := 2) (T := T) (F := D__law_sheet) (o__law_take := o__law_take.mono (by decide)) (o__law_picked := o__law_picked.mono (by decide))
    have o__law_alike := ok__law_alike (P := l.prog) (w := w) (K := K) (mg := mg) (base := base) T D__law_alike 5
    have o_shift_to := ok_shift_to (P := l.prog) (w := w) (K := K) (mg := mg) (base := base) (k := 0) (T := T) (F := D_shift_to)
    have o_code_of := ok_code_of (P := l.prog) (w := w) (K := K) (mg := mg) (base := base) (k := 0) (T := T) (F := D_code_of)
    have o_need_text := ok_need_text (P := l.prog) (w := w) (K := K) (mg := mg) (base := base) (k := 0) (T := T) (F := D_need_text)
    have o_costs_of := ok_costs_of (P := l.prog) (w := w) (K := K) (mg := mg) (base := base) (k := 2) (T := T) (F := D_costs_of) (o_code_of := o_code_of.mono (by decide)) (o_set_behind := o_set_behind.mono (by decide))
    have o_shortest := ok_shortest (P := l.prog) (w := w) (K := K) (mg := mg) (base := base) (k := 3) (T := T) (F := D_shortest) (o_need_sheet := o_need_sheet.mono (by decide)) (o_need_text := o_need_text.mono (by decide)) (o_need_set := o_need_set.mono (by decide)) (o_costs_of := o_costs_of.mono (by decide)) (o_code_of := o_code_of.mono (by decide)) (o_set_behind := o_set_behind.mono (by decide)) (o_shift_to := o_shift_to.mono (by decide))
    have o__law_text := ok__law_text (P := l.prog) (w := w) (K := K) (mg := mg) (base := base) (k := 1) (T := T) (F := D__law_text) (o__law_take := o__law_take.mono (by decide))
    have o_without := ok_without (P := l.prog) (w := w) (K := K) (mg := mg) (base := base) (k := 0) (T := T) (F := D_without)
    have o_all_spoilt := ok_all_spoilt (P := l.prog) (w := w) (K := K) (mg := mg) (base := base) (k := 3) (T := T) (F := D_all_spoilt) (o_gone := o_gone.mono (by decide)) (o_is_shift := o_is_shift.mono (by decide)) (o_without := o_without.mono (by decide))
    have o_spoilt := ok_spoilt (P := l.prog) (w := w) (K := K) (mg := mg) (base := base) (k := 4) (T := T) (F := D_spoilt) (o_need_all := o_need_all.mono (by decide)) (o_all_spoilt := o_all_spoilt.mono (by decide))
    have o_lost_at := ok_lost_at (P := l.prog) (w := w) (K := K) (mg := mg) (base := base) (k := 3) (T := T) (F := D_lost_at) (o_need_all := o_need_all.mono (by decide)) (o_gone := o_gone.mono (by decide)) (o_is_shift := o_is_shift.mono (by decide)) (o_without := o_without.mono (by decide))
    have o_need_most := ok_need_most (P := l.prog) (w := w) (K := K) (mg := mg) (base := base) (k := 0) (T := T) (F := D_need_most)
    have o_is_guarded := ok_is_guarded (P := l.prog) (w := w) (K := K) (mg := mg) (base := base) (k := 4) (T := T) (F := D_is_guarded) (o_need_all := o_need_all.mono (by decide)) (o_need_most := o_need_most.mono (by decide)) (o_all_spoilt := o_all_spoilt.mono (by decide))
    have o_steps_from := ok_steps_from (P := l.prog) (w := w) (K := K) (mg := mg) (base := base) (k := 2) (T := T) (F := D_steps_from) (o_code_of := o_code_of.mono (by decide)) (o_shift_to := o_shift_to.mono (by decide)) (o_set_behind := o_set_behind.mono (by decide))
    have o_guarded := ok_guarded (P := l.prog) (w := w) (K := K) (mg := mg) (base := base) (k := 3) (T := T) (F := D_guarded) (o_need_sheet := o_need_sheet.mono (by decide)) (o_need_text := o_need_text.mono (by decide)) (o_need_set := o_need_set.mono (by decide)) (o_need_most := o_need_most.mono (by decide)) (o_steps_from := o_steps_from.mono (by decide))
    have o_set_at := ok_set_at (P := l.prog) (w := w) (K := K) (mg := mg) (base := base) (k := 3) (T := T) (F := D_set_at) (o_gone := o_gone.mono (by decide))
    have o_led_in := ok_led_in (P := l.prog) (w := w) (K := K) (mg := mg) (base := base) (k := 3) (T := T) (F := D_led_in) (o_gone := o_gone.mono (by decide)) (o_shift_to := o_shift_to.mono (by decide))
    have o_joined := ok_joined (P := l.prog) (w := w) (K := K) (mg := mg) (base := base) (k := 4) (T := T) (F := D_joined) (o_need_sheet := o_need_sheet.mono (by decide)) (o_need_set := o_need_set.mono (by decide)) (o_need_tape := o_need_tape.mono (by decide)) (o_led_in := o_led_in.mono (by decide)) (o_set_at := o_set_at.mono (by decide))
    have o_cut := ok_cut (P := l.prog) (w := w) (K := K) (mg := mg) (base := base) (k := 4) (T := T) (F := D_cut) (o_need_all := o_need_all.mono (by decide)) (o_led_in := o_led_in.mono (by decide)) (o_set_at := o_set_at.mono (by decide))
    have x_need_sheet := okx_need_sheet (P := l.prog) (w := w) (K := K) (mg := mg) (base := base) (k := 1) (T := T) (F := D_need_sheet) (XT := XT) (o_are_signs := o_are_signs.mono (by decide))
    have x_need_set := okx_need_set (P := l.prog) (w := w) (K := K) (mg := mg) (base := base) (k := 0) (T := T) (F := D_need_set) (XT := XT)
    have x_need_tape := okx_need_tape (P := l.prog) (w := w) (K := K) (mg := mg) (base := base) (k := 2) (T := T) (F := D_need_tape) (XT := XT) (i_BadTape := i_BadTape.mono (by decide))
    have x_need_text := okx_need_text (P := l.prog) (w := w) (K := K) (mg := mg) (base := base) (k := 2) (T := T) (F := D_need_text) (XT := XT) (i_NoSign := i_NoSign.mono (by decide))
    have x_need_most := okx_need_most (P := l.prog) (w := w) (K := K) (mg := mg) (base := base) (k := 0) (T := T) (F := D_need_most) (XT := XT)
    have x_need_all := okx_need_all (P := l.prog) (w := w) (K := K) (mg := mg) (base := base) (k := 3) (T := T) (F := D_need_all) (XT := XT) (o_need_sheet := o_need_sheet.mono (by decide)) (x_need_sheet := x_need_sheet.mono (by decide)) (o_need_tape := o_need_tape.mono (by decide)) (x_need_tape := x_need_tape.mono (by decide)) (o_need_set := o_need_set.mono (by decide)) (x_need_set := x_need_set.mono (by decide))
    have x_read := okx_read (P := l.prog) (w := w) (K := K) (mg := mg) (base := base) (k := 4) (T := T) (F := D_read) (XT := XT) (o_need_all := o_need_all.mono (by decide)) (x_need_all := x_need_all.mono (by decide))
    have x_last_set := okx_last_set (P := l.prog) (w := w) (K := K) (mg := mg) (base := base) (k := 4) (T := T) (F := D_last_set) (XT := XT) (o_need_all := o_need_all.mono (by decide)) (x_need_all := x_need_all.mono (by decide))
    have x_spoilt := okx_spoilt (P := l.prog) (w := w) (K := K) (mg := mg) (base := base) (k := 4) (T := T) (F := D_spoilt) (XT := XT) (o_need_all := o_need_all.mono (by decide)) (x_need_all := x_need_all.mono (by decide))
    have x_lost_at := okx_lost_at (P := l.prog) (w := w) (K := K) (mg := mg) (base := base) (k := 4) (T := T) (F := D_lost_at) (XT := XT) (o_need_all := o_need_all.mono (by decide)) (x_need_all := x_need_all.mono (by decide))
    have x_is_guarded := okx_is_guarded (P := l.prog) (w := w) (K := K) (mg := mg) (base := base) (k := 4) (T := T) (F := D_is_guarded) (XT := XT) (o_need_all := o_need_all.mono (by decide)) (x_need_all := x_need_all.mono (by decide)) (o_need_most := o_need_most.mono (by decide)) (x_need_most := x_need_most.mono (by decide))
    have x_cut := okx_cut (P := l.prog) (w := w) (K := K) (mg := mg) (base := base) (k := 4) (T := T) (F := D_cut) (XT := XT) (o_need_all := o_need_all.mono (by decide)) (x_need_all := x_need_all.mono (by decide))
    have x_joined := okx_joined (P := l.prog) (w := w) (K := K) (mg := mg) (base := base) (k := 3) (T := T) (F := D_joined) (XT := XT) (o_need_sheet := o_need_sheet.mono (by decide)) (x_need_sheet := x_need_sheet.mono (by decide)) (o_need_tape := o_need_tape.mono (by decide)) (x_need_tape := x_need_tape.mono (by decide)) (o_need_set := o_need_set.mono (by decide)) (x_need_set := x_need_set.mono (by decide))
    have x_shortest := okx_shortest (P := l.prog) (w := w) (K := K) (mg := mg) (base := base) (k := 3) (T := T) (F := D_shortest) (XT := XT) (o_need_sheet := o_need_sheet.mono (by decide)) (x_need_sheet := x_need_sheet.mono (by decide)) (o_need_text := o_need_text.mono (by decide)) (x_need_text := x_need_text.mono (by decide)) (o_need_set := o_need_set.mono (by decide)) (x_need_set := x_need_set.mono (by decide))
    have x_guarded := okx_guarded (P := l.prog) (w := w) (K := K) (mg := mg) (base := base) (k := 3) (T := T) (F := D_guarded) (XT := XT) (o_need_sheet := o_need_sheet.mono (by decide)) (x_need_sheet := x_need_sheet.mono (by decide)) (o_need_text := o_need_text.mono (by decide)) (x_need_text := x_need_text.mono (by decide)) (o_need_set := o_need_set.mono (by decide)) (x_need_set := x_need_set.mono (by decide)) (o_need_most := o_need_most.mono (by decide)) (x_need_most := x_need_most.mono (by decide))
    have x_either := okx_either (P := l.prog) (w := w) (K := K) (mg := mg) (base := base) (k := 3) (T := T) (F := D_either) (XT := XT) (o_need_sheet := o_need_sheet.mono (by decide)) (x_need_sheet := x_need_sheet.mono (by decide)) (o_need_text := o_need_text.mono (by decide)) (x_need_text := x_need_text.mono (by decide))
    have x_written := okx_written (P := l.prog) (w := w) (K := K) (mg := mg) (base := base) (k := 2) (T := T) (F := D_written) (XT := XT) (o_need_sheet := o_need_sheet.mono (by decide)) (x_need_sheet := x_need_sheet.mono (by decide))
    have o__law_class := ok__law_class (P := l.prog) (w := w) (K := K) (mg := mg) (base := base) (k := 0) (T := T) (F := D__law_class) (XT := XT)
    have o__law_refused := ok__law_refused (P := l.prog) (w := w) (K := K) (mg := mg) (base := base) (k := 15) (T := T) (F := D__law_refused) (hk := by decide) (XT := XT) (o__law_class := o__law_class.mono (by decide))
    have o__law_all := ok__law_all (P := l.prog) (w := w) (K := K) (mg := mg) (base := base) (k := 16) (T := T) (F := D__law_all) (o__law_alike := o__law_alike.mono (by decide)) (o__law_refused := o__law_refused.mono (by decide))
    have o__law_of_tapes := ok__law_of_tapes (P := l.prog) (w := w) (K := K) (mg := mg) (base := base) (k := 0) (T := T) (F := D__law_of_tapes) (TTs := TTs) (PT := pT__law_of_tapes) (hm := hm__law_of_tapes) (hu := hu__law_of_tapes) (o_read := o_read.mono (by decide)) (x_read := x_read.mono (by decide)) (o_last_set := o_last_set.mono (by decide)) (x_last_set := x_last_set.mono (by decide)) (o_spoilt := o_spoilt.mono (by decide)) (x_spoilt := x_spoilt.mono (by decide)) (o_lost_at := o_lost_at.mono (by decide)) (x_lost_at := x_lost_at.mono (by decide)) (o_is_guarded := o_is_guarded.mono (by decide)) (x_is_guarded := x_is_guarded.mono (by decide)) (o_cut := o_cut.mono (by decide)) (x_cut := x_cut.mono (by decide)) (o_joined := o_joined.mono (by decide)) (x_joined := x_joined.mono (by decide))
    have o__law_of_texts := ok__law_of_texts (P := l.prog) (w := w) (K := K) (mg := mg) (base := base) (k := 0) (T := T) (F := D__law_of_texts) (TTs := TTs) (PT := pT__law_of_texts) (hm := hm__law_of_texts) (hu := hu__law_of_texts) (o_shortest := o_shortest.mono (by decide)) (x_shortest := x_shortest.mono (by decide)) (o_guarded := o_guarded.mono (by decide)) (x_guarded := x_guarded.mono (by decide))
    have o__law_bad := ok__law_bad (P := l.prog) (w := w) (K := K) (mg := mg) (base := base) (k := 1) (T := T) (F := D__law_bad) (o__law_take := o__law_take.mono (by decide))
    have o__law_sheets := ok__law_sheets (P := l.prog) (w := w) (K := K) (mg := mg) (base := base) (k := 17) (T := T) (F := D__law_sheets) (TTs := TTs) (PT := pT__law_sheets) (hm := hm__law_sheets) (hu := hu__law_sheets) (o__law_bad := o__law_bad.mono (by decide)) (o__law_of_tapes := o__law_of_tapes.mono (by decide)) (o__law_of_texts := o__law_of_texts.mono (by decide)) (o__law_all := o__law_all.mono (by decide)) (x_either := x_either.mono (by decide)) (x_written := x_written.mono (by decide))
    have o__law_tapes := ok__law_tapes (P := l.prog) (w := w) (K := K) (mg := mg) (base := base) (k := 17) (T := T) (F := D__law_tapes) (o__law_take := o__law_take.mono (by decide)) (o__law_of_tapes := o__law_of_tapes.mono (by decide)) (o__law_all := o__law_all.mono (by decide))
    exact ok_law (k := 18) (T := T) (F := D_law) (TTs := TTs) (PT := pT_law) (hm := hm_law) (hu := hu_law) (o__law_begun := o__law_begun.mono (by decide)) (o__law_take := o__law_take.mono (by decide)) (o__law_sheet := o__law_sheet.mono (by decide)) (o__law_text := o__law_text.mono (by decide)) (o__law_sheets := o__law_sheets.mono (by decide)) (o__law_tapes := o__law_tapes.mono (by decide)) (o__law_of_tapes := o__law_of_tapes.mono (by decide)) (o__law_of_texts := o__law_of_texts.mono (by decide)) (o__law_all := o__law_all.mono (by decide)) (x_either := x_either.mono (by decide)) (o_cut := o_cut.mono (by decide)) (x_cut := x_cut.mono (by decide)) (o_is_guarded := o_is_guarded.mono (by decide)) (x_is_guarded := x_is_guarded.mono (by decide)) (o_guarded := o_guarded.mono (by decide)) (x_guarded := x_guarded.mono (by decide))
end Z
open PySem PySem.W PyProof.Rows
set_option maxRecDepth 100000 in
set_option maxHeartbeats 0 in
theorem PySem.Challenge.cw_shifttape_k01_refused_holds : PySem.Challenge.rw_shifttape_k01_refused.Holds := by
  w_on; o_law; k_head; (case hw => w_witness2)
  k_fill
  refine Z.walk_tabs (l := PySem.Challenge.rw_shifttape_k01_refused) (m := 63) (lev := 19) (par := "_law_script") ["_law_of_tapes", "_law_of_texts", "_law_sheets", "law"] rfl (by decide) rfl ⟨rfl, by decide, by decide⟩ (by kernel_rfl) (fun w h Y => PySem.W.km_in_of Y) ?F
  case F =>
    intro w mg fa h KX G hmg tabs
    refine' Z.all_mk KX G hmg tabs ?a0 ?l0 ?c0 ?k0 ?a1 ?l1 ?c1 ?k1 ?a2 ?l2 ?c2 ?k2 ?a3 ?l3 ?c3 ?k3 ?a4 ?l4 ?c4 ?k4 ?a5 ?l5 ?c5 ?k5 ?a6 ?l6 ?c6 ?k6 ?a7 ?l7 ?c7 ?k7 ?a8 ?l8 ?c8 ?k8 ?a9 ?l9 ?c9 ?k9 ?a10 ?l10 ?c10 ?k10 ?a11 ?l11 ?c11 ?k11 ?a12 ?l12 ?c12 ?k12 ?a13 ?l13 ?c13 ?k13 ?a14 ?l14 ?c14 ?k14 ?a15 ?l15 ?c15 ?k15 ?a16 ?l16 ?c16 ?k16 ?a17 ?l17 ?c17 ?k17 ?a18 ?l18 ?c18 ?k18 ?a19 ?l19 ?c19 ?k19 ?a20 ?l20 ?c20 ?k20 ?a21 ?l21 ?c21 ?k21 ?a22 ?l22 ?c22 ?k22 ?a23 ?l23 ?c23 ?k23 ?a24 ?l24 ?c24 ?k24 ?a25 ?l25 ?c25 ?k25 ?a26 ?l26 ?c26 ?k26 ?a27 ?l27 ?c27 ?k27 ?a28 ?l28 ?c28 ?k28 ?a29 ?l29 ?c29 ?k29 ?a30 ?l30 ?c30 ?k30 ?a31 ?l31 ?c31 ?k31 ?a32 ?l32 ?c32 ?k32 ?a33 ?l33 ?c33 ?k33 ?a34 ?l34 ?c34 ?k34 ?a35 ?l35 ?c35 ?k35 ?a36 ?l36 ?c36 ?k36 ?a37 ?l37 ?c37 ?k37 ?a38 ?l38 ?c38 ?k38 ?u38 ?a39 ?l39 ?c39 ?k39 ?u39 ?a40 ?l40 ?c40 ?k40 ?a41 ?l41 ?c41 ?k41 ?u41 ?a42 ?l42 ?c42 ?k42 ?a43 ?l43 ?c43 ?k43 ?u43 ?z_len ?z_range ?z_list ?z_int ?z_str ?z_all ?z_isinstance ?z_min ?z_sorted ?z_enumerate ?z_reversed ?z_set ?z_tuple ?z_bool ?z_ValueError ?y_MOST_SIGNS ?y_MOST_CODES ?y_MOST_TEXT ?y_FIRST ?y_LAST ?y_NONE ?y_NEVER ?y_NOTHING ?gx_TapeError ?gx_BadSheet ?gx_BadSet ?gx_BadTape ?gx_NoSign ?gx_BadCount ?gx_BadText ?x_k_BadSheet ?x_ex_BadSheet ?x_ty_BadSheet ?x_x_BadSheet ?x_h_BadSheet_TapeError ?x_is_BadSheet_BadSheet ?x_is_BadSheet_BadSet ?x_is_BadSheet_BadTape ?x_is_BadSheet_NoSign ?x_is_BadSheet_BadCount ?x_is_BadSheet_BadText ?x_iv_BadSheet ?x_k_BadSet ?x_ex_BadSet ?x_ty_BadSet ?x_x_BadSet ?x_h_BadSet_TapeError ?x_is_BadSet_BadSheet ?x_is_BadSet_BadSet ?x_is_BadSet_BadTape ?x_is_BadSet_NoSign ?x_is_BadSet_BadCount ?x_is_BadSet_BadText ?x_iv_BadSet ?x_k_BadTape ?x_ex_BadTape ?x_ty_BadTape ?x_n_BadTape ?x_h_BadTape_TapeError ?x_is_BadTape_BadSheet ?x_is_BadTape_BadSet ?x_is_BadTape_BadTape ?x_is_BadTape_NoSign ?x_is_BadTape_BadCount ?x_is_BadTape_BadText ?x_iv_BadTape ?x_k_NoSign ?x_ex_NoSign ?x_ty_NoSign ?x_n_NoSign ?x_h_NoSign_TapeError ?x_is_NoSign_BadSheet ?x_is_NoSign_BadSet ?x_is_NoSign_BadTape ?x_is_NoSign_NoSign ?x_is_NoSign_BadCount ?x_is_NoSign_BadText ?x_iv_NoSign ?x_k_BadCount ?x_ex_BadCount ?x_ty_BadCount ?x_x_BadCount ?x_h_BadCount_TapeError ?x_is_BadCount_BadSheet ?x_is_BadCount_BadSet ?x_is_BadCount_BadTape ?x_is_BadCount_NoSign ?x_is_BadCount_BadCount ?x_is_BadCount_BadText ?x_iv_BadCount ?gx_hn ?gx_ht ?ga_BadSheet ?gg_BadSheet ?hd_BadSheet ?ca_BadSheet ?mo_BadSheet ?ga_BadSet ?gg_BadSet ?hd_BadSet ?ca_BadSet ?mo_BadSet ?ga_BadTape ?gg_BadTape ?hd_BadTape ?ca_BadTape ?mo_BadTape ?sa_BadTape ?xl_BadTape ?in_BadTape ?ti_BadTape ?li_BadTape ?ci_BadTape ?ki_BadTape ?ga_NoSign ?gg_NoSign ?hd_NoSign ?ca_NoSign ?mo_NoSign ?sa_NoSign ?xl_NoSign ?in_NoSign ?ti_NoSign ?li_NoSign ?ci_NoSign ?ki_NoSign ?ga_BadCount ?gg_BadCount ?hd_BadCount ?ca_BadCount ?mo_BadCount ?br_TapeError ?bg_TapeError ?bi_TapeError ?v38 ?n38 ?v39 ?n39 ?v41 ?n41 ?v43 ?n43 ?ne_0_1 ?ne_0_2 ?ne_0_3 ?ne_1_2 ?ne_1_3 ?ne_2_3
    (case a0 => k_is); (case l0 => k_is); (case c0 => k_is); (case k0 => k_is); (case a1 => k_is); (case l1 => k_is); (case c1 => k_is); (case k1 => k_is)
    (case a2 => k_is); (case l2 => k_is); (case c2 => k_is); (case k2 => k_is); (case a3 => k_is); (case l3 => k_is); (case c3 => k_is); (case k3 => k_is)
    (case a4 => k_is); (case l4 => k_is); (case c4 => k_is); (case k4 => k_is); (case a5 => k_is); (case l5 => k_is); (case c5 => k_is); (case k5 => k_is)
    (case a6 => k_is); (case l6 => k_is); (case c6 => k_is); (case k6 => k_is); (case a7 => k_is); (case l7 => k_is); (case c7 => k_is); (case k7 => k_is)
    (case a8 => k_is); (case l8 => k_is); (case c8 => k_is); (case k8 => k_is); (case a9 => k_is); (case l9 => k_is); (case c9 => k_is); (case k9 => k_is)
    (case a10 => k_is); (case l10 => k_is); (case c10 => k_is); (case k10 => k_is); (case a11 => k_is); (case l11 => k_is); (case c11 => k_is); (case k11 => k_is)
    (case a12 => k_is); (case l12 => k_is); (case c12 => k_is); (case k12 => k_is); (case a13 => k_is); (case l13 => k_is); (case c13 => k_is); (case k13 => k_is)
    (case a14 => k_is); (case l14 => k_is); (case c14 => k_is); (case k14 => k_is); (case a15 => k_is); (case l15 => k_is); (case c15 => k_is); (case k15 => k_is)
    (case a16 => k_is); (case l16 => k_is); (case c16 => k_is); (case k16 => k_is); (case a17 => k_is); (case l17 => k_is); (case c17 => k_is); (case k17 => k_is)
    (case a18 => k_is); (case l18 => k_is); (case c18 => k_is); (case k18 => k_is); (case a19 => k_is); (case l19 => k_is); (case c19 => k_is); (case k19 => k_is)
    (case a20 => k_is); (case l20 => k_is); (case c20 => k_is); (case k20 => k_is); (case a21 => k_is); (case l21 => k_is); (case c21 => k_is); (case k21 => k_is)
    (case a22 => k_is); (case l22 => k_is); (case c22 => k_is); (case k22 => k_is); (case a23 => k_is); (case l23 => k_is); (case c23 => k_is); (case k23 => k_is)
    (case a24 => k_is); (case l24 => k_is); (case c24 => k_is); (case k24 => k_is); (case a25 => k_is); (case l25 => k_is); (case c25 => k_is); (case k25 => k_is)
    (case a26 => k_is); (case l26 => k_is); (case c26 => k_is); (case k26 => k_is); (case a27 => k_is); (case l27 => k_is); (case c27 => k_is); (case k27 => k_is)
    (case a28 => k_is); (case l28 => k_is); (case c28 => k_is); (case k28 => k_is); (case a29 => k_is); (case l29 => k_is); (case c29 => k_is); (case k29 => k_is)
    (case a30 => k_is); (case l30 => k_is); (case c30 => k_is); (case k30 => k_is); (case a31 => k_is); (case l31 => k_is); (case c31 => k_is); (case k31 => k_is)
    (case a32 => k_is); (case l32 => k_is); (case c32 => k_is); (case k32 => k_is); (case a33 => k_is); (case l33 => k_is); (case c33 => k_is); (case k33 => k_is)
    (case a34 => k_is); (case l34 => k_is); (case c34 => k_is); (case k34 => k_is); (case a35 => k_is); (case l35 => k_is); (case c35 => k_is); (case k35 => k_is)
    (case a36 => k_is); (case l36 => k_is); (case c36 => k_is); (case k36 => k_is); (case a37 => k_is); (case l37 => k_is); (case c37 => k_is); (case k37 => k_is)
    (case a38 => k_is); (case l38 => k_is); (case c38 => k_is); (case k38 => k_is); (case u38 => k_is); (case a39 => k_is); (case l39 => k_is); (case c39 => k_is)
    (case k39 => k_is); (case u39 => k_is); (case a40 => k_is); (case l40 => k_is); (case c40 => k_is); (case k40 => k_is); (case a41 => k_is); (case l41 => k_is)
    (case c41 => k_is); (case k41 => k_is); (case u41 => k_is); (case a42 => k_is); (case l42 => k_is); (case c42 => k_is); (case k42 => k_is); (case a43 => k_is)
    (case l43 => k_is); (case c43 => k_is); (case k43 => k_is); (case u43 => k_is); (case z_len => k_is); (case z_range => k_is); (case z_list => k_is); (case z_int => k_is)
    (case z_str => k_is); (case z_all => k_is); (case z_isinstance => k_is); (case z_min => k_is); (case z_sorted => k_is); (case z_enumerate => k_is); (case z_reversed => k_is); (case z_set => k_is)
    (case z_tuple => k_is); (case z_bool => k_is); (case z_ValueError => k_is); (case y_MOST_SIGNS => k_is); (case y_MOST_CODES => k_is); (case y_MOST_TEXT => k_is); (case y_FIRST => k_is); (case y_LAST => k_is)
    (case y_NONE => k_is); (case y_NEVER => k_is); (case y_NOTHING => k_is); (case gx_TapeError => k_is); (case gx_BadSheet => k_is); (case gx_BadSet => k_is); (case gx_BadTape => k_is); (case gx_NoSign => k_is)
    (case gx_BadCount => k_is); (case gx_BadText => k_is); (case x_k_BadSheet => k_is); (case x_ex_BadSheet => k_is); (case x_ty_BadSheet => k_is); (case x_x_BadSheet => first | k_exc | kernel_rfl); (case x_h_BadSheet_TapeError => kernel_rfl); (case x_is_BadSheet_BadSheet => kernel_rfl)
    (case x_is_BadSheet_BadSet => kernel_rfl); (case x_is_BadSheet_BadTape => kernel_rfl); (case x_is_BadSheet_NoSign => kernel_rfl); (case x_is_BadSheet_BadCount => kernel_rfl); (case x_is_BadSheet_BadText => kernel_rfl); (case x_iv_BadSheet => kernel_rfl); (case x_k_BadSet => k_is); (case x_ex_BadSet => k_is)
    (case x_ty_BadSet => k_is); (case x_x_BadSet => first | k_exc | kernel_rfl); (case x_h_BadSet_TapeError => kernel_rfl); (case x_is_BadSet_BadSheet => kernel_rfl); (case x_is_BadSet_BadSet => kernel_rfl); (case x_is_BadSet_BadTape => kernel_rfl); (case x_is_BadSet_NoSign => kernel_rfl); (case x_is_BadSet_BadCount => kernel_rfl)
    (case x_is_BadSet_BadText => kernel_rfl); (case x_iv_BadSet => kernel_rfl); (case x_k_BadTape => k_is); (case x_ex_BadTape => k_is); (case x_ty_BadTape => k_is); (case x_n_BadTape => k_is); (case x_h_BadTape_TapeError => kernel_rfl); (case x_is_BadTape_BadSheet => kernel_rfl)
    (case x_is_BadTape_BadSet => kernel_rfl); (case x_is_BadTape_BadTape => kernel_rfl); (case x_is_BadTape_NoSign => kernel_rfl); (case x_is_BadTape_BadCount => kernel_rfl); (case x_is_BadTape_BadText => kernel_rfl); (case x_iv_BadTape => kernel_rfl); (case x_k_NoSign => k_is); (case x_ex_NoSign => k_is)
    (case x_ty_NoSign => k_is); (case x_n_NoSign => k_is); (case x_h_NoSign_TapeError => kernel_rfl); (case x_is_NoSign_BadSheet => kernel_rfl); (case x_is_NoSign_BadSet => kernel_rfl); (case x_is_NoSign_BadTape => kernel_rfl); (case x_is_NoSign_NoSign => kernel_rfl); (case x_is_NoSign_BadCount => kernel_rfl)
    (case x_is_NoSign_BadText => kernel_rfl); (case x_iv_NoSign => kernel_rfl); (case x_k_BadCount => k_is); (case x_ex_BadCount => k_is); (case x_ty_BadCount => k_is); (case x_x_BadCount => first | k_exc | kernel_rfl); (case x_h_BadCount_TapeError => kernel_rfl); (case x_is_BadCount_BadSheet => kernel_rfl)
    (case x_is_BadCount_BadSet => kernel_rfl); (case x_is_BadCount_BadTape => kernel_rfl); (case x_is_BadCount_NoSign => kernel_rfl); (case x_is_BadCount_BadCount => kernel_rfl); (case x_is_BadCount_BadText => kernel_rfl); (case x_iv_BadCount => kernel_rfl); (case gx_hn => k_is); (case gx_ht => k_is)
    (case ga_BadSheet => k_is); (case gg_BadSheet => k_is); (case hd_BadSheet => k_is); (case ca_BadSheet => k_is); (case mo_BadSheet => k_is); (case ga_BadSet => k_is); (case gg_BadSet => k_is); (case hd_BadSet => k_is)
    (case ca_BadSet => k_is); (case mo_BadSet => k_is); (case ga_BadTape => k_is); (case gg_BadTape => k_is); (case hd_BadTape => k_is); (case ca_BadTape => k_is); (case mo_BadTape => k_is); (case sa_BadTape => k_is)
    (case xl_BadTape => k_is); (case in_BadTape => k_is); (case ti_BadTape => k_is); (case li_BadTape => k_is); (case ci_BadTape => k_is); (case ki_BadTape => k_is); (case ga_NoSign => k_is); (case gg_NoSign => k_is)
    (case hd_NoSign => k_is); (case ca_NoSign => k_is); (case mo_NoSign => k_is); (case sa_NoSign => k_is); (case xl_NoSign => k_is); (case in_NoSign => k_is); (case ti_NoSign => k_is); (case li_NoSign => k_is)
    (case ci_NoSign => k_is); (case ki_NoSign => k_is); (case ga_BadCount => k_is); (case gg_BadCount => k_is); (case hd_BadCount => k_is); (case ca_BadCount => k_is); (case mo_BadCount => k_is); (case br_TapeError => k_is)
    (case bg_TapeError => k_is); (case bi_TapeError => k_is)
    (case v38 => exact rfl)
    (case n38 => kernel_rfl)
    (case v39 => exact rfl)
    (case n39 => kernel_rfl)
    (case v41 => exact rfl)
    (case n41 => kernel_rfl)
    (case v43 => exact rfl)
    (case n43 => kernel_rfl)
    (case ne_0_1 => decide)
    (case ne_0_2 => decide)
    (case ne_0_3 => decide)
    (case ne_1_2 => decide)
    (case ne_1_3 => decide)
    (case ne_2_3 => decide)
