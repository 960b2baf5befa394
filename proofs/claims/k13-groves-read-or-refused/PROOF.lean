import PyProof.Rows.All
import Wide.All
import OpenK.AllK
import Wide.FinOn
import KE.KStateDown
import HandS.ForMost
import HandS.ForExc
import HandS.More
import HandS.Conv
import HandS.IsInst
import HandS.ExcIs
import HandS.Rev
import HandS.Style
import HandS.SortInts
import HandS.SetFor
import HandS.Wide
import HandS.TupLe
import KE.DataCmp
import HandS.Defaults
import HandS.Head0
import HandS.Head1
import HandS.Head2
import HandS.HeadEnd
import HandS.HeadHook1
import HandS.HeadHook2
import PySem.Challenge.RW_turnrow_k13_groves_read_or_refused
set_option Elab.async false
set_option linter.all false
set_option maxRecDepth 100000
set_option maxHeartbeats 4000000
/-! The ledger: what stands at the addresses that a def has made; the rest of the heap as it was. -/
namespace Tr
open PySem PySem.Spec PyProof.Rows L2

structure Led (H0 H : Hp) (l : List (Addr × HO)) : Prop where
  same : Same H0 H
  nd : (l.map (·.1)).Nodup
  new : ∀ p ∈ l, H0 p.1 = none
  has : ∀ p ∈ l, H p.1 = some p.2
/-- the tuples stay -/
def Ts (H H' : Hp) : Prop := ∀ b xs, H b = some (.tup xs) → H' b = some (.tup xs)
theorem Ts.refl (H : Hp) : Ts H H := fun _ _ h => h
theorem Ts.trans {A B C : Hp} (a : Ts A B) (b : Ts B C) : Ts A C := fun c xs h => b c xs (a c xs h)
theorem Ts.of {A B : Hp} (h : Same A B) : Ts A B := fun b xs e => h b _ e
theorem Same.push {H : Hp} {p : Addr} {o : HO} (h : H p = none) : Same H (upd H p o) := fun b x e => by
  rw [upd_ne (ne_of_none e h)]
  exact e
theorem Ts.put {H : Hp} {p : Addr} {xs : List V} {o : HO} (h : H p = some (.lst xs)) : Ts H (upd H p o) := fun b ys e => by
  have n : b ≠ p := fun z => by
    subst z
    rw [h] at e
    cases e
  rw [upd_ne n]
  exact e
section
variable {H0 H H' : Hp} {l m : List (Addr × HO)} {p q : Addr} {o o' : HO}
theorem Led.start (H : Hp) : Led H H [] := ⟨Same.refl H, by simp, by simp, by simp⟩
theorem Led.get (L : Led H0 H l) (i : Nat) (h : l[i]? = some (p, o) := by rfl) : H p = some o := L.has (p, o) (List.mem_of_getElem? h)
theorem Led.new' (L : Led H0 H l) (i : Nat) (h : l[i]? = some (p, o) := by rfl) : H0 p = none := L.new (p, o) (List.mem_of_getElem? h)
theorem Led.sq {K : PySem.W.Frag} {xs : List V} (L : Led H0 H l) (i : Nat) (h : l[i]? = some (p, .lst xs) := by rfl) : SqL K H p xs := SqL.of (L.get i h)
theorem Led.tq {K : PySem.W.Frag} {xs : List V} (L : Led H0 H l) (i : Nat) (h : l[i]? = some (p, .tup xs) := by rfl) : SqT K H p xs := SqT.of (L.get i h)
theorem Led.fresh (L : Led H0 H l) (h : H q = none) : q ∉ l.map (·.1) := fun z => by
  obtain ⟨x, hx, e⟩ := List.mem_map.mp z
  have := L.has x hx
  rw [e, h] at this
  cases this
theorem Led.push (L : Led H0 H l) (h : H p = none) : Led H0 (upd H p o) ((p, o) :: l) := by
  have h0 : H0 p = none := L.same.free h
  refine ⟨L.same.trans (Same.push h), ?_, ?_, ?_⟩
  · rw [List.map_cons, List.nodup_cons]
    exact ⟨L.fresh h, L.nd⟩
  · intro x hx
    rcases List.mem_cons.mp hx with rfl | hx
    · exact h0
    · exact L.new x hx
  · intro x hx
    rcases List.mem_cons.mp hx with rfl | hx
    · exact upd_same
    · have e := L.has x hx
      rw [upd_ne (ne_of_none e h)]
      exact e
theorem nodup_at {α β : Type} {l : List (α × β)} {i j : Nat} {a : α} {x y : β} (hn : (l.map (·.1)).Nodup) (h1 : l[i]? = some (a, x)) (h2 : l[j]? = some (a, y)) : i = j := by
  have e1 : (l.map (·.1))[i]? = some a := by rw [List.getElem?_map, h1]; rfl
  have e2 : (l.map (·.1))[j]? = some a := by rw [List.getElem?_map, h2]; rfl
  exact nodup_ix' hn e1 e2
where
  nodup_ix' {α : Type} {N : List α} (hN : N.Nodup) {i j : Nat} {x : α} (a : N[i]? = some x) (b : N[j]? = some x) : i = j := by
    obtain ⟨h1, e1⟩ := List.getElem?_eq_some_iff.mp a
    obtain ⟨h2, e2⟩ := List.getElem?_eq_some_iff.mp b
    exact (List.getElem_inj hN).mp (e1.trans e2.symm)
theorem Led.put (L : Led H0 H l) (i : Nat) (h : l[i]? = some (p, o)) : Led H0 (upd H p o') (l.set i (p, o')) := by
  have hp0 : H0 p = none := L.new' i h
  have hi : i < l.length := (List.getElem?_eq_some_iff.mp h).1
  have ek : (l.set i (p, o')).map (·.1) = l.map (·.1) := by
    apply List.ext_getElem?
    intro j
    rw [List.getElem?_map, List.getElem?_map, List.getElem?_set]
    by_cases e : i = j
    · subst e
      rw [if_pos rfl, if_pos hi, h]
      rfl
    · rw [if_neg e]
  refine ⟨fun b x e => ?_, ?_, ?_, ?_⟩
  · have n : b ≠ p := fun z => by
      subst z
      rw [hp0] at e
      cases e
    rw [upd_ne n]
    exact L.same b x e
  · rw [ek]
    exact L.nd
  · intro x hx
    rcases List.mem_or_eq_of_mem_set hx with hx | rfl
    · exact L.new x hx
    · exact hp0
  · intro x hx
    obtain ⟨j, hj⟩ := List.mem_iff_getElem?.mp hx
    rw [List.getElem?_set] at hj
    by_cases e : i = j
    · subst e
      rw [if_pos rfl, if_pos hi] at hj
      cases hj
      exact upd_same
    · rw [if_neg e] at hj
      have hx2 := L.get (p := x.1) (o := x.2) j hj
      have n : x.1 ≠ p := fun z => by
        have hj' : l[j]? = some (p, x.2) := by rw [hj, ← z]
        exact e (nodup_at L.nd h hj')
      rw [upd_ne n]
      exact hx2
theorem Led.call (L : Led H0 H l) (M : Led H H' m) : Led H0 H' (m ++ l) := by
  refine ⟨L.same.trans M.same, ?_, ?_, ?_⟩
  · rw [List.map_append, List.nodup_append]
    refine ⟨M.nd, L.nd, ?_⟩
    intro a ha b hb e
    subst e
    obtain ⟨x, hx, rfl⟩ := List.mem_map.mp ha
    obtain ⟨y, hy, e⟩ := List.mem_map.mp hb
    have e1 := M.new x hx
    have e2 := L.has y hy
    rw [e, e1] at e2
    cases e2
  · intro x hx
    rcases List.mem_append.mp hx with hx | hx
    · exact L.same.free (M.new x hx)
    · exact L.new x hx
  · intro x hx
    rcases List.mem_append.mp hx with hx | hx
    · exact M.has x hx
    · exact M.same _ _ (L.has x hx)
theorem Led.sub (L : Led H0 H l) (h : m.Sublist l) : Led H0 H m :=
  ⟨L.same, L.nd.sublist (h.map _), fun p hp => L.new p (h.mem hp), fun p hp => L.has p (h.mem hp)⟩
theorem Led.drop1 (L : Led H0 H (m ++ l)) : Led H0 H l := L.sub (List.sublist_append_right m l)
theorem Led.tail {x : Addr × HO} (L : Led H0 H (x :: l)) : Led H0 H l := L.sub (List.sublist_cons_self x l)
theorem Led.perm (L : Led H0 H l) (h : m.Perm l) : Led H0 H m :=
  ⟨L.same, (h.map _).nodup_iff.mpr L.nd, fun p hp => L.new p (h.mem_iff.mp hp), fun p hp => L.has p (h.mem_iff.mp hp)⟩
theorem Led.to (L : Led H0 H l) (e : l = m) : Led H0 H m := e ▸ L
theorem Led.ne (L : Led H0 H l) (hp : H0 p ≠ none) (i : Nat) (h : l[i]? = some (q, o)) : p ≠ q := fun z => by
  subst z
  exact hp (L.new' i h)
theorem Led.seq {K : PySem.W.Frag} {a : Addr} {xs : List V} (L : Led H0 H l) (h : SqL K H0 a xs) : SqL K H a xs := L.same.seq h
theorem Led.ts (L : Led H0 H l) : Ts H0 H := Ts.of L.same
end
theorem sz {n m : Nat} (h : n ≤ m) (hm : m ≤ 1000000 := by omega) : n ≤ sizeLine := by
  rw [sizeLine_eq]
  omega
theorem szl {n m : Nat} (h : n ≤ m) (hm : m ≤ 1000000 := by omega) : n < sizeLine := by
  rw [sizeLine_eq]
  omega

/-! ### a def by its name -/
/-- the function object of a name -/
def HasFd (K : PySem.W.Frag) (x : Str) (fd : FuncData) : Prop := ∃ oc od osl, K.lookup (He.ga K x) = some ⟨oc, od, .func fd, osl⟩
theorem HasFd.same {K : PySem.W.Frag} {x : Str} {fd fd' : FuncData} (h : HasFd K x fd) (h' : HasFd K x fd') : fd = fd' := by
  obtain ⟨a, b, c, e⟩ := h
  obtain ⟨a', b', c', e'⟩ := h'
  rw [e] at e'
  cases e'
  rfl
structure Fn (P : Program) (w : World) (K : PySem.W.Frag) (mg : Str → Option Value) (base : Heap) (CX : CXT) (k : Nat) (x : Str) (ps : List Str) (sp : Sp) : Prop where
  ex : ∃ fd, FnOk P w K mg base CX k (He.ga K x) fd ps sp ∧ Binds K fd ps [] ∧ HasFd K x fd
  gl : mg x = some (.ref (He.ga K x))
  kp : PySem.W.keepIn K (.ref (He.ga K x)) = true
theorem Fn.mono {P : Program} {w : World} {K : PySem.W.Frag} {mg : Str → Option Value} {base : Heap} {CX : CXT} {j k : Nat} {x : Str} {ps : List Str} {sp : Sp} (F : Fn P w K mg base CX j x ps sp) (h : j ≤ k) : Fn P w K mg base CX k x ps sp := by
  obtain ⟨⟨fd, a, b, e⟩, c, d⟩ := F
  exact ⟨⟨fd, a.mono h, b, e⟩, c, d⟩
/-- a def of the text -/
structure Txt1 (K : PySem.W.Frag) (mg : Str → Option Value) (x : Str) (st : Stmt) (ps : List Str) : Prop where
  ex : ∃ fd, FunD K x x (defArgs st) (defBody st) (defScope st) [] [] (He.ga K x) fd ∧ Binds K fd ps []
  gl : mg x = some (.ref (He.ga K x))
theorem fnOf1 {P : Program} {w : World} {K : PySem.W.Frag} {mg : Str → Option Value} {base : Heap} {CX : CXT} {k : Nat} {x : Str} {st : Stmt} {N ps : List Str} {sp : Sp} (F : Txt1 K mg x st ps) (S : FnScope N ps (defScope st)) (len : ∀ vs H Q E, sp vs H Q E → vs.length = ps.length)
    (hbody : ∀ (f : Addr) (cdv : Value) (A : Around) (outer : List Env) (s : Shared) (H : Hp) (vs : List V) (Q : VK) (E : XK), Room k (A.deeper (envOfC x (defScope st) s.heap.objs.size f cdv)) → sp vs H Q E →
      ∃ t, PSs (cxOf CX P w K mg base N x (defScope st) f cdv A outer s H E) (defBody st) t ∧ t { nx := fun _ H' => Q .non H', rt := Q } (start N vs) H) : Fn P w K mg base CX (k + 1) x ps sp := by
  obtain ⟨⟨fd, F1, b⟩, g⟩ := F
  obtain ⟨oc, od, _, _, _, _, _, _, _, osl, _, lk, _⟩ := id F1.ex
  exact ⟨⟨fd, F1.ok S len fun cdv A outer s H vs Q E hr h => hbody _ cdv A outer s H vs Q E hr h, b, oc, od, osl, lk⟩, g, F1.kp⟩
def tCallF (sp : Sp) (E : XK) (t : TA) : TE := fun σ H Q => t σ H fun vs H1 => sp vs H1 Q E
section
variable {X : Cx} {CX : CXT} {k : Nat} {ps : List Str} {sp : Sp} {E : XK} {x : Str} {p pos : Pos} {e : Expr} {es : List Expr} {t : TA}
theorem pe_callF (F : Fn X.prog X.w X.K X.mg X.base CX k x ps sp) (hr : Room k X.A) (hg : Gl X x) (hx : Passes CX X E) (ha : PA X (e :: es) t) (hdb : (x == ("__debug__" : Str)) = false := by decide)
    (he : starEach (e :: es) X.env = (false, eval e X.env) :: starEach es X.env := by rfl) (hpl : (backTo pos (starEach es X.env)).any (·.1) = false := by rfl) : PE X (.Call (.Name x p) (e :: es) [] pos) (tCallF sp E t) := by
  obtain ⟨⟨fd, a, b, _⟩, c, d⟩ := F
  have h := pe_call (p := p) (pos := pos) a hr hg c d b .nil hx ha hdb he hpl
  refine ⟨fun pins s σ H Q I q => h.run pins s σ H Q I ?_⟩
  have q' : t σ H fun vs H1 => sp vs H1 Q E := q
  show t σ H fun vs H1 => sp (vs ++ []) H1 Q E
  simpa only [List.append_nil] using q'
def tCallG (sp : Sp) (E : L2.St → XK) (t : TA) : TE := fun σ H Q => t σ H fun vs H1 => sp vs H1 Q (E σ)
theorem pe_callG {E : L2.St → XK} (F : Fn X.prog X.w X.K X.mg X.base CX k x ps sp) (hr : Room k X.A) (hg : Gl X x) (hx : ∀ σ, PassesAt CX X σ (E σ)) (ha : PA X (e :: es) t) (hdb : (x == ("__debug__" : Str)) = false := by decide)
    (he : starEach (e :: es) X.env = (false, eval e X.env) :: starEach es X.env := by rfl) (hpl : (backTo pos (starEach es X.env)).any (·.1) = false := by rfl) : PE X (.Call (.Name x p) (e :: es) [] pos) (tCallG sp E t) := by
  obtain ⟨⟨fd, a, b, _⟩, c, d⟩ := F
  have h := pe_callS (p := p) (pos := pos) (E := E) a hr hg c d b hx ha hdb he hpl
  exact ⟨fun pins s σ H Q I q => h.run pins s σ H Q I q⟩
end
end Tr
/-! The readings, step by step. -/
namespace Tr
open PySem PySem.Spec PyProof.Rows L2
section
variable {t u : TS} {te ta tb : TE} {D : Ends} {σ : L2.St} {H : Hp} {Q : VK} {g : TG} {i : Nat} {v x y : V} {c d : TT} {QB : Bool → Hp → Prop} {K : PySem.W.Frag}
theorem rd_seq (h : t { D with nx := u D } σ H) : tSeq t u D σ H := h
theorem rd_next (h : D.nx σ H) : tNext D σ H := h
theorem rd_brk (h : D.bk σ H) : tBreak D σ H := h
theorem rd_asg (h : te σ H fun x H1 => g x σ H1 D.nx) : tAsg te g D σ H := h
theorem rd_drop (h : te σ H fun _ H1 => D.nx σ H1) : tDrop te D σ H := h
theorem rd_ret (h : te σ H D.rt) : tRet te D σ H := h
theorem rd_retN (h : D.rt .non H) : tRetN D σ H := h
theorem rd_name {R : L2.St → Hp → Prop} (h : R (σ.set i (some v)) H) : gName i v σ H R := h
theorem rd_ifS (h : c σ H fun b H1 => if b = true then t D σ H1 else u D σ H1) : tIfS c t u D σ H := h
/-- a truth value that a test asks for -/
def isB (x : V) (p : Bool → Prop) : Prop := ∃ k, x = .bl k ∧ p k
theorem rd_isB {b : Bool} {p : Bool → Prop} (h : p b) : isB (.bl b) p := ⟨b, rfl, h⟩
theorem rd_test (h : te σ H fun x H1 => isB x fun k => QB k H1) : tTest te σ H QB := h
theorem rd_testB (h : te σ H fun x H1 => isB x fun k => QB k H1) : tB te σ H QB := h
theorem rd_and (h : c σ H fun b H1 => if b = true then d σ H1 QB else QB false H1) : tAnd c d σ H QB := h
theorem rd_or (h : c σ H fun b H1 => if b = true then QB true H1 else d σ H1 QB) : tOr c d σ H QB := h
theorem rd_not (h : c σ H fun b H1 => QB (!b) H1) : tNot c σ H QB := h
theorem rd_andV (h : ta σ H fun x H1 => isB x fun b => if b = true then tb σ H1 Q else Q (.bl false) H1) : tAndV ta tb σ H Q := h
theorem rd_orV (h : ta σ H fun x H1 => isB x fun b => if b = true then Q (.bl true) H1 else tb σ H1 Q) : tOrV ta tb σ H Q := h
theorem rd_notV (h : ta σ H fun x H1 => isB x fun b => Q (.bl (!b)) H1) : tNotV ta σ H Q := h
theorem rd_var (h : σ[i]? = some (some v)) (q : Q v H) : tVar i σ H Q := ⟨v, h, q⟩
theorem rd_c (q : Q v H) : tC v σ H Q := q
theorem rd_op {r : R2} (h : ta σ H fun x H1 => tb σ H1 fun y H2 => r x y H2 Q) : tOp r ta tb σ H Q := h
theorem rd_un {r : V → Hp → VK → Prop} (h : ta σ H fun x H1 => r x H1 Q) : tUn r ta σ H Q := h
variable {tA tR : TA} {QA : List V → Hp → Prop} {sp : Sp} {E : XK} {r : List V → Hp → VK → Prop}
theorem rd_nil (h : QA [] H) : tNil σ H QA := h
theorem rd_cons (h : te σ H fun x H1 => tR σ H1 fun xs H2 => QA (x :: xs) H2) : tCons te tR σ H QA := h
theorem rd_call (h : tA σ H fun vs H1 => sp vs H1 Q E) : tCallF sp E tA σ H Q := h
theorem rd_callG {E : L2.St → XK} (h : tA σ H fun vs H1 => sp vs H1 Q (E σ)) : tCallG sp E tA σ H Q := h
theorem rd_CB (h : tA σ H fun vs H1 => r vs H1 Q) : tCB r tA σ H Q := h
theorem rd_BM {T : String} {r : V → List V → Hp → VK → Prop} (h : te σ H fun x H1 => tyV K T x H1 ∧ tA σ H1 fun xs H2 => r x xs H2 Q) : tBM K T r te tA σ H Q := h
theorem rd_BM0 {T : String} {r : V → List V → Hp → VK → Prop} (h : te σ H fun x H1 => tyV K T x H1 ∧ r x [] H1 Q) : tBM0 K T r te σ H Q := h
theorem rd_ty {a : Addr} {xs : List V} {p : Prop} (h : SqL K H a xs) (q : p) : tyV K "list" (.ref a) H ∧ p := ⟨.inl ⟨rfl, _, h⟩, q⟩
theorem rd_tyS {z : Str} {p : Prop} (q : p) : tyV K "str" (.str z) H ∧ p := ⟨rfl, q⟩
theorem rd_sl {r : V → Option Int → Option Int → Hp → VK → Prop} {tl th : TO} (h : te σ H fun x H1 => tl σ H1 fun l H2 => th σ H2 fun u H3 => r x l u H3 Q) : tSl r te tl th σ H Q := h
theorem rd_noP {QO : Option Int → Hp → Prop} (h : QO none H) : tNoPart σ H QO := h
/-- an int that is asked for -/
def isI (x : V) (p : Int → Prop) : Prop := ∃ k, x = .int k ∧ p k
theorem rd_isI {n : Int} {p : Int → Prop} (h : p n) : isI (.int n) p := ⟨n, rfl, h⟩
theorem rd_part {QO : Option Int → Hp → Prop} (h : te σ H fun x H1 => isI x fun n => QO (some n) H1) : tPart te σ H QO := h
/-! ### values -/
theorem rd_i0 {f : Int → Int → V} {n m : Int} (q : Q (f n m) H) : rI0 f (.int n) (.int m) H Q := ⟨n, m, rfl, rfl, q⟩
theorem rd_i {C : Int → Int → Prop} {f : Int → Int → V} {n m : Int} (hc : C n m) (q : Q (f n m) H) : rI C f (.int n) (.int m) H Q := ⟨n, m, rfl, rfl, hc, q⟩
theorem rd_u {f : Int → V} {n : Int} (q : Q (f n) H) : rU f (.int n) H Q := ⟨n, rfl, q⟩
end

/-! ### + : ints, lists, texts -/
def rAddS : R2 := fun x y H Q => ∃ i j, x = .str i ∧ y = .str j ∧ i.length + j.length ≤ sizeLine ∧ Q (.str (i ++ j)) H
def gAdd : R2 := fun x y H Q => rI0 (fun i j => .int (i + j)) x y H Q ∨ rCat x y H Q ∨ rAddS x y H Q
theorem op_gAdd {X : Cx} : OpR X (binaryOp .Add) gAdd := op_add.or (op_cat.or (r' := rAddS) op_add_str)
def gSub : R2 := rI0 fun i j => .int (i - j)
theorem op_gSub {X : Cx} : OpR X (binaryOp .Sub) gSub := op_sub
def gMul : R2 := rI IntMulOk fun i j => .int (i * j)
theorem op_gMul {X : Cx} : OpR X (binaryOp .Mult) gMul := opI fun _ _ _ _ _ _ _ hc q => mul_int q hc
def gDiv : R2 := rI CDivW fun i j => .int (i / j)
theorem op_gDiv {X : Cx} : OpR X (binaryOp .FloorDiv) gDiv := op_fdivW
def gMod : R2 := rI (fun _ j => 0 < j) fun i j => .int (i % j)
theorem op_gMod {X : Cx} : OpR X (binaryOp .Mod) gMod := op_mod
def gLt : R2 := rI0 fun i j => .bl (decide (i < j))
theorem op_gLt {X : Cx} : OpR X (compareOp .Lt) gLt := op_lt
def gLe : R2 := rI0 fun i j => .bl (decide (i ≤ j))
theorem op_gLe {X : Cx} : OpR X (compareOp .LtE) gLe := op_le
def gGt : R2 := rI0 fun i j => .bl (decide (j < i))
theorem op_gGt {X : Cx} : OpR X (compareOp .Gt) gGt := op_gt
def gGe : R2 := rI0 fun i j => .bl (decide (j ≤ i))
theorem op_gGe {X : Cx} : OpR X (compareOp .GtE) gGe := op_ge
def gEq (K : PySem.W.Frag) : R2 := fun x y H Q => rEq x y H Q ∨ rEqD K x y H Q
theorem op_gEq {X : Cx} (hu : X.A.units + 64 < cLine) : OpR X (compareOp .Eq) (gEq X.K) := op_eq.or (op_eqD hu)
def gNe (K : PySem.W.Frag) : R2 := fun x y H Q => rNe x y H Q ∨ rNeD K x y H Q
theorem op_gNe {X : Cx} (hu : X.A.units + 64 < cLine) : OpR X (compareOp .NotEq) (gNe X.K) := op_ne.or (op_neD hu)
def gIsN : R2 := fun x y H Q => y = .non ∧ Q (.bl (decide (x = .non))) H
theorem op_gIsN {X : Cx} : OpR X (compareOp .Is) gIsN := op_isN
def gNeg : V → Hp → VK → Prop := rU fun i => .int (-i)
theorem op_gNeg {X : Cx} : UnR X (unaryOp .USub) gNeg := un_neg
section
variable {H0 H : Hp} {l : List (Addr × HO)} {Q : VK} {K : PySem.W.Frag} {p q a : Addr} {xs ys : List V} {n m : Int} {x y : V}
theorem rd_addI (h : Q (.int (n + m)) H) : gAdd (.int n) (.int m) H Q := .inl ⟨n, m, rfl, rfl, h⟩
theorem rd_addS {z w : Str} (hz : z.length + w.length ≤ sizeLine) (h : Q (.str (z ++ w)) H) : gAdd (.str z) (.str w) H Q := .inr (.inr ⟨z, w, rfl, rfl, hz, h⟩)
theorem rd_addL (L : Led H0 H l) (hp : H p = some (.lst xs)) (hq : H q = some (.lst ys)) (hz : xs.length + ys.length ≤ sizeLine) (h : ∀ r H', Led H0 H' ((r, .lst (xs ++ ys)) :: l) → Ts H H' → Q (.ref r) H') : gAdd (.ref p) (.ref q) H Q :=
  .inr (.inl ⟨p, q, xs, ys, rfl, rfl, hp, hq, hz, fun r hr => h r _ (L.push hr) (Ts.of (Same.push hr))⟩)
theorem rd_sub (h : Q (.int (n - m)) H) : gSub (.int n) (.int m) H Q := ⟨n, m, rfl, rfl, h⟩
theorem rd_mulL (h1 : -(2 ^ 64) < n) (h2 : n < 2 ^ 64) (h : Q (.int (n * m)) H) : gMul (.int n) (.int m) H Q := ⟨n, m, rfl, rfl, .of_left (intBits_le_64 h1 h2), h⟩
theorem rd_mulR (h1 : -(2 ^ 64) < m) (h2 : m < 2 ^ 64) (h : Q (.int (n * m)) H) : gMul (.int n) (.int m) H Q := ⟨n, m, rfl, rfl, .of_right (intBits_le_64 h1 h2), h⟩
theorem rd_mulW (hc : CMulW n m) (h : Q (.int (n * m)) H) : gMul (.int n) (.int m) H Q := ⟨n, m, rfl, rfl, hc.ok, h⟩
theorem rd_mul (hc : IntMulOk n m) (h : Q (.int (n * m)) H) : gMul (.int n) (.int m) H Q := ⟨n, m, rfl, rfl, hc, h⟩
theorem rd_div (hc : CDivW n m) (h : Q (.int (n / m)) H) : gDiv (.int n) (.int m) H Q := ⟨n, m, rfl, rfl, hc, h⟩
theorem rd_divK (h1 : (0 : Int) < m) (h2 : m < 1000000000000) (h : Q (.int (n / m)) H) : gDiv (.int n) (.int m) H Q :=
  ⟨n, m, rfl, rfl, wide_div (b := 40) h1 (by rw [show (2 : Nat) ^ 40 = 1099511627776 from by decide]; omega) (by decide) (by decide), h⟩
theorem rd_mod (hc : 0 < m) (h : Q (.int (n % m)) H) : gMod (.int n) (.int m) H Q := ⟨n, m, rfl, rfl, hc, h⟩
theorem rd_lt (h : Q (.bl (decide (n < m))) H) : gLt (.int n) (.int m) H Q := ⟨n, m, rfl, rfl, h⟩
theorem rd_le (h : Q (.bl (decide (n ≤ m))) H) : gLe (.int n) (.int m) H Q := ⟨n, m, rfl, rfl, h⟩
theorem rd_gt (h : Q (.bl (decide (m < n))) H) : gGt (.int n) (.int m) H Q := ⟨n, m, rfl, rfl, h⟩
theorem rd_ge (h : Q (.bl (decide (m ≤ n))) H) : gGe (.int n) (.int m) H Q := ⟨n, m, rfl, rfl, h⟩
theorem rd_neg (h : Q (.int (-n)) H) : gNeg (.int n) H Q := ⟨n, rfl, h⟩
theorem rd_eqI (h : Q (.bl (decide (n = m))) H) : gEq K (.int n) (.int m) H Q := .inl ⟨rfl, by simpa using h⟩
theorem rd_neI (h : Q (.bl (!decide (n = m))) H) : gNe K (.int n) (.int m) H Q := .inl ⟨rfl, by simpa using h⟩
theorem rd_eqS {z w : Str} (h : Q (.bl (decide (z = w))) H) : gEq K (.str z) (.str w) H Q := .inl ⟨rfl, by simpa using h⟩
theorem rd_neS {z w : Str} (h : Q (.bl (!decide (z = w))) H) : gNe K (.str z) (.str w) H Q := .inl ⟨rfl, by simpa using h⟩
theorem rd_eqB {z w : Bool} (h : Q (.bl (decide (z = w))) H) : gEq K (.bl z) (.bl w) H Q := .inl ⟨rfl, by simpa using h⟩
theorem rd_neB {z w : Bool} (h : Q (.bl (!decide (z = w))) H) : gNe K (.bl z) (.bl w) H Q := .inl ⟨rfl, by simpa using h⟩
theorem rd_isN (h : Q (.bl (decide (x = .non))) H) : gIsN x .non H Q := ⟨rfl, h⟩
theorem rd_eqD {d e : PyData} (hd : Dp K H x d) (he : Dp K H y e) (s1 : SeqAt.shaped d = true) (s2 : SeqAt.shaped e = true) (h : Q (.bl (PyData.eqv d e)) H) : gEq K x y H Q := .inr ⟨d, e, hd, he, s1, s2, h⟩
theorem rd_neD {d e : PyData} (hd : Dp K H x d) (he : Dp K H y e) (s1 : SeqAt.shaped d = true) (s2 : SeqAt.shaped e = true) (h : Q (.bl (!PyData.eqv d e)) H) : gNe K x y H Q := .inr ⟨d, e, hd, he, s1, s2, h⟩
/-! ### new lists and tuples -/
variable {σ : L2.St} {tA : TA} {QA : List V → Hp → Prop} {te : TE}
/-- a new list | tuple of these -/
def mkL (xs : List V) (H : Hp) (Q : VK) : Prop := xs.length ≤ sizeLine ∧ ∀ p, H p = none → Q (.ref p) (upd H p (.lst xs))
def mkT (xs : List V) (H : Hp) (Q : VK) : Prop := xs.length ≤ sizeLine ∧ ∀ p, H p = none → Q (.ref p) (upd H p (.tup xs))
theorem rd_lst (h : tA σ H fun xs H1 => mkL xs H1 Q) : tLst tA σ H Q := h
theorem rd_tup (h : tA σ H fun xs H1 => mkT xs H1 Q) : tTup tA σ H Q := h
theorem rd_mkL (L : Led H0 H l) (hz : xs.length ≤ sizeLine) (h : ∀ p H', Led H0 H' ((p, .lst xs) :: l) → Ts H H' → Q (.ref p) H') : mkL xs H Q := ⟨hz, fun p hp => h p _ (L.push hp) (Ts.of (Same.push hp))⟩
theorem rd_mkT (L : Led H0 H l) (hz : xs.length ≤ sizeLine) (h : ∀ p H', Led H0 H' ((p, .tup xs) :: l) → Ts H H' → Q (.ref p) H') : mkT xs H Q := ⟨hz, fun p hp => h p _ (L.push hp) (Ts.of (Same.push hp))⟩
/-- a slice of a list -/
theorem rd_slL {lo hi : Option Int} (L : Led H0 H l) (hs : SqL K H a xs) (h : ∀ p H', Led H0 H' ((p, .lst (cutV xs lo hi)) :: l) → Ts H H' → Q (.ref p) H') : rSlL K (.ref a) lo hi H Q := ⟨a, xs, rfl, hs, fun p hp => h p _ (L.push hp) (Ts.of (Same.push hp))⟩
/-! ### list methods -/
theorem rd_append (L : Led H0 H l) (i : Nat) (h : l[i]? = some (p, .lst xs)) (hz : xs.length < sizeLine) (k : ∀ H', Led H0 H' (l.set i (p, .lst (xs ++ [y]))) → Ts H H' → Q .non H') : rAppend (.ref p) [y] H Q :=
  ⟨p, xs, y, rfl, rfl, L.get i h, hz, k _ (L.put i h) (Ts.put (L.get i h))⟩
theorem rd_extend {zs : List V} (L : Led H0 H l) (i : Nat) (h : l[i]? = some (p, .lst xs)) (hq : H q = some (.lst zs)) (hz : xs.length + zs.length ≤ sizeLine) (k : ∀ H', Led H0 H' (l.set i (p, .lst (xs ++ zs))) → Ts H H' → Q .non H') : rExtend (.ref p) [.ref q] H Q :=
  ⟨p, q, xs, zs, rfl, rfl, L.get i h, hq, hz, k _ (L.put i h) (Ts.put (L.get i h))⟩
theorem rd_pop (L : Led H0 H l) (i : Nat) (h : l[i]? = some (p, .lst (xs ++ [y]))) (k : ∀ H', Led H0 H' (l.set i (p, .lst xs)) → Ts H H' → Q y H') : rPop (.ref p) [] H Q :=
  ⟨p, xs ++ [y], y, rfl, rfl, L.get i h, by simp, by simpa using k _ (L.put i h) (Ts.put (L.get i h))⟩
theorem rd_reverse (L : Led H0 H l) (i : Nat) (h : l[i]? = some (p, .lst xs)) (k : ∀ H', Led H0 H' (l.set i (p, .lst xs.reverse)) → Ts H H' → Q .non H') : rReverse (.ref p) [] H Q :=
  ⟨p, xs, rfl, rfl, L.get i h, k _ (L.put i h) (Ts.put (L.get i h))⟩
theorem rd_clear (L : Led H0 H l) (i : Nat) (h : l[i]? = some (p, .lst xs)) (k : ∀ H', Led H0 H' (l.set i (p, .lst [])) → Ts H H' → Q .non H') : rClear (.ref p) [] H Q :=
  ⟨p, xs, rfl, rfl, L.get i h, k _ (L.put i h) (Ts.put (L.get i h))⟩
/-! ### subscripts -/
theorem rd_ixL {v : V} (hs : SqL K H a xs) (h : atI xs n = some v) (k : Q v H) : rIx K (.ref a) (.int n) H Q := .inl ⟨a, xs, n, v, rfl, rfl, hs, h, k⟩
theorem rd_ixS {z : Str} {c : Nat} (hz : z.length ≤ sizeLine) (h : atI z.cps.toList n = some c) (k : Q (.str ⟨#[c]⟩) H) : rIx K (.str z) (.int n) H Q := .inr (.inr ⟨z, n, c, rfl, rfl, hz, h, k⟩)
/-! ### built-ins -/
def gLen (K : PySem.W.Frag) : List V → Hp → VK → Prop := fun xs H Q => ∃ x n, xs = [x] ∧ LenV K x H n ∧ Q (.int n) H
theorem cr_len {X : Cx} : CallR X (.builtin "len") (gLen X.K) := call_len
theorem rd_lenL (hs : SqL K H a xs) (k : Q (.int xs.length) H) : gLen K [.ref a] H Q := ⟨_, _, rfl, .inl ⟨xs, hs, rfl⟩, k⟩
theorem rd_lenT (hs : SqT K H a xs) (k : Q (.int xs.length) H) : gLen K [.ref a] H Q := ⟨_, _, rfl, .inr ⟨xs, hs, rfl⟩, k⟩
theorem rd_lenS {z : Str} (hz : z.length ≤ sizeLine) (k : Q (.int z.length) H) : gLen K [.str z] H Q := ⟨_, _, rfl, ⟨hz, rfl⟩, k⟩
def gList (K : PySem.W.Frag) : List V → Hp → VK → Prop := fun xs H Q => ∃ p ys, xs = [.ref p] ∧ (SqL K H p ys ∨ SqT K H p ys) ∧ ∀ l, H l = none → Q (.ref l) (upd H l (.lst ys))
theorem cr_list {X : Cx} : CallR X (.type "list") (gList X.K) := call_list_of
theorem rd_list (L : Led H0 H l) (hs : SqL K H a xs) (k : ∀ p H', Led H0 H' ((p, .lst xs) :: l) → Ts H H' → Q (.ref p) H') : gList K [.ref a] H Q := ⟨a, xs, rfl, .inl hs, fun p hp => k p _ (L.push hp) (Ts.of (Same.push hp))⟩
def gTuple (K : PySem.W.Frag) : List V → Hp → VK → Prop := fun xs H Q => ∃ p ys, xs = [.ref p] ∧ ((SqL K H p ys ∧ ∀ l, H l = none → Q (.ref l) (upd H l (.tup ys))) ∨ (SqT K H p ys ∧ Q (.ref p) H))
theorem cr_tuple {X : Cx} : CallR X (.type "tuple") (gTuple X.K) := call_tuple_of
theorem rd_tuple (L : Led H0 H l) (hs : SqL K H a xs) (k : ∀ p H', Led H0 H' ((p, .tup xs) :: l) → Ts H H' → Q (.ref p) H') : gTuple K [.ref a] H Q := ⟨a, xs, rfl, .inl ⟨hs, fun p hp => k p _ (L.push hp) (Ts.of (Same.push hp))⟩⟩
theorem rd_sum {ns : List Int} (hs : SqL K H a (ns.map V.int)) (k : Q (.int ns.sum) H) : rSum K [.ref a] H Q := ⟨a, ns, rfl, hs, k⟩
theorem rd_max {ns : List Int} (hs : SqL K H a (ns.map V.int)) (h0 : 0 < ns.length) (k : ∀ m, m ∈ ns → (∀ y, y ∈ ns → y ≤ m) → Q (.int m) H) : rMax K [.ref a] H Q := ⟨a, ns, rfl, hs, h0, k⟩
theorem rd_min {ns : List Int} (hs : SqL K H a (ns.map V.int)) (h0 : 0 < ns.length) (k : ∀ m, m ∈ ns → (∀ y, y ∈ ns → m ≤ y) → Q (.int m) H) : rMin K [.ref a] H Q := ⟨a, ns, rfl, hs, h0, k⟩
/-- max, min of a list, or of two ints -/
def gMax (K : PySem.W.Frag) : List V → Hp → VK → Prop := fun xs H Q => rMax K xs H Q ∨ ∃ i j, xs = [.int i, .int j] ∧ Q (.int (if j > i then j else i)) H
theorem cr_gMax {X : Cx} (hc : X.calm = true) : CallR X (.builtin "max") (gMax X.K) := (cr_max hc).or (call_max2 hc)
def gMin (K : PySem.W.Frag) : List V → Hp → VK → Prop := fun xs H Q => rMin K xs H Q ∨ ∃ i j, xs = [.int i, .int j] ∧ Q (.int (if j < i then j else i)) H
theorem cr_gMin {X : Cx} (hc : X.calm = true) : CallR X (.builtin "min") (gMin X.K) := (cr_min hc).or (call_min2 hc)
theorem rd_gMaxL {ns : List Int} (hs : SqL K H a (ns.map V.int)) (h0 : 0 < ns.length) (k : ∀ m, m ∈ ns → (∀ y, y ∈ ns → y ≤ m) → Q (.int m) H) : gMax K [.ref a] H Q := .inl ⟨a, ns, rfl, hs, h0, k⟩
theorem rd_gMinL {ns : List Int} (hs : SqL K H a (ns.map V.int)) (h0 : 0 < ns.length) (k : ∀ m, m ∈ ns → (∀ y, y ∈ ns → m ≤ y) → Q (.int m) H) : gMin K [.ref a] H Q := .inl ⟨a, ns, rfl, hs, h0, k⟩
theorem rd_gMax2 (k : Q (.int (max n m)) H) : gMax K [.int n, .int m] H Q := .inr ⟨n, m, rfl, by
  have e : (if m > n then m else n) = max n m := by split <;> omega
  rw [e]
  exact k⟩
theorem rd_gMin2 (k : Q (.int (min n m)) H) : gMin K [.int n, .int m] H Q := .inr ⟨n, m, rfl, by
  have e : (if m < n then m else n) = min n m := by split <;> omega
  rw [e]
  exact k⟩
def gInt : List V → Hp → VK → Prop := fun xs H Q => (∃ i, xs = [.int i] ∧ Q (.int i) H) ∨ ∃ k, xs = [.bl k] ∧ Q (.int (if k then 1 else 0)) H
theorem cr_int {X : Cx} : CallR X (.type "int") gInt := call_int1
theorem rd_intB {b : Bool} (k : Q (.int (if b then 1 else 0)) H) : gInt [.bl b] H Q := .inr ⟨b, rfl, k⟩
theorem rd_sorted {ns : List Int} (L : Led H0 H l) (hs : SqL K H a (ns.map V.int)) (k : ∀ (ms : List Int) p H', ms.Perm ns → ms.Pairwise (· ≤ ·) → Led H0 H' ((p, .lst (ms.map V.int)) :: l) → Ts H H' → Q (.ref p) H') : rSortedI K [.ref a] H Q :=
  ⟨a, ns, rfl, hs, fun ms p h1 h2 hp => k ms p _ h1 h2 (L.push hp) (Ts.of (Same.push hp))⟩
theorem rd_count {ns : List Int} (hs : SqL K H a (ns.map V.int)) (k : Q (.int (ns.count n : Nat)) H) : rCntI K (.ref a) [.int n] H Q := ⟨a, ns, n, rfl, rfl, hs, k⟩
/-- isinstance -/
theorem rd_isi {T : String} {t : Value} {b : Bool} (ht : TyX K H x t) (hk : PySem.W.kitOne K t (.type T) = some b) (k : Q (.bl b) H) : rIsi K [x, .ty T] H Q := ⟨x, .ty T, t, _, b, rfl, .ty T, ht, hk, k⟩
end
end Tr
/-! Loops, comprehensions, raise and try. -/
namespace Tr
open PySem PySem.Spec PyProof.Rows L2
section
variable {t u : TS} {te tl : TE} {D : Ends} {σ : L2.St} {H H0 : Hp} {Q : VK} {g : TG} {tb : TS} {K : PySem.W.Frag} {a : Addr} {xs : List V} {wi : TI} {J : It} {R : It → Hp → Prop} {l : List (Addr × HO)}
/-- a loop over what has come -/
def lp (J : It) (g : TG) (tb : TS) : TS := tFor (fun _ H R => R J H) g tb
theorem rd_for (h : wi σ H fun J H1 => lp J g tb D σ H1) : tFor wi g tb D σ H := h
def itL (K : PySem.W.Frag) (x : V) (H : Hp) (R : It → Hp → Prop) : Prop := ∃ a, x = .ref a ∧ (∃ xs, SqL K H a xs) ∧ R (Itl K a) H
def itT (K : PySem.W.Frag) (x : V) (H : Hp) (R : It → Hp → Prop) : Prop := ∃ a, x = .ref a ∧ (∃ xs, SqT K H a xs) ∧ R (Itt K a) H
def itS (x : V) (H : Hp) (R : It → Hp → Prop) : Prop := ∃ z, x = .str z ∧ R (Its z) H
theorem rd_iList (h : tl σ H fun x H1 => itL K x H1 R) : iList K tl σ H R := h
theorem rd_iTup (h : tl σ H fun x H1 => itT K x H1 R) : iTup K tl σ H R := h
theorem rd_iStr (h : tl σ H fun x H1 => itS x H1 R) : iStr tl σ H R := h
theorem rd_itL (hs : SqL K H a xs) (h : R (Itl K a) H) : itL K (.ref a) H R := ⟨a, rfl, ⟨xs, hs⟩, h⟩
theorem rd_itT (hs : SqT K H a xs) (h : R (Itt K a) H) : itT K (.ref a) H R := ⟨a, rfl, ⟨xs, hs⟩, h⟩
theorem rd_itS {z : Str} (h : R (Its z) H) : itS (.str z) H R := ⟨z, rfl, h⟩
variable {tA : TA}
def itR1 (vs : List V) (H : Hp) (R : It → Hp → Prop) : Prop := ∃ j : Int, vs = [.int j] ∧ -(2 ^ 62) ≤ j ∧ j < 2 ^ 62 ∧ R (Itr 0 j.toNat) H
def itR2 (vs : List V) (H : Hp) (R : It → Hp → Prop) : Prop := ∃ i j : Int, vs = [.int i, .int j] ∧ (-(2 ^ 62) ≤ i ∧ i < 2 ^ 62 ∧ -(2 ^ 62) ≤ j ∧ j < 2 ^ 62) ∧ R (Itr i (j - i).toNat) H
def itR3 (vs : List V) (H : Hp) (R : It → Hp → Prop) : Prop := ∃ (i j c : Int) (n : Nat), vs = [.int i, .int j, .int c] ∧ RgC i j c n ∧ R (Itc i c n) H
theorem rd_iRng1 (h : tA σ H fun vs H1 => itR1 vs H1 R) : iRng1 tA σ H R := h
theorem rd_iRng2 (h : tA σ H fun vs H1 => itR2 vs H1 R) : iRng2 tA σ H R := h
theorem rd_iRng3 (h : tA σ H fun vs H1 => itR3 vs H1 R) : iRng3 tA σ H R := h
theorem rd_itR1 {j : Int} (n : Nat) (e : j.toNat = n) (h1 : -(2 ^ 62) ≤ j) (h2 : j < 2 ^ 62) (h : R (Itr 0 n) H) : itR1 [.int j] H R := ⟨j, rfl, h1, h2, e ▸ h⟩
theorem rd_itR2 {i j : Int} (n : Nat) (e : (j - i).toNat = n) (h1 : -(2 ^ 62) ≤ i ∧ i < 2 ^ 62 ∧ -(2 ^ 62) ≤ j ∧ j < 2 ^ 62) (h : R (Itr i n) H) : itR2 [.int i, .int j] H R := ⟨i, j, rfl, h1, e ▸ h⟩
theorem rd_itRd {i j : Int} (n : Nat) (e : (i - j).toNat = n) (h1 : -(2 ^ 62) ≤ i) (h2 : i < 2 ^ 62) (h3 : -(2 ^ 62) ≤ j) (h4 : j < 2 ^ 62) (h : R (Itc i (-1) n) H) : itR3 [.int i, .int j, .int (-1)] H R := ⟨i, j, -1, n, rfl, e ▸ RgC.neg h1 h2 h3 h4, h⟩
def itV (K : PySem.W.Frag) (v : V) (H : Hp) (R : It → Hp → Prop) : Prop := ∃ (a : Addr) (xs : List V), v = .ref a ∧ ((SqL K H a xs ∧ R (Itv K a xs.length) H) ∨ (SqT K H a xs ∧ R (RT.ItvT K a xs.length) H))
theorem rd_iRev (h : te σ H fun v H1 => itV K v H1 R) : RT.iRevA K te σ H R := h
theorem rd_itV (hs : SqL K H a xs) (h : R (Itv K a xs.length) H) : itV K (.ref a) H R := ⟨a, xs, rfl, .inl ⟨hs, h⟩⟩
/-! ### the loops -/
abbrev Turn1 (tb : TS) (D : Ends) (N : L2.St → Hp → Prop) : L2.St → Hp → Prop := tb { D with nx := N, ct := N, bk := D.nx }
theorem lp_list (Pv : Nat → L2.St → Hp → Prop) (h0 : Pv 0 σ H) (hl : ∀ i σ H, i ≤ xs.length → Pv i σ H → SqL K H a xs)
    (hs : ∀ i x σ H, xs[i]? = some x → Pv i σ H → g x σ H (Turn1 tb D (Pv (i + 1)))) (hd : ∀ σ H, Pv xs.length σ H → D.nx σ H) : lp (Itl K a) g tb D σ H := for_list Pv h0 hl hs hd
theorem lp_ints {ns : List Int} (Pv : Nat → L2.St → Hp → Prop) (h0 : Pv 0 σ H) (hl : ∀ i σ H, i ≤ ns.length → Pv i σ H → SqL K H a (ns.map V.int))
    (hs : ∀ i n σ H, ns[i]? = some n → Pv i σ H → g (.int n) σ H (Turn1 tb D (Pv (i + 1)))) (hd : ∀ σ H, Pv ns.length σ H → D.nx σ H) : lp (Itl K a) g tb D σ H := by
  refine lp_list (xs := ns.map V.int) Pv h0 (fun i σ H hi => hl i σ H (by simpa using hi)) (fun i x σ H hx hp => ?_) (fun σ H h => hd σ H (by simpa using h))
  rw [List.getElem?_map] at hx
  cases e : ns[i]? with
  | none => rw [e] at hx; cases hx
  | some n =>
    rw [e] at hx
    cases hx
    exact hs i n σ H e hp
theorem lp_tup (Pv : Nat → L2.St → Hp → Prop) (h0 : Pv 0 σ H) (hl : ∀ i σ H, i ≤ xs.length → Pv i σ H → SqT K H a xs)
    (hs : ∀ i x σ H, xs[i]? = some x → Pv i σ H → g x σ H (Turn1 tb D (Pv (i + 1)))) (hd : ∀ σ H, Pv xs.length σ H → D.nx σ H) : lp (Itt K a) g tb D σ H := for_tup Pv h0 hl hs hd
theorem lp_rng {lo : Int} {n : Nat} (Pv : Nat → L2.St → Hp → Prop) (h0 : Pv 0 σ H)
    (hs : ∀ i σ H, i < n → Pv i σ H → g (.int (lo + i)) σ H (Turn1 tb D (Pv (i + 1)))) (hd : ∀ σ H, Pv n σ H → D.nx σ H) : lp (Itr lo n) g tb D σ H := for_range Pv h0 hs hd
theorem lp_rng0 {n : Nat} (Pv : Nat → L2.St → Hp → Prop) (h0 : Pv 0 σ H)
    (hs : ∀ i σ H, i < n → Pv i σ H → g (.int (i : Nat)) σ H (Turn1 tb D (Pv (i + 1)))) (hd : ∀ σ H, Pv n σ H → D.nx σ H) : lp (Itr 0 n) g tb D σ H := for_range Pv h0 (fun i σ H hi hp => by
      have e : (0 : Int) + (i : Nat) = (i : Nat) := by omega
      rw [e]
      exact hs i σ H hi hp) hd
theorem lp_rngC {lo c : Int} {n : Nat} (Pv : Nat → L2.St → Hp → Prop) (h0 : Pv 0 σ H)
    (hs : ∀ i σ H, i < n → Pv i σ H → g (.int (lo + (i : Nat) * c)) σ H (Turn1 tb D (Pv (i + 1)))) (hd : ∀ σ H, Pv n σ H → D.nx σ H) : lp (Itc lo c n) g tb D σ H := for_rangeC Pv h0 hs hd
theorem lp_rev (Pv : Nat → L2.St → Hp → Prop) (h0 : Pv 0 σ H) (hq : ∀ i σ H, Pv i σ H → SqL K H a xs)
    (hs : ∀ (i : Nat) (x : V) (σ : L2.St) (H : Hp), i < xs.length → xs[xs.length - 1 - i]? = some x → Pv i σ H → g x σ H (Turn1 tb D (Pv (i + 1)))) (hd : ∀ σ H, Pv xs.length σ H → D.nx σ H) : lp (Itv K a xs.length) g tb D σ H := RT.for_Itv Pv h0 hq hs hd
theorem lp_str {z : Str} (Pv : Nat → L2.St → Hp → Prop) (h0 : Pv 0 σ H)
    (hs : ∀ i c σ H, z.cps[i]? = some c → Pv i σ H → g (.str ⟨#[c]⟩) σ H (Turn1 tb D (Pv (i + 1)))) (hd : ∀ σ H, Pv z.cps.size σ H → D.nx σ H) : lp (Its z) g tb D σ H := by
  refine ⟨fun i m σ H => m = z.cps.size - i ∧ i ≤ z.cps.size ∧ Pv i σ H, ⟨z.cps.size, by simp, Nat.zero_le _, h0⟩, ?_⟩
  rintro i m σ H ⟨rfl, hi, p⟩
  by_cases hlt : i < z.cps.size
  · refine .inr ⟨hlt, Pv (i + 1), fun σ' H' p' => ⟨z.cps.size - (i + 1), by omega, rfl, hlt, p'⟩, fun x H' y => ?_⟩
    obtain ⟨e, c, hc, y⟩ := y
    subst e y
    exact hs i c σ _ hc p
  · have e : i = z.cps.size := by omega
    subst e
    exact .inl ⟨Nat.le_refl _, hd σ H p⟩
/-- while, by a word and a measure -/
def wTurn (W : Nat → L2.St → Hp → Prop) (m : Nat) (tb : TS) : TS := fun D σ H => ∃ N : L2.St → Hp → Prop, (∀ σ' H', N σ' H' → ∃ m', m' < m ∧ W m' σ' H') ∧ Turn1 tb D N σ H
theorem rd_wTurn {W : Nat → L2.St → Hp → Prop} {m : Nat} (h : Turn1 tb D (fun σ' H' => ∃ m', m' < m ∧ W m' σ' H') σ H) : wTurn W m tb D σ H := ⟨_, fun _ _ p => p, h⟩
theorem rd_while {c : TT} (W : Nat → L2.St → Hp → Prop) (m : Nat) (h0 : W m σ H)
    (hs : ∀ m σ H, W m σ H → c σ H fun b H1 => if b = true then wTurn W m tb D σ H1 else D.nx σ H1) : tWhile c tb D σ H := ⟨W, ⟨m, h0⟩, fun m σ H w => hs m σ H w⟩
/-! ### comprehensions -/
variable {tt : TT} {vs : List Nat}
def lc (J : It) (g : TG) (tt : TT) (te : TE) (vs : List Nat) : TE := tLc (fun _ H R => R J H) g tt te vs
theorem rd_lc (h : wi σ H fun J H1 => lc J g tt te vs σ H1 Q) : tLc wi g tt te vs σ H Q := h
/-- a turn's end: the new item y is put behind -/
def put1 (D : Addr) (N : Hp → Prop) (y : V) (H4 : Hp) : Prop := ∃ acc, H4 D = some (.lst acc) ∧ acc.length < sizeLine ∧ N (upd H4 D (.lst (acc ++ [y])))
theorem rd_put1 {D : Addr} {acc : List V} {N : Hp → Prop} {y : V} (L : Led H0 H l) (i : Nat) (hi : l[i]? = some (D, .lst acc)) (hz : acc.length < sizeLine) (h : ∀ H5, Led H0 H5 (l.set i (D, .lst (acc ++ [y]))) → Ts H H5 → N H5) : put1 D N y H :=
  ⟨acc, L.get i hi, hz, h _ (L.put i hi) (Ts.put (L.get i hi))⟩
theorem lc_rng {lo : Int} {n : Nat} {vs : List Nat} (L : Led H0 H l)
    (h : ∀ D H1, Led H0 H1 ((D, .lst []) :: l) → Ts H H1 → ∃ Pv : Nat → Hp → Prop, Pv 0 H1 ∧
      (∀ i H1, i < n → Pv i H1 → g (.int (lo + (i : Nat))) (wipe σ vs) H1 fun σ2 H2 => wipe σ2 vs = wipe σ vs ∧ tt σ2 H2 fun b H3 => if b = true then te σ2 H3 (put1 D (Pv (i + 1))) else Pv (i + 1) H3) ∧
      (∀ H1, Pv n H1 → Q (.ref D) H1)) : lc (Itr lo n) g tt te vs σ H Q := by
  intro D hD
  obtain ⟨Pv, h0, hs, hd⟩ := h D _ (L.push hD) (Ts.of (Same.push hD))
  exact lc_range Pv h0 hs hd
theorem lc_lst {vs : List Nat} (L : Led H0 H l)
    (h : ∀ D H1, Led H0 H1 ((D, .lst []) :: l) → Ts H H1 → ∃ Pv : Nat → Hp → Prop, Pv 0 H1 ∧ (∀ i H, i ≤ xs.length → Pv i H → SqL K H a xs) ∧
      (∀ i x H1, xs[i]? = some x → Pv i H1 → g x (wipe σ vs) H1 fun σ2 H2 => wipe σ2 vs = wipe σ vs ∧ tt σ2 H2 fun b H3 => if b = true then te σ2 H3 (put1 D (Pv (i + 1))) else Pv (i + 1) H3) ∧
      (∀ H1, Pv xs.length H1 → Q (.ref D) H1)) : lc (Itl K a) g tt te vs σ H Q := by
  intro D hD
  obtain ⟨Pv, h0, hl, hs, hd⟩ := h D _ (L.push hD) (Ts.of (Same.push hD))
  exact L2.lc_list Pv h0 hl hs hd
/-- a list of what f tells of each place -/
def mapW (H0 H : Hp) (l : List (Addr × HO)) (f : Nat → V) (D : Addr) (i : Nat) (H2 : Hp) : Prop := Led H0 H2 ((D, .lst ((List.range i).map f)) :: l) ∧ Ts H H2
theorem rd_mapEnd {f : Nat → V} {i : Nat} {D : Addr} {H3 : Hp} (l' : List (Addr × HO)) (L : Led H0 H3 (l' ++ (D, .lst ((List.range i).map f)) :: l)) (t : Ts H H3) (hi : i < 1000000) {y : V} (e : y = f i) : put1 D (mapW H0 H l f D (i + 1)) y H3 := by
  subst e
  refine rd_put1 L.drop1 0 rfl (by rw [List.length_map, List.length_range]; exact szl (Nat.le_of_lt hi)) fun H5 L5 t5 => ⟨L5.to ?_, t.trans t5⟩
  rw [List.range_succ, List.map_append]
  rfl
theorem lc_map {n : Nat} {vs : List Nat} (f : Nat → V) (L : Led H0 H l)
    (hs : ∀ i D H1, i < n → Led H0 H1 ((D, .lst ((List.range i).map f)) :: l) → Ts H H1 → g (.int (i : Nat)) (wipe σ vs) H1 fun σ2 H2 => wipe σ2 vs = wipe σ vs ∧ tt σ2 H2 fun b H3 => if b = true then te σ2 H3 (put1 D (mapW H0 H l f D (i + 1))) else mapW H0 H l f D (i + 1) H3)
    (hd : ∀ D H1, Led H0 H1 ((D, .lst ((List.range n).map f)) :: l) → Ts H H1 → Q (.ref D) H1) : lc (Itr 0 n) g tt te vs σ H Q := by
  refine lc_rng L fun D H1 L1 t1 => ⟨mapW H0 H l f D, ⟨L1, t1⟩, fun i H2 hi ⟨L2, t2⟩ => ?_, fun H2 ⟨L2, t2⟩ => hd D H2 L2 t2⟩
  have e : (0 : Int) + (i : Nat) = (i : Nat) := by omega
  rw [e]
  exact hs i D H2 hi L2 t2
theorem gName_mono {i : Nat} : ∀ (x : V) (σ : L2.St) (H : Hp) (R R' : L2.St → Hp → Prop), (∀ σ2 H2, R σ2 H2 → R' σ2 H2) → gName i x σ H R → gName i x σ H R' := fun _ _ _ _ _ h q => h _ _ q
theorem tYes_mono : ∀ (σ : L2.St) (H : Hp) (Q Q' : Bool → Hp → Prop), (∀ b H1, Q b H1 → Q' b H1) → tYes σ H Q → tYes σ H Q' := fun _ _ _ _ h q => h _ _ q
theorem rd_yes {QB : Bool → Hp → Prop} (h : QB true H) : tYes σ H QB := h
end
/-! ### raise -/
structure ExcT (K : PySem.W.Frag) (mg : Str → Option Value) (x : Str) : Prop where
  gl : mg x = some (.ref (He.ga K x))
  xc : PySem.W.excIn K (He.ga K x) He.veBase "ValueError.__new__" = true
  kp : PySem.W.keepIn K (.ref (He.ga K x)) = true
  bs : PySem.W.subIn K (.ref (He.ga K x)) (.type "BaseException") = some true
  ty : PySem.W.typeIn K (.ref (He.ga K x)) = some (.type "type")
def tRz (W : WX) (C : Addr) : TS := fun _ σ H => W (.ref C) none σ H
theorem ps_rz {X : Cx} {W : WX} {x m : Str} {j : Nat} {p p2 pos pos2 : Pos} (T : ExcT X.K X.mg x) (hc : X.calm = true) (tk : Takes X W) (hg : Gl X x) (hdb : (x == ("__debug__" : Str)) = false := by decide) :
    PS X (.Raise (some (.Call (.Name x p) [.Constant (.str m) j p2] [] pos)) none pos2) (tRz W (He.ga X.K x)) :=
  ps_raise hc tk (pmk_own PySem.F.excBase_ValueError T.xc T.gl T.kp (raises_own T.bs T.ty) hg hdb)
theorem rd_rz {W : WX} {C : Addr} {D : Ends} {σ : L2.St} {H : Hp} (h : W (.ref C) none σ H) : tRz W C D σ H := h
/-! ### isinstance of what a suite holds -/
def gIsE (K : PySem.W.Frag) (a : Addr) (cls : Value) (d : Option Addr) : List V → Hp → VK → Prop := fun xs H Q => ∃ (D : Addr) (c : V) (cv : Value) (b : Bool), cls = .ref D ∧ d = none ∧ ExcC K D ∧ xs = [.ref a, c] ∧ (∀ u, RelV c u → u = cv) ∧ PySem.W.kitOne K (.ref D) cv = some b ∧ Q (.bl b) H
theorem cr_isE {X : Cx} {a : Addr} {cls : Value} {d : Option Addr} {oe : Obj} {pn : List (Addr × Obj)} (hz : Zc cls d oe) (hf : ∃ vs, oe.data = .fields vs) : CallR (X.suite a ((a, oe) :: pn)) (.builtin "isinstance") (gIsE X.K a cls d) := by
  intro pins s σ H xs us Q I r h
  obtain ⟨D, c, cv, b, rfl, rfl, C, h⟩ := h
  exact call_isE (X := X) C hz hf pins s σ H xs us Q I r ⟨c, cv, b, h⟩
theorem rd_isE {K : PySem.W.Frag} {a D C : Addr} {H : Hp} {Q : VK} {b : Bool} (E : ExcC K D) (hk : PySem.W.kitOne K (.ref D) (.ref C) = some b) (k : Q (.bl b) H) : gIsE K a (.ref D) none [.ref a, .ref C] H Q :=
  ⟨D, _, _, b, rfl, rfl, E, rfl, fun _ r => r, hk, k⟩
theorem rd_isET {K : PySem.W.Frag} {a D : Addr} {H : Hp} {Q : VK} {b : Bool} {n : String} (E : ExcC K D) (hk : PySem.W.kitOne K (.ref D) (.type n) = some b) (k : Q (.bl b) H) : gIsE K a (.ref D) none [.ref a, .ty n] H Q :=
  ⟨D, _, _, b, rfl, rfl, E, rfl, fun _ r => r, hk, k⟩
end Tr
/-! Further rules. -/
namespace Tr
open PySem PySem.Spec PyProof.Rows L2
theorem pe_gint {X : Cx} {x : Str} {n : Int} {pos : Pos} (h : ∃ t, X.mg x = some (.int n t)) (hg : Gl X x) (hd : (x == ("__debug__" : Str)) = false := by decide) : PE X (.Name x pos) (tC (.int n)) := by
  obtain ⟨t, h⟩ := h
  exact pe_glob hg h ⟨t, rfl⟩ hd
theorem ited {p A B : Prop} [Decidable p] (h1 : p → A) (h2 : ¬ p → B) : if decide p = true then A else B := by
  by_cases h : p
  · rw [if_pos (decide_eq_true h)]
    exact h1 h
  · rw [if_neg (by rw [decide_eq_false h]; decide)]
    exact h2 h
theorem itedN {p A B : Prop} [Decidable p] (h1 : ¬ p → A) (h2 : p → B) : if (!decide p) = true then A else B := by
  by_cases h : p
  · rw [if_neg (by rw [decide_eq_true h]; decide)]
    exact h2 h
  · rw [if_pos (by rw [decide_eq_false h]; decide)]
    exact h1 h
theorem iteB {b : Bool} {A B : Prop} (h1 : b = true → A) (h2 : b = false → B) : if b = true then A else B := by
  cases b with
  | true => exact iteT (h1 rfl)
  | false => exact iteF (h2 rfl)
theorem iteBN {b : Bool} {A B : Prop} (h1 : b = false → A) (h2 : b = true → B) : if (!b) = true then A else B := by
  cases b with
  | true => exact iteF (h2 rfl)
  | false => exact iteT (h1 rfl)
/-- == of two lists of ints -/
theorem ints_data (ns : List Int) : ∀ {K : PySem.W.Frag} {H : Hp}, DpAll K H (ns.map V.int) (ns.map PyData.int) := by
  induction ns with
  | nil => intro K H; exact .nil
  | cons n ns ih => intro K H; exact .cons (.int n) ih
end Tr
namespace Tr
open PySem PySem.Spec PyProof.Rows L2
/-! ### slices and places -/
theorem cut_from {xs : List V} {k : Nat} : cutV xs (some (k : Int)) none = xs.drop k := by
  unfold cutV
  rw [HT.sIx_nat, HT.sIx_none]
  by_cases h : k ≤ xs.length
  · rw [Nat.min_eq_left h]
    exact List.take_of_length_le (by rw [List.length_drop]; omega)
  · have e : min k xs.length = xs.length := by omega
    rw [e, List.drop_length, List.drop_eq_nil_of_le (by omega)]
    simp
theorem cut_to {xs : List V} {k : Nat} : cutV xs none (some (k : Int)) = xs.take k := by
  unfold cutV
  rw [HT.sIx_nat, HT.sIx_none, List.drop_zero, Nat.sub_zero]
  by_cases h : k ≤ xs.length
  · rw [Nat.min_eq_left h]
  · have e : min k xs.length = xs.length := by omega
    rw [e, List.take_length, List.take_of_length_le (by omega)]
theorem cut_both {xs : List V} {j k : Nat} : cutV xs (some (j : Int)) (some (k : Int)) = (xs.drop j).take (k - j) := by
  unfold cutV
  rw [HT.sIx_nat, HT.sIx_nat]
  by_cases h : j ≤ xs.length
  · rw [Nat.min_eq_left h]
    by_cases h2 : k ≤ xs.length
    · rw [Nat.min_eq_left h2]
    · have e : min k xs.length = xs.length := by omega
      rw [e, List.take_of_length_le (by rw [List.length_drop]; omega), List.take_of_length_le (by rw [List.length_drop]; omega)]
  · have e : min j xs.length = xs.length := by omega
    rw [e, List.drop_length, List.drop_eq_nil_of_le (by omega)]
    simp
theorem at_int {ls : List Int} {k : Int} (h0 : 0 ≤ k) (hk : k < ls.length) : atI (ls.map V.int) k = some (.int (ls.getD k.toNat 0)) := by
  obtain ⟨j, rfl⟩ : ∃ j : Nat, k = j := ⟨k.toNat, by omega⟩
  have hj : j < ls.length := by omega
  refine atI_nat ?_
  rw [List.getElem?_map, List.getElem?_eq_getElem hj, Int.toNat_natCast, List.getD_eq_getElem?_getD, List.getElem?_eq_getElem hj]
  rfl
theorem mem_take {α : Type} {l : List α} {i : Nat} {x : α} (h : l[i]? = some x) : x ∈ l := List.mem_of_getElem? h
theorem take_sum {ns : List Int} {i : Nat} {n : Int} (h : ns[i]? = some n) : (ns.take (i + 1)).sum = (ns.take i).sum + n := by
  rw [List.take_add_one, h, List.sum_append]
  simp
/-! ### == of lists of ints -/
theorem eqvAll_ints : ∀ (ns ms : List Int), PyData.eqvAll (ns.map PyData.int) (ms.map PyData.int) = decide (ns = ms)
  | [], [] => by simp [PyData.eqvAll]
  | [], _ :: _ => by simp [PyData.eqvAll]
  | _ :: _, [] => by simp [PyData.eqvAll]
  | n :: ns, m :: ms => by
    simp only [List.map_cons, PyData.eqvAll, eqvAll_ints ns ms]
    by_cases h : n = m
    · subst h
      simp [PyData.eqv]
    · simp [PyData.eqv, h]
end Tr
namespace Tr
open PySem PySem.Spec PyProof.Rows L2
theorem depth_ints : ∀ ns : List Int, PyData.depthAll (ns.map PyData.int) = 0
  | [] => by simp only [List.map_nil, PyData.depthAll]
  | n :: ns => by simp only [List.map_cons, PyData.depthAll, PyData.depth, depth_ints ns, Nat.max_self]
theorem canLay_ints : ∀ ns : List Int, PyData.canLayAll0 (ns.map PyData.int) = true
  | [] => by simp only [List.map_nil, PyData.canLayAll0]
  | n :: ns => by simp only [List.map_cons, PyData.canLayAll0, PyData.canLay0, canLay_ints ns, Bool.and_self]
theorem shaped_ints (ns : List Int) : SeqAt.shaped (.list (ns.map PyData.int)) = true := by
  unfold SeqAt.shaped
  simp only [PyData.canLay0, canLay_ints, PyData.depth, depth_ints, Bool.true_and]
  decide
theorem eqv_ints (ns ms : List Int) : PyData.eqv (.list (ns.map PyData.int)) (.list (ms.map PyData.int)) = decide (ns = ms) := by
  rw [PyData.eqv, eqvAll_ints]
section
variable {K : PySem.W.Frag} {H : Hp} {Q : VK} {p q : Addr} {ns ms : List Int}
theorem dp_ints (h : SqL K H p (ns.map V.int)) : Dp K H (.ref p) (.list (ns.map PyData.int)) := .lst h (ints_data ns)
theorem rd_eqL (h1 : SqL K H p (ns.map V.int)) (h2 : SqL K H q (ms.map V.int)) (k : Q (.bl (decide (ns = ms))) H) : gEq K (.ref p) (.ref q) H Q :=
  rd_eqD (dp_ints h1) (dp_ints h2) (shaped_ints ns) (shaped_ints ms) (by rw [eqv_ints]; exact k)
theorem rd_neL (h1 : SqL K H p (ns.map V.int)) (h2 : SqL K H q (ms.map V.int)) (k : Q (.bl (!decide (ns = ms))) H) : gNe K (.ref p) (.ref q) H Q :=
  rd_neD (dp_ints h1) (dp_ints h2) (shaped_ints ns) (shaped_ints ms) (by rw [eqv_ints]; exact k)
end
/-! ### the promises of pure defs -/
/-- a new list -/
def newL (H : Hp) (Q : VK) (xs : List V) : Prop := ∀ p H', Led H H' [(p, .lst xs)] → Q (.ref p) H'
/-- nothing but a value -/
def newV (H : Hp) (Q : VK) (v : V) : Prop := ∀ H', Led H H' [] → Q v H'
/-- an error -/
def newE (K : PySem.W.Frag) (H : Hp) (E : XK) (x : Str) : Prop := ∀ H', Led H H' [] → E (.ref (He.ga K x)) none H'
end Tr
namespace Tr
open PySem PySem.Spec PyProof.Rows L2
/-! ### the rules with the written part named -/
section
variable {X : Cx} (K : PySem.W.Frag)
theorem kLen (h : X.K = K := by rfl) : CallR X (.builtin "len") (gLen K) := h ▸ cr_len
theorem kSum (hc : X.calm = true) (h : X.K = K := by rfl) : CallR X (.builtin "sum") (rSum K) := h ▸ cr_sum hc
theorem kMax (hc : X.calm = true) (h : X.K = K := by rfl) : CallR X (.builtin "max") (gMax K) := h ▸ cr_gMax hc
theorem kMin (hc : X.calm = true) (h : X.K = K := by rfl) : CallR X (.builtin "min") (gMin K) := h ▸ cr_gMin hc
theorem kSorted (h : X.K = K := by rfl) : CallR X (.builtin "sorted") (rSortedI K) := h ▸ cr_sortedI
theorem kIsi (h : X.K = K := by rfl) : CallR X (.builtin "isinstance") (rIsi K) := h ▸ call_isi
theorem kList (h : X.K = K := by rfl) : CallR X (.type "list") (gList K) := h ▸ cr_list
theorem kTuple (h : X.K = K := by rfl) : CallR X (.type "tuple") (gTuple K) := h ▸ cr_tuple
theorem kEq (hu : X.A.units + 64 < cLine) (h : X.K = K := by rfl) : OpR X (compareOp .Eq) (gEq K) := h ▸ op_gEq hu
theorem kNe (hu : X.A.units + 64 < cLine) (h : X.K = K := by rfl) : OpR X (compareOp .NotEq) (gNe K) := h ▸ op_gNe hu
theorem kIx (h : X.K = K := by rfl) : IxR X (rIx K) := h ▸ ix_seq
theorem kSl (h : X.K = K := by rfl) : SlR X (rSlL K) := h ▸ sl_list
theorem kCount (h : X.K = K := by rfl) : MtR X "list.count" (rCntI K) := h ▸ mt_lcount
theorem kIndex (h : X.K = K := by rfl) : MtR X "list.index" (rIndex K) := h ▸ mt_index
variable {tg : Expr} {l : Expr} {tl : TE}
theorem kiList (hl : PE X l tl) (h : X.K = K := by rfl) : PI X tg l (iList K tl) := h ▸ pi_list hl
theorem kiTup (hl : PE X l tl) (h : X.K = K := by rfl) : PI X tg l (iTup K tl) := h ▸ pi_tup hl
variable {o e : Expr} {es : List Expr} {to : TE} {t : TA} {name : Str} {apos cpos : Pos} {T id : String} {r : V → List V → Hp → VK → Prop}
theorem kbm0 (pa : PlainAttrs T) (slot : Slot T name id) (hty : typeOf (.builtin id) = pure (.type "method_descriptor")) (hm : MtR X id r) (ho : PE X o to)
    (h : X.K = K := by rfl) (hbase : attributeBase o name X.env (eval o X.env) = eval o X.env := by rfl) (hline : (apos.endLine == cpos.line) = true := by rfl) : PE X (.Call (.Attribute o name apos) [] [] cpos) (tBM0 K T r to) :=
  h ▸ pe_bm0 pa slot hty hm ho hbase hline
theorem kbm (pa : PlainAttrs T) (slot : Slot T name id) (hty : typeOf (.builtin id) = pure (.type "method_descriptor")) (hm : MtR X id r) (ho : PE X o to) (ha : PA X (e :: es) t)
    (h : X.K = K := by rfl) (hbase : attributeBase o name X.env (eval o X.env) = eval o X.env := by rfl)
    (hfew : ((backTo cpos (starEach (e :: es) X.env)).all (fun x => !x.1) && (backToKw cpos (keywordEach [] X.env)).all (fun x => x.1.isSome)
      && decide ((e :: es).length + ([] : List Keyword).length + (if ([] : List Keyword).isEmpty then 0 else 1) < 30)) = true := by rfl)
    (hline : (apos.endLine == cpos.line) = true := by rfl) (hs : starEach (e :: es) X.env = (false, eval e X.env) :: starEach es X.env := by rfl) (hplain : (backTo cpos (starEach es X.env)).any (·.1) = false := by rfl) :
    PE X (.Call (.Attribute o name apos) (e :: es) [] cpos) (tBM K T r to t) := h ▸ pe_bm pa slot hty hm ho ha hbase hfew hline hs hplain
end
end Tr
namespace Tr
theorem iteNT {A B : Prop} (h : B) : if (!true) = true then A else B := L2.iteF h
theorem iteNF {A B : Prop} (h : A) : if (!false) = true then A else B := L2.iteT h
end Tr
namespace Tr
open PySem PySem.Spec PyProof.Rows L2
/-! ### == of lists of truths -/
theorem bools_data (ns : List Bool) : ∀ {K : PySem.W.Frag} {H : Hp}, DpAll K H (ns.map V.bl) (ns.map PyData.bool) := by
  induction ns with
  | nil => intro K H; exact .nil
  | cons n ns ih => intro K H; exact .cons (.bl n) ih
theorem eqvAll_bools : ∀ (ns ms : List Bool), PyData.eqvAll (ns.map PyData.bool) (ms.map PyData.bool) = decide (ns = ms)
  | [], [] => by simp [PyData.eqvAll]
  | [], _ :: _ => by simp [PyData.eqvAll]
  | _ :: _, [] => by simp [PyData.eqvAll]
  | n :: ns, m :: ms => by
    simp only [List.map_cons, PyData.eqvAll, eqvAll_bools ns ms]
    by_cases h : n = m
    · subst h
      simp [PyData.eqv]
    · simp [PyData.eqv, h]
theorem depth_bools : ∀ ns : List Bool, PyData.depthAll (ns.map PyData.bool) = 0
  | [] => by simp only [List.map_nil, PyData.depthAll]
  | n :: ns => by simp only [List.map_cons, PyData.depthAll, PyData.depth, depth_bools ns, Nat.max_self]
theorem canLay_bools : ∀ ns : List Bool, PyData.canLayAll0 (ns.map PyData.bool) = true
  | [] => by simp only [List.map_nil, PyData.canLayAll0]
  | n :: ns => by simp only [List.map_cons, PyData.canLayAll0, PyData.canLay0, canLay_bools ns, Bool.and_self]
theorem shaped_bools (ns : List Bool) : SeqAt.shaped (.list (ns.map PyData.bool)) = true := by
  unfold SeqAt.shaped
  simp only [PyData.canLay0, canLay_bools, PyData.depth, depth_bools, Bool.true_and]
  decide
section
variable {K : PySem.W.Frag} {H : Hp} {Q : VK} {p q : Addr}
theorem rd_eqBs (ns ms : List Bool) (h1 : SqL K H p (ns.map V.bl)) (h2 : SqL K H q (ms.map V.bl)) (k : Q (.bl (decide (ns = ms))) H) : gEq K (.ref p) (.ref q) H Q :=
  rd_eqD (.lst h1 (bools_data ns)) (.lst h2 (bools_data ms)) (shaped_bools ns) (shaped_bools ms) (by
    rw [PyData.eqv, eqvAll_bools]
    exact k)
theorem rd_neBs (ns ms : List Bool) (h1 : SqL K H p (ns.map V.bl)) (h2 : SqL K H q (ms.map V.bl)) (k : Q (.bl (!decide (ns = ms))) H) : gNe K (.ref p) (.ref q) H Q :=
  rd_neD (.lst h1 (bools_data ns)) (.lst h2 (bools_data ms)) (shaped_bools ns) (shaped_bools ms) (by
    rw [PyData.eqv, eqvAll_bools]
    exact k)
end
theorem Led.fresh0 {H0 H : Hp} (L : Led H0 H []) : Led H0 H [] := L
/-- only what stands in front is kept -/
theorem Led.only {H0 H : Hp} {l : List (Addr × HO)} {x : Addr × HO} (L : Led H0 H (x :: l)) : Led H0 H [x] := L.sub (List.Sublist.cons_cons _ (List.nil_sublist _))
theorem Led.none {H0 H : Hp} {l : List (Addr × HO)} (L : Led H0 H l) : Led H0 H [] := L.sub (List.nil_sublist _)
end Tr
namespace Tr
open PySem PySem.Spec PyProof.Rows L2
section
variable {K : PySem.W.Frag} {H : Hp} {Q : VK} {p q : Addr} {ns : List Int}
theorem rd_eqLs (h1 : SqL K H p (ns.map V.int)) (h2 : SqL K H q (ns.map V.int)) (k : Q (.bl true) H) : gEq K (.ref p) (.ref q) H Q := rd_eqL h1 h2 (by
  rw [decide_eq_true rfl]
  exact k)
theorem rd_neLs (h1 : SqL K H p (ns.map V.int)) (h2 : SqL K H q (ns.map V.int)) (k : Q (.bl false) H) : gNe K (.ref p) (.ref q) H Q := rd_neL h1 h2 (by
  rw [decide_eq_true rfl]
  exact k)
end
/-- a plain «if c: x = v» -/
theorem if_asg {c : Prop} [Decidable c] {v w : V} {i : Nat} {D : Ends} {σ : L2.St} {H : Hp} (hw : σ[i]? = some (some w)) (h : D.nx (σ.set i (some (if c then v else w))) H) : if decide c = true then tAsg (tC v) (gName i) D σ H else tNext D σ H := by
  refine ited (fun hc => ?_) (fun hc => ?_)
  · rw [if_pos hc] at h
    exact h
  · rw [if_neg hc] at h
    have e : σ.set i (some w) = σ := by
      apply List.ext_getElem?
      intro j
      rw [List.getElem?_set]
      by_cases hj : i = j
      · subst hj
        rw [if_pos rfl, if_pos (List.getElem?_eq_some_iff.mp hw).1, hw]
      · rw [if_neg hj]
    rw [e] at h
    exact h
end Tr
namespace Tr
open PySem PySem.Spec PyProof.Rows L2
/-- an if whose ways come together: N is what stands behind it -/
theorem if_two {c : Prop} [Decidable c] {t u : TS} {D : Ends} {σ : L2.St} {H : Hp} (N : L2.St → Hp → Prop) (h0 : ∀ σ H, N σ H → D.nx σ H)
    (h1 : ∀ nx' : L2.St → Hp → Prop, (∀ σ H, N σ H → nx' σ H) → c → t { D with nx := nx' } σ H) (h2 : ∀ nx' : L2.St → Hp → Prop, (∀ σ H, N σ H → nx' σ H) → ¬ c → u { D with nx := nx' } σ H) : if decide c = true then t D σ H else u D σ H :=
  ited (fun c => h1 D.nx h0 c) (fun c => h2 D.nx h0 c)
/-- a statement behind which N stands -/
theorem st_cut {t : TS} {D : Ends} {σ : L2.St} {H : Hp} (N : L2.St → Hp → Prop) (h0 : ∀ σ H, N σ H → D.nx σ H) (h1 : ∀ nx' : L2.St → Hp → Prop, (∀ σ H, N σ H → nx' σ H) → t { D with nx := nx' } σ H) : t D σ H := h1 D.nx h0
/-! ### index, backwards -/
section
variable {H0 H : Hp} {l : List (Addr × HO)} {Q : VK} {K : PySem.W.Frag} {a : Addr} {xs : List V} {σ : L2.St} {te : TE}
theorem idx_first {n : Int} : ∀ {ns : List Int}, n ∈ ns → ∃ j, j < ns.length ∧ ns[j]? = some n ∧ ∀ m z, m < j → ns[m]? = some z → z ≠ n
  | x :: r, h => by
    by_cases e : x = n
    · exact ⟨0, by simp, by simp [e], fun m z hm => absurd hm (Nat.not_lt_zero _)⟩
    · have h' : n ∈ r := by
        rcases List.mem_cons.mp h with h | h
        · exact absurd h.symm e
        · exact h
      obtain ⟨j, h1, h2, h3⟩ := idx_first h'
      refine ⟨j + 1, by simpa using h1, by simpa using h2, fun m z hm hz => ?_⟩
      cases m with
      | zero =>
        have : x = z := by simpa using hz
        subst this
        exact e
      | succ m => exact h3 m z (by omega) (by simpa using hz)
theorem rd_index {ns : List Int} {n : Int} (hs : SqL K H a (ns.map V.int)) (hn : n ∈ ns) (k : ∀ j : Nat, j < ns.length → ns[j]? = some n → (∀ m z, m < j → ns[m]? = some z → z ≠ n) → Q (.int j) H) : rIndex K (.ref a) [.int n] H Q := by
  obtain ⟨j, h1, h2, h3⟩ := idx_first hn
  refine ⟨a, ns.map V.int, .int n, j, .int n, rfl, rfl, hs, rfl, ?_, ?_, ?_, ?_, k j h1 h2 h3⟩
  · rw [List.all_map]
    exact List.all_eq_true.mpr fun _ _ => rfl
  · rw [List.getElem?_map, h2]
    rfl
  · show (n == n) = true
    simp
  · intro m z' hm hz
    rw [List.getElem?_map] at hz
    cases e : ns[m]? with
    | none => rw [e] at hz; cases hz
    | some z =>
      rw [e] at hz
      cases hz
      have := h3 m z hm e
      show (z == n) = false
      simpa using this
def revL1 (K : PySem.W.Frag) (x : V) (H : Hp) (Q : VK) : Prop := ∃ a xs, x = .ref a ∧ SqL K H a xs ∧ ∀ p, H p = none → Q (.ref p) (upd H p (.lst xs.reverse))
theorem rd_revL (h : te σ H fun x H1 => revL1 K x H1 Q) : tRevL K te σ H Q := h
theorem rd_revL1 (L : Led H0 H l) (hs : SqL K H a xs) (k : ∀ p H', Led H0 H' ((p, .lst xs.reverse) :: l) → Ts H H' → Q (.ref p) H') : revL1 K (.ref a) H Q := ⟨a, xs, rfl, hs, fun p hp => k p _ (L.push hp) (Ts.of (Same.push hp))⟩
end
end Tr
namespace Tr
open PySem PySem.Spec PyProof.Rows L2
section
variable {H0 H : Hp} {l : List (Addr × HO)} {Q : VK} {K : PySem.W.Frag} {a : Addr} {σ : L2.St} {te : TE} {g : TG} {tt : TT} {vs : List Nat}
/-- a list of what f tells of each item -/
def mapI (H0 H : Hp) (l : List (Addr × HO)) (ns : List Int) (f : Int → V) (D : Addr) (i : Nat) (H2 : Hp) : Prop := Led H0 H2 ((D, .lst ((ns.take i).map f)) :: l) ∧ Ts H H2
theorem rd_mapIEnd {ns : List Int} {f : Int → V} {i : Nat} {n : Int} {D : Addr} {H3 : Hp} (l' : List (Addr × HO)) (L : Led H0 H3 (l' ++ (D, .lst ((ns.take i).map f)) :: l)) (t : Ts H H3) (hn : ns[i]? = some n) (hi : i < 1000000) {y : V} (e : y = f n) : put1 D (mapI H0 H l ns f D (i + 1)) y H3 := by
  subst e
  refine rd_put1 L.drop1 0 rfl (by rw [List.length_map, List.length_take]; exact szl (m := i) (Nat.min_le_left _ _)) fun H5 L5 t5 => ⟨L5.to ?_, t.trans t5⟩
  rw [List.take_add_one, hn, List.map_append]
  rfl
theorem lc_mapI {ns : List Int} (f : Int → V) (L : Led H0 H l) (hS : ∀ H1, Ts H H1 → Same H0 H1 → (∀ l1, Led H0 H1 (l1 ++ l) → SqL K H1 a (ns.map V.int)))
    (hs : ∀ i n D H1, ns[i]? = some n → Led H0 H1 ((D, .lst ((ns.take i).map f)) :: l) → Ts H H1 → g (.int n) (wipe σ vs) H1 fun σ2 H2 => wipe σ2 vs = wipe σ vs ∧ tt σ2 H2 fun b H3 => if b = true then te σ2 H3 (put1 D (mapI H0 H l ns f D (i + 1))) else mapI H0 H l ns f D (i + 1) H3)
    (hd : ∀ D H1, Led H0 H1 ((D, .lst (ns.map f)) :: l) → Ts H H1 → Q (.ref D) H1) : lc (Itl K a) g tt te vs σ H Q := by
  refine lc_lst (xs := ns.map V.int) L fun D H1 L1 t1 => ⟨mapI H0 H l ns f D, ⟨L1, t1⟩, fun i H2 _ ⟨L2, t2⟩ => hS H2 t2 L2.same [_] L2, fun i x H2 hx ⟨L2, t2⟩ => ?_, fun H2 ⟨L2, t2⟩ => hd D H2 (L2.to (by rw [List.length_map, List.take_length])) t2⟩
  rw [List.getElem?_map] at hx
  cases e : ns[i]? with
  | none => rw [e] at hx; cases hx
  | some n =>
    rw [e] at hx
    cases hx
    exact hs i n D H2 e L2 t2
end
end Tr
/-! list(reversed(x)), x a list or a tuple. -/
namespace Tr
open PySem PySem.Spec PyProof.Rows L2 RT
theorem tup_at {h h' : Heap} {a : Addr} {items : Array Value} (x : IsTup h a items) (k : ∀ o, h.get? a = some o → h'.get? a = some o) : IsTup h' a items := let ⟨o, e, r⟩ := x; ⟨o, k o e, r⟩
section
variable {prog : Program} {w : World} {A : Around} {E : Value → Shared → Prop} {s : Shared}
theorem rt_nolen : typeLookup (.type "reversed") "__len__" = pure none := by rw [typeLookup_type, builtinLookup_eq_fast]; kernel_rfl
theorem rt_hint : typeLookup (.type "reversed") "__length_hint__" = pure (some (.builtin "reversed.__length_hint__")) := by rw [typeLookup_type, builtinLookup_eq_fast]; kernel_rfl
theorem rt_hint_slot : Slot "reversed" "__length_hint__" "reversed.__length_hint__" :=
  .of (owner := "reversed") (n := "__length_hint__") rt_hint (by decide +kernel) (by decide +kernel) (by decide +kernel)
    (by first | exact .inl (by decide +kernel) | exact .inr (by decide +kernel)) (by rw [isSubtype_type]; kernel_rfl)
theorem rt_hint_entry : entryFor table "reversed.__length_hint__" = some Builtin.«reversed.__length_hint__» := entryFor_of_tree (by kernel_rfl)
theorem rt_hint_args (a : Value) : argsOk "reversed.__length_hint__" ⟨[a], []⟩ := by
  unfold argsOk; rw [signature?_of (id := "reversed.__length_hint__") (n := "__length_hint__".toList.reverse) (o := "reversed".toList.reverse) (by kernel_rfl) owner_rt]; kernel_rfl
theorem rt_hint_call {I t : Addr} {items : Array Value} {Q : Value → Shared → Prop} (hit : IsRt s.heap I t ((items.size : Int) - 1)) (ht : IsTup s.heap t items) (hn : items.size ≤ sizeLine)
    (h : ∀ tk u, Q (.int items.size u) { s with toks := tk }) : wpAny (model prog w) A (call (.builtin "reversed.__length_hint__") [.ref I]) Q E s := by
  obtain ⟨o, ho, hc, hd⟩ := id hit
  rw [sizeLine_eq] at hn
  refine wpAny_call_entry rt_hint_slot hit.typeIs rt_hint_entry ?_ (rt_hint_args _)
  unfold Builtin.«reversed.__length_hint__»
  refine wpAny_bind (wpAny_of_eq (a := Value.ref I) rfl ?_)
  refine wpAny_bind (wpAny_field ho hd (x := .ref t) rfl ?_)
  rw [if_neg (by simp)]
  refine wpAny_bind (len_tuple ht (by omega) ?_)
  refine wpAny_bind (wpAny_of_eq (a := some (items.size : Int)) rfl ?_)
  show wpAny _ _ (field (.ref I) 1 >>= _) _ _ _
  refine wpAny_bind (wpAny_field (s := { s with toks := s.toks + 1 + 1 }) ho hd (x := rawInt ((items.size : Int) - 1)) rfl ?_)
  show wpAny _ _ (if (items.size : Int) < (items.size : Int) - 1 + 1 then _ else _) _ _ _
  rw [if_neg (by omega)]
  have e : (items.size : Int) - 1 + 1 = items.size := by omega
  rw [e]
  refine wpAny_bind (wpAny_mkInt (wpAny_pure ⟨_, rfl, h _ _⟩))
theorem hint_tail {n : Nat} {Q : Bool → Shared → Prop} {u : Tok} {F : Option Int → Sem Bool} (h : wpAny (model prog w) A (F (some (n : Int))) Q E s) : wpAny (model prog w) A (asInt? (.int n u) >>= F) Q E s := wpAny_bind (wpAny_of_eq (a := some (n : Int)) rfl h)
theorem rt_hint_of {I t : Addr} {items : Array Value} {Q : Bool → Shared → Prop} (hit : IsRt s.heap I t ((items.size : Int) - 1)) (ht : IsTup s.heap t items) (hn : items.size ≤ sizeLine)
    (h : ∀ tk b, Q b { s with toks := tk }) : wpAny (model prog w) A (Builtin.List.listLengthHint (.ref I)) Q E s := by
  have hT := hit.typeIs
  have hn' := hn
  rw [sizeLine_eq] at hn'
  unfold Builtin.List.listLengthHint
  refine wpAny_bind (wpAny_specialOf hT rt_nolen ?_)
  show wpAny _ A (specialOf (Value.ref I) (Str.ofString "__length_hint__") >>= _) _ _ _
  refine wpAny_bind (wpAny_specialOf hT rt_hint ?_)
  generalize hid : ("reversed.__length_hint__" : String) = id0
  wp_delta
  rw [show splitId id0 = some ("reversed", "__length_hint__") from by subst hid; decide +kernel]
  subst hid
  refine wpAny_bind (wpAny_isInstance (b := true) hT (by rw [isSubtype_type]; kernel_rfl) ?_)
  rw [if_neg (by decide)]
  show wpAny _ _ (rule "list.length-hint.hint" >>= _) _ _ _
  refine wpAny_bind (wpAny_rule ?_)
  refine wpAny_bind (wpAny_of_eq (rt_hint_slot.bind _) ?_)
  refine wpAny_bind (wpAny_attempt (rt_hint_call hit ht hn fun tk u => ?_))
  show wpAny _ _ (asInt? (.int items.size u) >>= _) _ _ _
  refine hint_tail ?_
  have f1 : Builtin.List.listFitsIndex (items.size : Int) = true := fitsIndex_both (by omega) (by omega)
  have f2 : Builtin.List.listTooLong (items.size : Int).toNat = false := notLongL (by rw [Int.toNat_natCast]; exact hn)
  show wpAny _ _ (if (!Builtin.List.listFitsIndex (items.size : Int)) = true then _ else _) _ _ _
  rw [if_neg (by rw [f1]; decide)]
  show wpAny _ _ (if (items.size : Int) < 0 then _ else _) _ _ _
  rw [if_neg (by omega)]
  show wpAny _ _ (if Builtin.List.listTooLong (items.size : Int).toNat = true then _ else _) _ _ _
  rw [if_neg (by rw [f2]; decide)]
  exact wpAny_pure (h _ _)
/-! list(it) -/
/-- the loop that fills a new list -/
theorem fill_new {I l : Addr} {n : Nat} {P : Nat → Value → Prop} {St : Nat → Heap → Prop} {R : Result → Shared → Prop} (W : Walks prog w A.in1 I [I, l] [I] n P St) (hn : n ≤ sizeLine) {S : Addr} {s : Shared} {c : Nat} (hSI : S ≠ I) (hSl : S ≠ l) (hst : St 0 s.heap) (hS : s.heap.get? S = some { cls := .type "list", data := .seq #[] c })
    (hR : ∀ h' tk acc c', (∀ b o, b ≠ S → b ≠ I → s.heap.get? b = some o → h'.get? b = some o) → h'.get? S = some { cls := .type "list", data := .seq acc c' } → ItemsOf P acc n → R (.ok (.ret .none)) { s with heap := h', toks := tk }) :
    codeAny (model prog w) A (.builtin "list.extend.loop" ⟨[.ref S, .ref I, .none], []⟩) R s := by
  have hSf : S ∉ [I, l] := by simp [hSI, hSl]
  refine codeAny_extend_loopS W.toS hn S hSf .none n 0 s #[] c rfl (Nat.zero_le _) hst hS (ItemsOf.nil P) fun s' acc c' hm hS' hacc => ?_
  rw [Moved.eq_with hm]
  refine hR s'.heap s'.toks acc c' (fun b o h1 h2 e => hm.heap b o (fun hb => ?_) e) hS' hacc
  rcases List.mem_cons.mp hb with z | z
  · exact h1 z
  · exact h2 (List.mem_singleton.mp z)
/-- list.__init__ of a new list at S, from an iterator -/
theorem init_of_it {I l : Addr} {n : Nat} {P : Nat → Value → Prop} {St : Nat → Heap → Prop} {R : Result → Shared → Prop} {T : String} (W : Walks prog w A.in1 I [I, l] [I] n P St) (hn : n ≤ sizeLine) {S : Addr} {s : Shared} (hSI : S ≠ I) (hSl : S ≠ l) (hst : St 0 s.heap)
    (hS : s.heap.get? S = some { cls := .type "list", data := .seq #[] }) (hT : ∀ s : Shared, St 0 s.heap → s.TypeIs (.ref I) T) (t1 : (Value.type T == Value.type "list") = false) (t2 : (Value.type T == Value.type "tuple") = false)
    (hint : ∀ (s : Shared) (Q : Bool → Shared → Prop) (E : Value → Shared → Prop), St 0 s.heap → (∀ tk b, Q b { s with toks := tk }) → wpAny (model prog w) A.in1 (Builtin.List.listLengthHint (.ref I)) Q E s)
    (hR : ∀ h' tk acc c', (∀ b o, b ≠ S → b ≠ I → s.heap.get? b = some o → h'.get? b = some o) → h'.get? S = some { cls := .type "list", data := .seq acc c' } → ItemsOf P acc n → R (.ok (.ret .none)) { s with heap := h', toks := tk }) :
    wpAny (model prog w) A.in1 (Builtin.«list.__init__» ⟨[.ref S, .ref I], []⟩)
      (fun fin s' => match fin with | .done f => R (.ok f) s' | .again c' => c'.quiet = true ∧ codeAny (model prog w) A c' R s') (fun e s' => R (.error e) s') s := by
  show wpAny _ _ (do let old ← Builtin.List.listItems (.ref S); Builtin.List.listUpdate (.ref S) (fun _ => #[]); letGo old.toList.reverse; Builtin.List.listExtendWith (.ref S) (.ref I) .none) _ _ s
  refine wpAny_bind ?_
  unfold Builtin.List.listItems
  refine wpAny_bind (wpAny_seqItems hS rfl (wpAny_pure ?_))
  show wpAny _ _ (updateSeq S (fun _ => #[]) >>= fun _ => letGo (#[] : Array Value).toList.reverse >>= fun _ => Builtin.List.listExtendWith (.ref S) (.ref I) .none) _ _ s
  refine wpAny_bind (wpAny_updateSeq hS rfl ?_)
  have hS2 := Heap.get?_update_self (Obj.mapSeq (fun _ => (#[] : Array Value))) hS rfl
  have oth : ∀ b o, b ≠ S → s.heap.get? b = some o → (s.heap.update S (Obj.mapSeq (fun _ => (#[] : Array Value)))).get? b = some o :=
    fun b o hb e => (Heap.get?_update_other _ _ (Ne.symm hb)).trans e
  refine wpAny_bind (wpAny_letGo ?_)
  generalize hs2 : s.heap.update S (Obj.mapSeq (fun _ => (#[] : Array Value))) = h2 at hS2 oth ⊢
  have st2 : St 0 h2 := W.frame 0 _ _ hst fun b hb o e => oth b o (fun z => by
    subst z
    rcases List.mem_cons.mp hb with z | z
    · exact hSI z
    · exact hSl (List.mem_singleton.mp z)) e
  unfold Builtin.List.listExtendWith
  refine wpAny_bind (wpAny_typeOf (hT { s with heap := h2 } st2) ?_)
  have g1 : Builtin.List.listSameRef (.ref S) (.ref I) = false := by simp [Builtin.List.listSameRef, hSI]
  rw [if_neg (by rw [g1, t1, t2]; decide)]
  refine wpAny_bind (W.self 0 { s with heap := h2 } _ _ st2 ?_)
  refine wpAny_bind (wpAny_holding (hint { s with heap := h2 } _ _ st2 fun tk b => ?_))
  have fin : ∀ (h : Heap) (c : Nat), (∀ b o, b ≠ S → h2.get? b = some o → h.get? b = some o) → h.get? S = some { cls := .type "list", data := .seq #[] c } →
      codeAny (model prog w) A (.builtin "list.extend.loop" ⟨[.ref S, .ref I, .none], []⟩) R { s with heap := h, toks := tk } := by
    intro h c hk hSh
    refine fill_new W hn hSI hSl (s := { s with heap := h, toks := tk }) (W.frame 0 _ _ st2 fun b hb o e => hk b o (fun z => by
      subst z
      rcases List.mem_cons.mp hb with z | z
      · exact hSI z
      · exact hSl (List.mem_singleton.mp z)) e) hSh fun h' tk' acc c' k1 k2 k3 => ?_
    exact hR h' tk' acc c' (fun b o n1 n2 e => k1 b o n1 n2 (hk b o n1 (oth b o n1 e))) k2 k3
  refine wpAny_ite_split (fun _ => ?_) (fun _ => wpAny_pure ⟨plainId_quiet F.plain_extend_loop _, fin _ _ (fun _ _ _ e => e) hS2⟩)
  refine wpAny_bind (wpAny_rule ?_)
  refine wpAny_bind ?_
  show wpAny _ _ (updateSeq S (·.push .none) >>= fun _ => updateSeq S (·.pop)) _ _ _
  refine wpAny_bind (wpAny_updateSeq (s := { s with heap := h2, toks := tk }) hS2 rfl ?_)
  have hS3 := Heap.get?_update_self (Obj.mapSeq (·.push Value.none)) hS2 rfl
  refine wpAny_updateSeq (hz := by seq_fits) hS3 rfl ?_
  have hS4 := Heap.get?_update_self (Obj.mapSeq (·.pop)) hS3 rfl
  exact wpAny_pure ⟨plainId_quiet F.plain_extend_loop _, fin _ _ (fun b o hb e => (Heap.get?_update_other _ _ (Ne.symm hb)).trans ((Heap.get?_update_other _ _ (Ne.symm hb)).trans e)) hS4⟩
/-- list(it) -/
theorem call_list_it {I l : Addr} {n : Nat} {P : Nat → Value → Prop} {St : Nat → Heap → Prop} {T : String} {Q : Value → Shared → Prop} (W : Walks prog w A.in1.in1 I [I, l] [I] n P St) (hn : n ≤ sizeLine) (hI : I < s.heap.objs.size) (hl : l < s.heap.objs.size) (hst : St 0 s.heap)
    (hT : ∀ s : Shared, St 0 s.heap → s.TypeIs (.ref I) T) (t1 : (Value.type T == Value.type "list") = false) (t2 : (Value.type T == Value.type "tuple") = false)
    (hint : ∀ (s : Shared) (Q : Bool → Shared → Prop) (E : Value → Shared → Prop), St 0 s.heap → (∀ tk b, Q b { s with toks := tk }) → wpAny (model prog w) A.in1.in1 (Builtin.List.listLengthHint (.ref I)) Q E s)
    (hQ : ∀ h' tk acc c', (∀ b o, b ≠ I → s.heap.get? b = some o → h'.get? b = some o) → h'.get? s.heap.objs.size = some { cls := .type "list", data := .seq acc c' } → ItemsOf P acc n → Q (.ref s.heap.objs.size) { s with heap := h', toks := tk }) :
    wpAny (model prog w) A (call (.type "list") [.ref I]) Q E s := by
  refine callType_codes (Q₁ := fun obj s₁ => obj = .ref s.heap.objs.size ∧ s₁ = { s with heap := s.heap.push { cls := .type "list", data := .seq #[] } }) F.called_list (F.typeCall_list_1 _) F.entry_list_init
    (code_list_new _ ⟨rfl, rfl⟩) fun obj s₁ h₁ => ?_
  obtain ⟨rfl, rfl⟩ := h₁
  have hS : (s.heap.push { cls := .type "list", data := .seq #[] }).get? s.heap.objs.size = some { cls := .type "list", data := .seq #[] } := Heap.get?_push_size _ rfl
  have hSI : s.heap.objs.size ≠ I := Nat.ne_of_gt hI
  have hSl : s.heap.objs.size ≠ l := Nat.ne_of_gt hl
  refine ⟨⟨_, hS, rfl⟩, F.args_list_init_2 _ _, init_of_it (A := A.in1) W hn hSI hSl (W.frame 0 _ _ hst fun b _ o e => Heap.get?_push_of_some _ e) hS hT t1 t2 hint fun h' tk acc c' hk hS' hacc => ?_⟩
  exact ⟨rfl, hQ h' tk acc c' (fun b o hb e => hk b o (Nat.ne_of_lt (Heap.lt_size e)) hb (Heap.get?_push_of_some _ e)) hS' hacc⟩
/-- what reversed(a tuple) walks -/
theorem walks_rt (hh : A.handled = none) (I t : Addr) (hne : t ≠ I) (items : Array Value) (hn : items.size ≤ sizeLine) :
    Walks prog w A I [I, t] [I] items.size (fun i v => items[items.size - 1 - i]? = some v) (fun i h => i ≤ items.size ∧ RT.IsRt h I t ((items.size : Int) - 1 - (i : Int)) ∧ IsTup h t items) where
  sub := by intro b hb; simp at hb; simp [hb]
  frame := by
    rintro _ h h' ⟨x1, x2, x3⟩ hk
    exact ⟨x1, x2.at (hk I (by simp)), tup_at x3 (hk t (by simp))⟩
  item := by
    rintro i s Q E hi ⟨_, x2, x3⟩ hQ
    have e1 : (items.size : Int) - 1 - (i : Int) = ((items.size - 1 - i : Nat) : Int) := by omega
    rw [e1] at x2
    have hx : items[items.size - 1 - i]? = some (items[items.size - 1 - i]'(by omega)) := Array.getElem?_eq_getElem (by omega)
    refine RT.next_rt_item x2 x3 hx hn fun h' y sb => ?_
    have e2 : ((items.size - 1 - i : Nat) : Int) - 1 = (items.size : Int) - 1 - ((i + 1 : Nat) : Int) := by omega
    rw [e2] at y
    exact hQ _ h' (s.toks + 1) hx ⟨hi, y, tup_at x3 fun o eo => (sb.2 t hne).trans eo⟩ fun b o hb eo => (sb.2 b (fun z => hb (by simp [z]))).trans eo
  done := by
    rintro s Q E ⟨_, x2, x3⟩ hQ
    have e1 : (items.size : Int) - 1 - (items.size : Int) = -1 := by omega
    rw [e1] at x2
    exact RT.next_rt_end hh x2 fun h' k => hQ h' s.toks fun b o hb eo => k b o (fun z => hb (by simp [z])) eo
  self := fun _ _ _ _ x hQ => RT.iter_rt x.2.1 hQ

theorem lri_hint_of {I l : Addr} {i : Int} {Q : Bool → Shared → Prop} (hit : s.heap.IsRevIter I l i) (h : ∀ tk b, Q b { s with toks := tk }) : wpAny (model prog w) A (Builtin.List.listLengthHint (.ref I)) Q E s := by
  have hT : s.TypeIs (.ref I) "list_reverseiterator" := hit.typeIs
  unfold Builtin.List.listLengthHint
  refine wpAny_bind (wpAny_specialOf hT nolen_lri ?_)
  show wpAny _ A (specialOf (Value.ref I) (Str.ofString "__length_hint__") >>= _) _ _ _
  refine wpAny_bind (wpAny_specialOf hT hint_lri ?_)
  generalize hid : ("list_reverseiterator.__length_hint__" : String) = id0
  wp_delta
  rw [show splitId id0 = some ("list_reverseiterator", "__length_hint__") from by subst hid; decide +kernel]
  subst hid
  refine wpAny_bind (wpAny_isInstance (b := true) hT (by rw [isSubtype_type]; kernel_rfl) ?_)
  refine wpAny_pure ?_
  exact h s.toks _
theorem call_list_lri {I l : Addr} {items : Array Value} {Q : Value → Shared → Prop} (hh : A.handled = none) (hit : s.heap.IsRevIter I l ((items.size : Int) - 1)) (hl : s.heap.IsList l items) (hne : l ≠ I) (hn : items.size ≤ sizeLine)
    (hQ : ∀ h' tk acc c', (∀ b o, b ≠ I → s.heap.get? b = some o → h'.get? b = some o) → h'.get? s.heap.objs.size = some { cls := .type "list", data := .seq acc c' } → ItemsOf (fun i v => items[items.size - 1 - i]? = some v) acc items.size → Q (.ref s.heap.objs.size) { s with heap := h', toks := tk }) :
    wpAny (model prog w) A (call (.type "list") [.ref I]) Q E s := by
  obtain ⟨oi, hoi, _⟩ := id hit
  obtain ⟨ol, hol, _⟩ := id hl
  have e0 : ((items.size : Nat) : Int) - 1 - ((0 : Nat) : Int) = (items.size : Int) - 1 := by omega
  refine call_list_it (T := "list_reverseiterator") (Walks.listRev (prog := prog) (w := w) (A := A.in1.in1) hh I l hne items) hn (Heap.lt_size hoi) (Heap.lt_size hol) ⟨Nat.zero_le _, by rw [e0]; exact hit, hl⟩ (fun s x => x.2.1.typeIs) (by decide) (by decide) (fun s Q E x h => ?_) hQ
  exact lri_hint_of x.2.1 h
theorem call_list_rt {I l : Addr} {items : Array Value} {Q : Value → Shared → Prop} (hh : A.handled = none) (hit : IsRt s.heap I l ((items.size : Int) - 1)) (hl : IsTup s.heap l items) (hne : l ≠ I) (hn : items.size ≤ sizeLine)
    (hQ : ∀ h' tk acc c', (∀ b o, b ≠ I → s.heap.get? b = some o → h'.get? b = some o) → h'.get? s.heap.objs.size = some { cls := .type "list", data := .seq acc c' } → ItemsOf (fun i v => items[items.size - 1 - i]? = some v) acc items.size → Q (.ref s.heap.objs.size) { s with heap := h', toks := tk }) :
    wpAny (model prog w) A (call (.type "list") [.ref I]) Q E s := by
  obtain ⟨oi, hoi, _⟩ := id hit
  obtain ⟨ol, hol, _⟩ := id hl
  have e0 : ((items.size : Nat) : Int) - 1 - ((0 : Nat) : Int) = (items.size : Int) - 1 := by omega
  refine call_list_it (T := "reversed") (walks_rt (prog := prog) (w := w) (A := A.in1.in1) hh I l hne items hn) hn (Heap.lt_size hoi) (Heap.lt_size hol) ⟨Nat.zero_le _, by rw [e0]; exact hit, hl⟩ (fun s x => x.2.1.typeIs) (by decide) (by decide) (fun s Q E x h => ?_) hQ
  have y := x.2.1
  rw [e0] at y
  exact rt_hint_of y x.2.2 hn h
end
/-- list(reversed(x)), x a list or a tuple: a new list -/
def tListRev (K : PySem.W.Frag) (te : TE) : TE := fun σ H Q => te σ H fun v H1 => ∃ (a : Addr) (xs : List V), v = .ref a ∧ (SqL K H1 a xs ∨ SqT K H1 a xs) ∧ ∀ q, H1 q = none → Q (.ref q) (upd H1 q (.lst xs.reverse))
theorem pe_listRev {X : Cx} {e : Expr} {te : TE} {p p2 pos pos2 : Pos} (hc : X.calm = true) (hg : Gl X "list") (hm : X.mg "list" = none) (hg2 : Gl X "reversed") (hm2 : X.mg "reversed" = none) (he : PE X e te)
    (hs : starEach [e] X.env = (false, eval e X.env) :: starEach [] X.env := by rfl)
    (hs2 : starEach [.Call (.Name "reversed" p2) [e] [] pos2] X.env = (false, eval (.Call (.Name "reversed" p2) [e] [] pos2) X.env) :: starEach [] X.env := by rfl) :
    PE X (.Call (.Name "list" p) [.Call (.Name "reversed" p2) [e] [] pos2] [] pos) (tListRev X.K te) := by
  refine ⟨fun pins s σ H Q I h => ?_⟩
  refine Call_ (ld_blt I hg hm boot_list (PyProof.Rows.callWith_type1 (args_cons (Call_ (ld_blt I hg2 hm2 PyProof.Rows.boot_reversed (PyProof.Rows.callWith_type1 (args_cons (thn (he.run pins s σ H _ I h) fun u s1 ⟨v, H1, I1, r1, q1⟩ => args_nil ?_) hs) hs rfl))) hs2) hs2 rfl))
  obtain ⟨a, xs, ev, hq, q⟩ := q1
  subst ev
  obtain rfl : u = Value.ref a := r1
  rcases hq with hq | hq
  · obtain ⟨its, rv, p', hz⟩ := I1.list hq
    refine call_reversed_list p'.isList (args_nil ?_)
    have k0 : ∀ b o, s1.heap.get? b = some o → (s1.heap.push (revObj a ((its.toArray.size : Int) - 1))).get? b = some o := fun b o e => Heap.get?_push_of_some _ e
    have hl := p'.isList
    obtain ⟨ol, hol, _⟩ := id hl
    have hne : a ≠ s1.heap.objs.size := Nat.ne_of_lt (Heap.lt_size hol)
    have hn : its.toArray.size ≤ sizeLine := by rw [List.size_toArray, ← rv.length]; exact hz
    refine call_list_lri (s := { s1 with heap := s1.heap.push (revObj a ((its.toArray.size : Int) - 1)) }) (I1.ok.hd hc) ⟨_, Heap.get?_push_size _ rfl, rfl, rfl⟩ (hl.push _) hne hn fun h' tk acc c' hk e' hi => ?_
    have hge : s1.heap.objs.size ≤ (s1.heap.push (revObj a ((its.toArray.size : Int) - 1))).objs.size := by
      have := Heap.lt_size (Heap.get?_push_size s1.heap (show (revObj a ((its.toArray.size : Int) - 1)).isFreed = false from rfl))
      exact Nat.le_of_lt this
    refine ⟨.ref _, upd H1 _ (.lst xs.reverse), I1.laid (t' := tk) (fun c o e => hk c o (Nat.ne_of_lt (Heap.lt_size e)) (k0 c o e)) hge (show ObjOk X.prog X.w _ _ _ (.lst xs.reverse) from ⟨by rw [List.length_reverse]; exact hz, acc.toList, c', RT.vals_rev rv hi, ?_⟩), rfl, q _ (I1.hok.fresh hge)⟩
    rw [Array.toArray_toList]
    exact e'
  · obtain ⟨its, rv, p', hz⟩ := I1.tuple hq
    have hl := rv.length
    have hn := line63
    have k0 : ∀ b o, s1.heap.get? b = some o → (s1.heap.push (rtObj a ((its.toArray.size : Int) - 1))).get? b = some o := fun b o e => Heap.get?_push_of_some _ e
    have hol := p'
    obtain ⟨ol, hol, _⟩ := id hol
    have hne : a ≠ s1.heap.objs.size := Nat.ne_of_lt (Heap.lt_size hol)
    have hn2 : its.toArray.size ≤ sizeLine := by rw [List.size_toArray, ← rv.length]; exact hz
    refine call_reversed_tup p' (fun A E Q k => len_tuple p' (by simp only [List.size_toArray] <;> omega) k) (args_nil ?_)
    refine call_list_rt (s := { s1 with heap := s1.heap.push (rtObj a ((its.toArray.size : Int) - 1)), toks := s1.toks + 1 + 1 }) (I1.ok.hd hc) ⟨_, Heap.get?_push_size _ rfl, rfl, rfl⟩ (Tr.tup_at p' (k0 a)) hne hn2 fun h' tk acc c' hk e' hi => ?_
    have hge : s1.heap.objs.size ≤ (s1.heap.push (rtObj a ((its.toArray.size : Int) - 1))).objs.size := by
      have := Heap.lt_size (Heap.get?_push_size s1.heap (show (rtObj a ((its.toArray.size : Int) - 1)).isFreed = false from rfl))
      exact Nat.le_of_lt this
    refine ⟨.ref _, upd H1 _ (.lst xs.reverse), I1.laid (t' := tk) (fun c o e => hk c o (Nat.ne_of_lt (Heap.lt_size e)) (k0 c o e)) hge (show ObjOk X.prog X.w _ _ _ (.lst xs.reverse) from ⟨by rw [List.length_reverse]; exact hz, acc.toList, c', RT.vals_rev rv hi, ?_⟩), rfl, q _ (I1.hok.fresh hge)⟩
    rw [Array.toArray_toList]
    exact e'
def listRev1 (K : PySem.W.Frag) (x : V) (H : Hp) (Q : VK) : Prop := ∃ (a : Addr) (xs : List V), x = .ref a ∧ (SqL K H a xs ∨ SqT K H a xs) ∧ ∀ q, H q = none → Q (.ref q) (upd H q (.lst xs.reverse))
section
variable {te : TE} {σ : L2.St} {H H0 : Hp} {Q : VK} {K : PySem.W.Frag} {a : Addr} {xs : List V} {l : List (Addr × HO)}
theorem rd_listRev (h : te σ H fun x H1 => listRev1 K x H1 Q) : tListRev K te σ H Q := h
theorem rd_listRevL (L : Led H0 H l) (hs : SqL K H a xs) (k : ∀ p H', Led H0 H' ((p, .lst xs.reverse) :: l) → Ts H H' → Q (.ref p) H') : listRev1 K (.ref a) H Q := ⟨a, xs, rfl, .inl hs, fun p hp => k p _ (L.push hp) (Ts.of (Same.push hp))⟩
theorem rd_listRevT (L : Led H0 H l) (hs : SqT K H a xs) (k : ∀ p H', Led H0 H' ((p, .lst xs.reverse) :: l) → Ts H H' → Q (.ref p) H') : listRev1 K (.ref a) H Q := ⟨a, xs, rfl, .inr hs, fun p hp => k p _ (L.push hp) (Ts.of (Same.push hp))⟩
end
end Tr
namespace Tr
open PySem PySem.Spec PyProof.Rows L2
section
variable {H0 H : Hp} {l : List (Addr × HO)} {Q : VK} {K : PySem.W.Frag} {a : Addr} {σ : L2.St} {te : TE} {g : TG} {tt : TT} {vs : List Nat}
/-- what f tells of each item, backwards -/
theorem lc_revI {ns : List Int} (f : Int → V) (L : Led H0 H l) (hS : ∀ H1, Ts H H1 → Same H0 H1 → (∀ l1, Led H0 H1 (l1 ++ l) → SqL K H1 a (ns.map V.int)))
    (hs : ∀ i n D H1, ns.reverse[i]? = some n → Led H0 H1 ((D, .lst ((ns.reverse.take i).map f)) :: l) → Ts H H1 → g (.int n) (wipe σ vs) H1 fun σ2 H2 => wipe σ2 vs = wipe σ vs ∧ tt σ2 H2 fun b H3 => if b = true then te σ2 H3 (put1 D (mapI H0 H l ns.reverse f D (i + 1))) else mapI H0 H l ns.reverse f D (i + 1) H3)
    (hd : ∀ D H1, Led H0 H1 ((D, .lst (ns.reverse.map f)) :: l) → Ts H H1 → Q (.ref D) H1) : lc (Itv K a (ns.map V.int).length) g tt te vs σ H Q := by
  intro D hD
  have L1 := L.push (o := .lst []) hD
  have hn : (ns.map V.int).length = ns.length := List.length_map ..
  refine ⟨fun i m H2 => m = ns.length - i ∧ i ≤ ns.length ∧ mapI H0 H l ns.reverse f D i H2, ⟨ns.length, by simp, Nat.zero_le _, L1, Ts.of (Same.push hD)⟩, ?_⟩
  rintro i m H2 ⟨rfl, hi, p⟩
  have q : SqL K H2 a (ns.map V.int) := hS H2 p.2 p.1.same [_] p.1
  by_cases hlt : i < ns.length
  · have hj : ns.length - 1 - i < ns.length := by omega
    have hx : (ns.map V.int)[(ns.map V.int).length - 1 - i]? = some (.int (ns[ns.length - 1 - i]'hj)) := by
      rw [hn, List.getElem?_map, List.getElem?_eq_getElem hj]
      rfl
    have hr : ns.reverse[i]? = some (ns[ns.length - 1 - i]'hj) := by
      rw [List.getElem?_reverse hlt, List.getElem?_eq_getElem hj]
    refine .inr ⟨⟨by omega, _, _, q, hx⟩, mapI H0 H l ns.reverse f D (i + 1), fun H' p' => ⟨ns.length - (i + 1), by omega, rfl, hlt, p'⟩, fun x H' y => ?_⟩
    obtain ⟨e, y⟩ := y
    subst e
    have e2 := (hx.symm.trans (y _ q))
    cases e2
    exact hs i _ D _ hr p.1 p.2
  · have e : i = ns.length := by omega
    subst e
    exact .inl ⟨by show _ ≤ _; omega, hd D H2 (p.1.to (by rw [← List.length_reverse, List.take_length])) p.2⟩
end
end Tr
namespace Tr
open PySem PySem.Spec PyProof.Rows L2
section
variable {H0 H : Hp} {l : List (Addr × HO)} {σ : L2.St} {p : Addr} {xs : List V} {v : V}
theorem rd_gSub {to ti : TE} {t : TSet} {R : L2.St → Hp → Prop} (h : to σ H fun o H1 => ti σ H1 fun i H2 => t o i v H2 fun H3 => R σ H3) : L2.gSub to ti t v σ H R := h
theorem rd_setL {R : Hp → Prop} {j : Nat} (L : Led H0 H l) (i : Nat) (h : l[i]? = some (p, .lst xs)) (hj : j < xs.length) (k : ∀ H', Led H0 H' (l.set i (p, .lst (xs.set j v))) → Ts H H' → R H') : rSetL (.ref p) (.int j) v H R :=
  ⟨p, xs, j, j, rfl, rfl, L.get i h, by unfold ixN; rw [if_pos (by omega), if_pos (by omega)]; simp, k _ (L.put i h) (Ts.put (L.get i h))⟩
end
end Tr
namespace Tr
open PySem PySem.Spec PyProof.Rows L2
section
variable {H0 H : Hp} {l : List (Addr × HO)} {Q : VK} {K : PySem.W.Frag} {a : Addr} {σ : L2.St} {te : TE} {ta : TA} {g : TG} {tt : TT} {vs : List Nat} {R : It → Hp → Prop}
/-! ### enumerate -/
def itE (K : PySem.W.Frag) (vs : List V) (H : Hp) (R : It → Hp → Prop) : Prop := ∃ a xs, vs = [.ref a] ∧ SqL K H a xs ∧ R (Ite K a) H
theorem rd_iEnum (h : ta σ H fun vs H1 => itE K vs H1 R) : iEnum K ta σ H R := h
theorem rd_itE {xs : List V} (hs : SqL K H a xs) (h : R (Ite K a) H) : itE K [.ref a] H R := ⟨a, xs, rfl, hs, h⟩
theorem rd_gTup {n : Nat} {t : TGs} {xs : List V} {R : L2.St → Hp → Prop} (hs : SqT K H a xs) (hl : xs.length = n) (h : t xs σ H R) : gTup K n t (.ref a) σ H R := ⟨a, xs, rfl, hs, hl, h⟩
/-- what f tells of each place and item -/
def enumF (ns : List Int) (f : Nat → Int → V) (j : Nat) : V := f j (ns.getD j 0)
theorem lc_enum {ns : List Int} (f : Nat → Int → V) (L : Led H0 H l) (hS : ∀ H1, Ts H H1 → Same H0 H1 → (∀ l1, Led H0 H1 (l1 ++ l) → SqL K H1 a (ns.map V.int)))
    (hs : ∀ i n D T H1, ns[i]? = some n → Led H0 H1 ((T, .tup [.int (i : Nat), .int n]) :: (D, .lst ((List.range i).map (enumF ns f))) :: l) → Ts H H1 → g (.ref T) (wipe σ vs) H1 fun σ2 H2 => wipe σ2 vs = wipe σ vs ∧ tt σ2 H2 fun b H3 => if b = true then te σ2 H3 (put1 D (mapW H0 H l (enumF ns f) D (i + 1))) else mapW H0 H l (enumF ns f) D (i + 1) H3)
    (hd : ∀ D H1, Led H0 H1 ((D, .lst ((List.range ns.length).map (enumF ns f))) :: l) → Ts H H1 → Q (.ref D) H1) : lc (Ite K a) g tt te vs σ H Q := by
  intro D hD
  have L1 := L.push (o := .lst []) hD
  have hn : (ns.map V.int).length = ns.length := List.length_map ..
  refine ⟨fun i m H2 => m = ns.length - i ∧ i ≤ ns.length ∧ mapW H0 H l (enumF ns f) D i H2, ⟨ns.length, by simp, Nat.zero_le _, L1, Ts.of (Same.push hD)⟩, ?_⟩
  rintro i m H2 ⟨rfl, hi, p⟩
  have q : SqL K H2 a (ns.map V.int) := hS H2 p.2 p.1.same [_] p.1
  by_cases hlt : i < ns.length
  · have hx : (ns.map V.int)[i]? = some (.int (ns[i]'hlt)) := by
      rw [List.getElem?_map, List.getElem?_eq_getElem hlt]
      rfl
    refine .inr ⟨⟨_, _, q, hx⟩, mapW H0 H l (enumF ns f) D (i + 1), fun H' p' => ⟨ns.length - (i + 1), by omega, rfl, hlt, p'⟩, fun x H' y => ?_⟩
    obtain ⟨T, x', ev, hT, eH, y⟩ := y
    subst ev eH
    have e2 := hx.symm.trans (y _ q)
    cases e2
    exact hs i _ D T _ (List.getElem?_eq_getElem hlt) (p.1.push hT) (p.2.trans (Ts.of (Same.push hT)))
  · have e : i = ns.length := by omega
    subst e
    exact .inl ⟨⟨_, q, by rw [hn]; exact Nat.le_refl _⟩, hd D H2 p.1 p.2⟩
theorem rd_gTwo {R : L2.St → Hp → Prop} {i j : Nat} {x y : V} (L : Led H0 H l) (k : Nat) (hk : l[k]? = some (a, .tup [x, y])) (h : R ((σ.set i (some x)).set j (some y)) H) : gTup K 2 (gCons (gName i) (gCons (gName j) gNil)) (.ref a) σ H R :=
  rd_gTup (L.tq k hk) rfl ⟨x, [y], rfl, y, [], rfl, rfl, h⟩
end
end Tr
namespace Tr
open PySem PySem.Spec PyProof.Rows L2
/-! ### order of lists of ints -/
/-- by the first pair that differs -/
def lexI (r : Int → Int → Bool) (z : Nat → Nat → Bool) : List Int → List Int → Bool
  | [], [] => z 0 0
  | [], _ :: _ => z 0 1
  | _ :: _, [] => z 1 0
  | x :: xs, y :: ys => if x = y then lexI r z xs ys else r x y
theorem firstLt_map {e r : Nat → Bool} {fin : Bool} : ∀ l : List Nat, SeqAt.firstLt e r fin (l.map Nat.succ) = SeqAt.firstLt (fun j => e (j + 1)) (fun j => r (j + 1)) fin l
  | [] => rfl
  | j :: l => by
    simp only [List.map_cons, SeqAt.firstLt]
    rw [firstLt_map l]
theorem firstLt_lex (r : Int → Int → Bool) (z : Nat → Nat → Bool) (hz : ∀ m n, z (m + 1) (n + 1) = z m n) (h01 : ∀ n, z 0 (n + 1) = z 0 1) (h10 : ∀ n, z (n + 1) 0 = z 1 0) : ∀ ns ms : List Int,
    SeqAt.firstLt (fun j => decide (ns.getD j 0 = ms.getD j 0)) (fun j => r (ns.getD j 0) (ms.getD j 0)) (z ns.length ms.length) (List.range (min ns.length ms.length)) = lexI r z ns ms
  | [], [] => rfl
  | [], y :: ys => by
    simp only [List.length_nil, List.length_cons, Nat.zero_min, List.range_zero, SeqAt.firstLt, lexI, h01]
  | x :: xs, [] => by
    simp only [List.length_nil, List.length_cons, Nat.min_zero, List.range_zero, SeqAt.firstLt, lexI, h10]
  | x :: xs, y :: ys => by
    have e : min (x :: xs).length (y :: ys).length = min xs.length ys.length + 1 := by simp only [List.length_cons]; omega
    rw [e, List.range_succ_eq_map]
    simp only [SeqAt.firstLt, firstLt_map, List.getD_cons_zero, List.getD_cons_succ, List.length_cons, hz, lexI]
    rw [firstLt_lex r z hz h01 h10 xs ys]
    by_cases h : x = y
    · rw [if_pos (decide_eq_true h), if_pos h]
    · rw [if_neg (by rw [decide_eq_false h]; decide), if_neg h]
def ltI : List Int → List Int → Bool := lexI (fun a b => decide (a < b)) (fun a b => decide (a < b))
def leI : List Int → List Int → Bool := lexI (fun a b => decide (a ≤ b)) (fun a b => decide (a ≤ b))
def rOrd (f : List Int → List Int → Bool) (K : PySem.W.Frag) : R2 := fun x y H Q => ∃ (a b : Addr) (ns ms : List Int), x = .ref a ∧ y = .ref b ∧ SqL K H a (ns.map V.int) ∧ SqL K H b (ms.map V.int) ∧ Q (.bl (f ns ms)) H
section
variable {X : Cx}
theorem ints_at {its : List Value} {ns : List Int} (i : IntsAre its ns) : ∀ j (h : j < its.toArray.size), ∃ t, its.toArray[j] = .int (ns.getD j 0) t := fun j h => PyProof.Rows.IntsAre.int_at i _ _ (by simp at h; simp [h])
theorem beq_dec (a b : Int) : (a == b) = decide (a = b) := by
  by_cases q : a = b
  · rw [decide_eq_true q]; exact beq_iff_eq.mpr q
  · rw [decide_eq_false q]; exact beq_eq_false_iff_ne.mpr q
theorem op_ltL (hu : X.A.units < cLine) : OpR X (compareOp .Lt) (rOrd ltI X.K) := by
  intro pins s σ H x y v u Q I rx ry h
  obtain ⟨a, b, ns, ms, rfl, rfl, ha, hb, q⟩ := h
  cases rx
  cases ry
  obtain ⟨its, r1, p1, _⟩ := I.list ha
  obtain ⟨its2, r2, p2, _⟩ := I.list hb
  have i1 : IntsAre its ns := Vals.ints r1
  have i2 : IntsAre its2 ms := Vals.ints r2
  have e1 : its.toArray.size = ns.length := by rw [List.size_toArray]; exact i1.length
  have e2 : its2.toArray.size = ms.length := by rw [List.size_toArray]; exact i2.length
  have R := SeqAt.RcLt.lists (A := X.A) (s := s) (e := fun j => decide (ns.getD j 0 = ms.getD j 0)) (r := fun j => decide (ns.getD j 0 < ms.getD j 0)) p1.isList p2.isList hu (fun j h1 h2 => by
    obtain ⟨t, et⟩ := ints_at i1 j h1
    obtain ⟨t', et'⟩ := ints_at i2 j h2
    rw [et, et', ← beq_dec]
    exact SeqAt.EqAt.int_int _ _ _ _) (fun j h1 h2 _ => by
    obtain ⟨t, et⟩ := ints_at i1 j h1
    obtain ⟨t', et'⟩ := ints_at i2 j h2
    rw [et, et']
    exact fun _ _ _ _ h => PyProof.Rows.lt_int h)
  rw [e1, e2, firstLt_lex (fun a b => decide (a < b)) (fun a b => decide (a < b)) (fun m n => by simp) (fun n => by simp) (fun n => by simp)] at R
  exact R X.prog X.w X.xe (EP X pins σ Q) ⟨.bl _, H, I, rfl, q⟩
theorem op_leL (hu : X.A.units < cLine) : OpR X (compareOp .LtE) (rOrd leI X.K) := by
  intro pins s σ H x y v u Q I rx ry h
  obtain ⟨a, b, ns, ms, rfl, rfl, ha, hb, q⟩ := h
  cases rx
  cases ry
  obtain ⟨its, r1, p1, _⟩ := I.list ha
  obtain ⟨its2, r2, p2, _⟩ := I.list hb
  have i1 : IntsAre its ns := Vals.ints r1
  have i2 : IntsAre its2 ms := Vals.ints r2
  have e1 : its.toArray.size = ns.length := by rw [List.size_toArray]; exact i1.length
  have e2 : its2.toArray.size = ms.length := by rw [List.size_toArray]; exact i2.length
  have R := SeqAt.RcOp.lists_le (A := X.A) (s := s) (e := fun j => decide (ns.getD j 0 = ms.getD j 0)) (r := fun j => decide (ns.getD j 0 ≤ ms.getD j 0)) p1.isList p2.isList hu (fun j h1 h2 => by
    obtain ⟨t, et⟩ := ints_at i1 j h1
    obtain ⟨t', et'⟩ := ints_at i2 j h2
    rw [et, et', ← beq_dec]
    exact SeqAt.EqAt.int_int _ _ _ _) (fun j h1 h2 _ => by
    obtain ⟨t, et⟩ := ints_at i1 j h1
    obtain ⟨t', et'⟩ := ints_at i2 j h2
    rw [et, et']
    exact fun _ _ _ _ h => PyProof.Rows.le_int h)
  rw [e1, e2, firstLt_lex (fun a b => decide (a ≤ b)) (fun a b => decide (a ≤ b)) (fun m n => by simp) (fun n => by simp) (fun n => by simp)] at R
  exact R X.prog X.w X.xe (EP X pins σ Q) ⟨.bl _, H, I, rfl, q⟩
variable (K : PySem.W.Frag)
theorem kLtL (hu : X.A.units + 64 < cLine) (h : X.K = K := by rfl) : OpR X (compareOp .Lt) (rOrd ltI K) := h ▸ op_ltL (Nat.lt_of_le_of_lt (Nat.le_add_right _ _) hu)
theorem kLeL (hu : X.A.units + 64 < cLine) (h : X.K = K := by rfl) : OpR X (compareOp .LtE) (rOrd leI K) := h ▸ op_leL (Nat.lt_of_le_of_lt (Nat.le_add_right _ _) hu)
theorem rd_ord {f : List Int → List Int → Bool} {K : PySem.W.Frag} {H : Hp} {Q : VK} {p q : Addr} {ns ms : List Int} (h1 : SqL K H p (ns.map V.int)) (h2 : SqL K H q (ms.map V.int)) (k : Q (.bl (f ns ms)) H) : rOrd f K (.ref p) (.ref q) H Q := ⟨p, q, ns, ms, rfl, rfl, h1, h2, k⟩
end
end Tr
/-! Powers, texts repeated, cut and turned. -/
namespace Tr
open PySem PySem.Spec PyProof.Rows L2
def gPow : R2 := rI CPow fun i j => .int (i ^ j.toNat)
theorem op_gPow {X : Cx} : OpR X (binaryOp .Pow) gPow := op_pow
def gRepS : R2 := fun x y H Q => ∃ (z : Str) (n : Int), x = .str z ∧ y = .int n ∧ 1 ≤ n ∧ n ≤ 1000 ∧ z.length ≤ 1000 ∧ ∀ u : Str, (u.length : Int) ≤ z.length * n → Q (.str u) H
theorem fold_size (a : Array Nat) : ∀ (n : Nat) (acc : Array Nat), ((List.replicate n a).foldl (· ++ ·) acc).size = acc.size + n * a.size
  | 0, acc => by simp
  | n + 1, acc => by
    rw [List.replicate_succ, List.foldl_cons, fold_size a n, Array.size_append, Nat.succ_mul]
    omega
theorem op_gRepS {X : Cx} : OpR X (binaryOp .Mult) gRepS := by
  intro pins s σ H x y v u Q I rx ry h
  obtain ⟨z, n, rfl, rfl, h1, h2, h3, q⟩ := h
  obtain ⟨t, rfl⟩ := rx
  obtain ⟨t', rfl⟩ := ry
  have hm : z.length * n.toNat ≤ 1000 * 1000 := Nat.mul_le_mul h3 (by omega)
  have ok : MulOk z n := by
    refine ⟨?_, fun _ _ => ?_, fun _ _ => ?_⟩
    · rw [decide_eq_false (by omega), decide_eq_false (by omega)]
      rfl
    · have hd : (1000 : Int) ≤ (2 ^ 63 - 1) / n := by
        refine Int.le_ediv_of_mul_le (by omega) ?_
        omega
      omega
    · unfold Builtin.Str.tooLong
      rw [sizeLine_eq]
      exact decide_eq_false (by omega)
  refine SB.mul ok fun t2 k => ⟨.str (Txt.mul z n), H, I.tok _, ⟨_, rfl⟩, q _ ?_⟩
  unfold Txt.mul
  rw [if_neg (by omega)]
  have hle : ((z.length * n.toNat : Nat) : Int) = z.length * n := by
    rw [Int.natCast_mul]
    congr 1
    omega
  split
  · have : (z.length : Int) * 1 ≤ z.length * n := Int.mul_le_mul_of_nonneg_left h1 (by omega)
    omega
  · show ((((List.replicate n.toNat z.cps).foldl (· ++ ·) #[]).size : Nat) : Int) ≤ _
    rw [fold_size, ← hle, Nat.mul_comm]
    show ((0 + z.length * n.toNat : Nat) : Int) ≤ _
    omega
/-- z[::-1] -/
def tRevS (te : TE) : TE := fun σ H Q => te σ H fun x H1 => ∃ z, x = .str z ∧ z.length ≤ sizeLine ∧ ∀ u : Str, u.length = z.length → Q (.str u) H1
theorem pe_revS {X : Cx} {e : Expr} {te : TE} {k : Nat} {p1 p2 p3 pos : Pos} (he : PE X e te) : PE X (.Subscript e (.Slice none none (some (.UnaryOp .USub (.Constant (.int 1) k p1) p2)) p3) pos) (tRevS te) := by
  refine ⟨fun pins s σ H Q I h => ?_⟩
  refine Subscript_ (thn (he.run pins s σ H _ I h) fun v s1 ⟨x, H1, I1, r1, q1⟩ => ?_)
  obtain ⟨z, ex, hz, q⟩ := q1
  subst ex
  obtain ⟨t, rfl⟩ := r1
  have hst : PO X (some (.UnaryOp .USub (.Constant (.int 1) k p1) p2)) (tPart (tUn (rU fun i => .int (-i)) (tC (.int 1)))) := po_some (pe_un un_neg pe_int)
  refine wpAny_Slice (thn (po_none.run pins s1 σ H1 (fun o H2 => o = none ∧ H2 = H1) I1 ⟨rfl, rfl⟩) fun vl s2 ⟨l, H2, I2, pl, el, e2⟩ => ?_)
  subst el e2
  refine thn (po_none.run pins s2 σ H2 (fun o H3 => o = none ∧ H3 = H2) I2 ⟨rfl, rfl⟩) fun vu s3 ⟨u, H3, I3, pu, eu, e3⟩ => ?_
  subst eu e3
  refine thn (hst.run pins s3 σ H3 (fun o H4 => o = some (-1) ∧ H4 = H3) I3 ⟨1, rfl, -1, rfl, rfl, rfl⟩) fun vs s4 ⟨o, H4, I4, ps, eo, e4⟩ => ?_
  subst eo e4
  have I5 : Inv X pins σ H4 { s4 with heap := s4.heap.push { cls := .type "slice", data := .fields #[vl, vu, vs] } } := I4.kept (t' := s4.toks) fun b ob q => Heap.get?_push_of_some _ q
  obtain ⟨l', rfl, el⟩ := IsPart.raw pl
  obtain ⟨u', rfl, eu⟩ := IsPart.raw pu
  obtain ⟨st, rfl, est⟩ := IsPart.raw ps
  show wpAny (model X.prog X.w) X.A (subscriptTail e (.Slice none none (some (.UnaryOp .USub (.Constant (.int 1) k p1) p2)) p3) (.str z t) (.ref s4.heap.objs.size)) (EP X pins σ Q) X.xe { s4 with heap := s4.heap.push { cls := .type "slice", data := .fields #[partValue l', partValue u', partValue st] } }
  refine tail_any (ops := [.str z t, .ref s4.heap.objs.size]) (typeIs_str _ _ _) (PySem.F.slot_str_getitem.lookup) ?_ (by with_unfolding_all rfl)
  have hst2 : st.map (·.1) = some (-1) := est
  have hl2 : l'.map (·.1) = none := el
  have hu2 : u'.map (·.1) = none := eu
  refine wpAny_getItem_str_slice (l := l') (u := u') (st := st) ⟨_, Heap.get?_push_size _ rfl, rfl, rfl⟩ (by rw [hst2]; rfl) ?_
  have hlen : (⟨((Builtin.Str.strSliceIndices none none (-1) z.length).filterMap (z.cps[·]?)).toArray⟩ : Str).length = z.length := by
    show (((Builtin.Str.strSliceIndices none none (-1) z.length).filterMap (z.cps[·]?)).toArray).size = _
    rw [PyProof.Rows.picked_rev, PyProof.Rows.filterMap_get]
    · simp
    · intro i hi
      obtain ⟨k, hk, rfl⟩ := List.mem_map.mp hi
      have hk' : k < z.length := List.mem_range.mp hk
      show z.length - 1 - k < z.length
      omega
  unfold sliceMade slicePicked
  rw [hst2, hl2, hu2, if_neg (by simp)]
  exact ⟨by rw [Option.getD_some]; rw [hlen]; exact hz, .str _, H4, I5.tok _, ⟨_, rfl⟩, q _ hlen⟩
section
variable {σ : L2.St} {H : Hp} {Q : VK} {te : TE}
theorem rd_revS (h : te σ H fun x H1 => ∃ z, x = .str z ∧ z.length ≤ sizeLine ∧ ∀ u : Str, u.length = z.length → Q (.str u) H1) : tRevS te σ H Q := h
theorem rd_repS {z : Str} {n : Int} (h1 : 1 ≤ n) (h2 : n ≤ 1000) (h3 : z.length ≤ 1000) (k : ∀ u : Str, (u.length : Int) ≤ z.length * n → Q (.str u) H) : gRepS (.str z) (.int n) H Q := ⟨z, n, rfl, rfl, h1, h2, h3, k⟩
theorem rd_slS {z : Str} {lo hi : Option Int} (hz : z.length ≤ sizeLine) (k : ∀ u : Str, u.length ≤ z.length → Q (.str u) H) : rSlS (.str z) lo hi H Q := ⟨z, rfl, hz, k _ (cutS_length z lo hi)⟩
theorem rd_pow9 (k : Q (.int 1000000000) H) : gPow (.int 10) (.int 9) H Q := ⟨10, 9, rfl, rfl, ⟨by decide, by decide, by decide⟩, k⟩
theorem rd_ixStr {K : PySem.W.Frag} {z : Str} {n : Int} (hz : z.length ≤ sizeLine) (h0 : 0 ≤ n) (h1 : n < z.length) (k : ∀ c : Nat, Q (.str ⟨#[c]⟩) H) : rIx K (.str z) (.int n) H Q := by
  obtain ⟨j, rfl⟩ : ∃ j : Nat, n = j := ⟨n.toNat, by omega⟩
  have hj : j < z.cps.toList.length := by
    have : (j : Int) < (z.cps.size : Nat) := h1
    rw [Array.length_toList]
    omega
  exact rd_ixS hz (atI_nat (List.getElem?_eq_getElem hj)) (k _)
theorem count_S (l : List Nat) (c : Nat) : Txt.count ⟨l.toArray⟩ ⟨#[c]⟩ = (l.count c : Nat) := by
  rw [PyProof.Rows.count_cnt]
  show PyProof.Rows.cnt c l.toArray.toList = _
  rw [List.toList_toArray]
  induction l with
  | nil => rfl
  | cons n l ih =>
    rw [PyProof.Rows.cnt_cons, ih, List.count_cons]
    by_cases h : n = c
    · subst h
      simp
      omega
    · simp [h]
end
end Tr
/-! What the law's helpers read off the script. -/
namespace Tr
def cell (ns : List Int) (k : Nat) : Int := ns.getD k 0
def rowCell (way c : Int) : Int :=
  if way = 0 then 1 - c % 3 else if way = 1 then [1, 1, 1, 0, -1, -2].getD (c % 6).toNat 0
  else if way = 2 then [1, 1, 1, 1, 1, 1 - c / 8 % 62, 0, 1].getD (c % 8).toNat 0 else 1 - c % 62
theorem rowCell_le (way c : Int) : rowCell way c ≤ 1 ∧ -60 ≤ rowCell way c := by
  unfold rowCell
  split
  · omega
  · split
    · have h : (c % 6).toNat < 6 := by omega
      generalize (c % 6).toNat = j at h
      match j, h with
      | 0, _ => decide
      | 1, _ => decide
      | 2, _ => decide
      | 3, _ => decide
      | 4, _ => decide
      | 5, _ => decide
    · split
      · have h : (c % 8).toNat < 8 := by omega
        generalize (c % 8).toNat = j at h
        have e : -60 ≤ 1 - c / 8 % 62 ∧ 1 - c / 8 % 62 ≤ 1 := by omega
        generalize 1 - c / 8 % 62 = z at e
        match j, h with
        | 0, _ => exact ⟨by show (1 : Int) ≤ 1; decide, by show (-60 : Int) ≤ 1; decide⟩
        | 1, _ => exact ⟨by show (1 : Int) ≤ 1; decide, by show (-60 : Int) ≤ 1; decide⟩
        | 2, _ => exact ⟨by show (1 : Int) ≤ 1; decide, by show (-60 : Int) ≤ 1; decide⟩
        | 3, _ => exact ⟨by show (1 : Int) ≤ 1; decide, by show (-60 : Int) ≤ 1; decide⟩
        | 4, _ => exact ⟨by show (1 : Int) ≤ 1; decide, by show (-60 : Int) ≤ 1; decide⟩
        | 5, _ => exact ⟨e.2, e.1⟩
        | 6, _ => exact ⟨by show (0 : Int) ≤ 1; decide, by show (-60 : Int) ≤ 0; decide⟩
        | 7, _ => exact ⟨by show (1 : Int) ≤ 1; decide, by show (-60 : Int) ≤ 1; decide⟩
      · omega
def rowBy (ns : List Int) (first count : Nat) (way : Int) : List Int := (List.range count).map fun k => rowCell way (cell ns (first + k))
theorem rowBy_len (ns : List Int) (first count : Nat) (way : Int) : (rowBy ns first count way).length = count := by
  unfold rowBy
  rw [List.length_map, List.length_range]
theorem rowBy_mem {ns : List Int} {first count : Nat} {way n : Int} (h : n ∈ rowBy ns first count way) : n ≤ 1 ∧ -60 ≤ n := by
  unfold rowBy at h
  obtain ⟨k, _, rfl⟩ := List.mem_map.mp h
  exact rowCell_le way _
def nodesOf (ns : List Int) : Nat := if cell ns 0 / 12 % 4 = 1 then 1 + (cell ns 0 / 48 % 60).toNat else 1 + (cell ns 0 % 12).toNat
theorem nodesOf_le (ns : List Int) : 1 ≤ nodesOf ns ∧ nodesOf ns ≤ 60 := by
  unfold nodesOf
  split <;> omega
def isRow (ns : List Int) : Prop := 1 ≤ ns.length ∧ ns.length ≤ 60 ∧ ∀ n ∈ ns, n ≤ 1 ∧ -60 ≤ n
instance (ns : List Int) : Decidable (isRow ns) := by
  unfold isRow
  infer_instance
theorem rowBy_row {ns : List Int} {first count : Nat} {way : Int} (h : 1 ≤ count ∧ count ≤ 60) : isRow (rowBy ns first count way) := by
  refine ⟨?_, ?_, fun n hn => rowBy_mem hn⟩
  · rw [rowBy_len]
    exact h.1
  · rw [rowBy_len]
    exact h.2
/-- the sums of the first, the first two .. -/
def sums (ns : List Int) : List Int := (List.range ns.length).map fun k => (ns.take (k + 1)).sum
theorem sums_len (ns : List Int) : (sums ns).length = ns.length := by
  unfold sums
  rw [List.length_map, List.length_range]
/-- turned by k -/
def turn (ns : List Int) (k : Nat) : List Int := ns.drop k ++ ns.take k
theorem turn_len {ns : List Int} {k : Nat} : (turn ns k).length = ns.length := by
  unfold turn
  rw [List.length_append, List.length_drop, List.length_take]
  omega
theorem turn_mem {ns : List Int} {k : Nat} {n : Int} (h : n ∈ turn ns k) : n ∈ ns := by
  unfold turn at h
  rcases List.mem_append.mp h with h | h
  · exact List.mem_of_mem_drop h
  · exact List.mem_of_mem_take h
end Tr
namespace Tr
/-- all beginnings are above nought -/
def goodB (ns : List Int) : Bool := (sums ns).all fun t => decide (1 ≤ t)
theorem goodB_iff {ns : List Int} : goodB ns = true ↔ ∀ k, k < ns.length → 1 ≤ (ns.take (k + 1)).sum := by
  unfold goodB sums
  rw [List.all_eq_true]
  constructor
  · intro h k hk
    exact of_decide_eq_true (h _ (List.mem_map.mpr ⟨k, List.mem_range.mpr hk, rfl⟩))
  · intro h t ht
    obtain ⟨k, hk, rfl⟩ := List.mem_map.mp ht
    exact decide_eq_true (h k (List.mem_range.mp hk))
theorem goodB_no {ns : List Int} {k : Nat} (hk : k < ns.length) (h : (ns.take (k + 1)).sum < 1) : goodB ns = false := by
  cases e : goodB ns with
  | false => rfl
  | true =>
    have := goodB_iff.mp e k hk
    omega
theorem sums_at {ns : List Int} {i : Nat} {t : Int} (h : (sums ns)[i]? = some t) : i < ns.length ∧ t = (ns.take (i + 1)).sum := by
  have hi : i < ns.length := by
    have := (List.getElem?_eq_some_iff.mp h).1
    rw [sums_len] at this
    exact this
  refine ⟨hi, ?_⟩
  unfold sums at h
  rw [List.getElem?_map, List.getElem?_range hi] at h
  exact (Option.some.inj h).symm
end Tr
namespace Tr
/-- the numbers by which a row is turned into a good one -/
def startsOf (ns : List Int) : List Nat := (List.range ns.length).filter fun k => goodB (turn ns k)
theorem turn_row {ns : List Int} {j : Nat} (h : isRow ns) : isRow (turn ns j) := by
  refine ⟨?_, ?_, fun n hn => h.2.2 n (turn_mem hn)⟩
  · rw [turn_len]
    exact h.1
  · rw [turn_len]
    exact h.2.1
end Tr
/-! Forests: b are the boughs of the first tree, r the other trees. -/
namespace Tr
inductive Gr where
  | nil : Gr
  | cons (b r : Gr) : Gr
namespace Gr
def len : Gr → Nat
  | nil => 0
  | cons _ r => r.len + 1
def size : Gr → Nat
  | nil => 0
  | cons b r => b.size + r.size + 1
def depth : Gr → Nat
  | nil => 0
  | cons b r => max (b.depth + 1) r.depth
def word : Gr → List Int
  | nil => []
  | cons b r => (b.len : Int) :: (b.word ++ r.word)
def app : Gr → Gr → Gr
  | nil, g => g
  | cons b r, g => cons b (r.app g)
def rev : Gr → Gr
  | nil => nil
  | cons b r => r.rev.app (cons b nil)
def take : Nat → Gr → Gr
  | 0, _ => nil
  | _ + 1, nil => nil
  | n + 1, cons b r => cons b (take n r)
def drop : Nat → Gr → Gr
  | 0, g => g
  | _ + 1, nil => nil
  | n + 1, cons _ r => drop n r
theorem depth_le : ∀ g : Gr, g.depth ≤ g.size
  | nil => Nat.le_refl 0
  | cons b r => by
    have := depth_le b
    have := depth_le r
    simp only [depth, size]
    omega
theorem word_len : ∀ g : Gr, g.word.length = g.size
  | nil => rfl
  | cons b r => by
    simp only [word, size, List.length_cons, List.length_append, word_len b, word_len r]
theorem len_le : ∀ g : Gr, g.len ≤ g.size
  | nil => Nat.le_refl 0
  | cons b r => by
    have := len_le r
    simp only [len, size]
    omega
theorem app_nil : ∀ g : Gr, g.app nil = g
  | nil => rfl
  | cons b r => by rw [app, app_nil r]
theorem app_assoc : ∀ a b c : Gr, (a.app b).app c = a.app (b.app c)
  | nil, _, _ => rfl
  | cons x r, b, c => by simp only [app, app_assoc r b c]
theorem app_word : ∀ a b : Gr, (a.app b).word = a.word ++ b.word
  | nil, _ => rfl
  | cons x r, b => by simp only [app, word, app_word r b, List.cons_append, List.append_assoc]
theorem app_size : ∀ a b : Gr, (a.app b).size = a.size + b.size
  | nil, b => by simp [app, size]
  | cons x r, b => by
    simp only [app, size, app_size r b]
    omega
theorem app_len : ∀ a b : Gr, (a.app b).len = a.len + b.len
  | nil, b => by simp [app, len]
  | cons x r, b => by
    simp only [app, len, app_len r b]
    omega
theorem rev_size : ∀ g : Gr, g.rev.size = g.size
  | nil => rfl
  | cons b r => by
    simp only [rev, app_size, size, rev_size r]
    omega
theorem take_drop : ∀ (n : Nat) (g : Gr), (take n g).app (drop n g) = g
  | 0, _ => rfl
  | _ + 1, nil => rfl
  | n + 1, cons b r => by simp only [take, drop, app, take_drop n r]
theorem take_len : ∀ (n : Nat) (g : Gr), n ≤ g.len → (take n g).len = n
  | 0, _, _ => rfl
  | n + 1, nil, h => by simp [len] at h
  | n + 1, cons b r, h => by
    simp only [len] at h
    simp only [take, len, take_len n r (by omega)]
theorem drop_len : ∀ (n : Nat) (g : Gr), (drop n g).len = g.len - n
  | 0, _ => rfl
  | n + 1, nil => by simp [drop, len]
  | n + 1, cons b r => by
    simp only [drop, len, drop_len n r]
    omega
theorem take_app : ∀ a b : Gr, take a.len (a.app b) = a
  | nil, b => by cases b <;> rfl
  | cons x r, b => by simp only [len, app, take, take_app r b]
theorem drop_app : ∀ a b : Gr, drop a.len (a.app b) = b
  | nil, b => by cases b <;> rfl
  | cons x r, b => by simp only [len, app, drop, drop_app r b]
/-- the word's sum, and its numbers -/
theorem word_nn : ∀ (g : Gr) (n : Int), n ∈ g.word → 0 ≤ n
  | nil, _, h => by simp [word] at h
  | cons b r, n, h => by
    simp only [word, List.mem_cons, List.mem_append] at h
    rcases h with h | h | h
    · omega
    · exact word_nn b n h
    · exact word_nn r n h
/-! ### a word read from the right -/
def par : List Int → Gr
  | [] => nil
  | n :: w => cons (take n.toNat (par w)) (drop n.toNat (par w))
def okW : List Int → Prop
  | [] => True
  | n :: w => 0 ≤ n ∧ n ≤ (par w).len ∧ okW w
theorem par_app : ∀ (g : Gr) (w : List Int), par (g.word ++ w) = g.app (par w)
  | nil, _ => rfl
  | cons b r, w => by
    have e : par (b.word ++ (r.word ++ w)) = b.app (r.app (par w)) := by rw [par_app b, par_app r]
    simp only [word, List.cons_append, List.append_assoc, par, e, Int.toNat_natCast, take_app, drop_app, app]
theorem par_word (g : Gr) : par g.word = g := by
  have := par_app g []
  rw [List.append_nil, par, app_nil] at this
  exact this
theorem okW_app : ∀ (g : Gr) (w : List Int), okW w → okW (g.word ++ w)
  | nil, _, h => h
  | cons b r, w, h => by
    have h1 := okW_app b (r.word ++ w) (okW_app r w h)
    simp only [word, List.cons_append, List.append_assoc]
    refine ⟨by omega, ?_, h1⟩
    rw [par_app, app_len]
    omega
theorem okW_word (g : Gr) : okW g.word := by
  have := okW_app g [] trivial
  rwa [List.append_nil] at this
theorem word_par : ∀ w : List Int, okW w → (par w).word = w
  | [], _ => rfl
  | n :: w, h => by
    obtain ⟨h1, h2, h3⟩ := h
    have e := word_par w h3
    simp only [par, word]
    rw [take_len _ _ (by omega), ← app_word, take_drop, e]
    congr 1
    omega
theorem len_par : ∀ w : List Int, okW w → ((par w).len : Int) = (w.map fun n => 1 - n).sum
  | [], _ => rfl
  | n :: w, h => by
    obtain ⟨h1, h2, h3⟩ := h
    have e := len_par w h3
    simp only [par, len, List.map_cons, List.sum_cons, drop_len]
    rw [← e]
    omega
theorem size_par {w : List Int} (h : okW w) : (par w).size = w.length := by rw [← word_len, word_par w h]
theorem okW_tail {n : Int} {w : List Int} (h : okW (n :: w)) : okW w := h.2.2
theorem okW_drop : ∀ (k : Nat) {w : List Int}, okW w → okW (w.drop k)
  | 0, _, h => h
  | k + 1, [], _ => by simp [okW]
  | k + 1, n :: w, h => okW_drop k h.2.2
end Gr
/-- the test that the program makes -/
def rowOf (w : List Int) : List Int := w.reverse.map fun n => 1 - n
def isWB (w : List Int) : Bool := w.all (fun n => decide (0 ≤ n)) && (decide (0 < w.length) && goodB (rowOf w))
theorem goodB_snoc {l : List Int} {x : Int} : goodB (l ++ [x]) = true ↔ goodB l = true ∧ 1 ≤ l.sum + x := by
  rw [goodB_iff, goodB_iff]
  constructor
  · intro h
    refine ⟨fun k hk => ?_, ?_⟩
    · have := h k (by simp; omega)
      rwa [List.take_append_of_le_length (by omega)] at this
    · have := h l.length (by simp)
      rw [List.take_of_length_le (by simp), List.sum_append] at this
      simpa using this
  · rintro ⟨h1, h2⟩ k hk
    by_cases e : k < l.length
    · rw [List.take_append_of_le_length (by omega)]
      exact h1 k e
    · rw [List.take_of_length_le (by simp; omega), List.sum_append]
      simpa using h2
theorem rowOf_cons {n : Int} {w : List Int} : rowOf (n :: w) = rowOf w ++ [1 - n] := by simp [rowOf]
theorem rowOf_sum (w : List Int) : (rowOf w).sum = (w.map fun n => 1 - n).sum := by
  induction w with
  | nil => rfl
  | cons n w ih =>
    rw [rowOf_cons, List.sum_append, ih, List.map_cons, List.sum_cons]
    simp only [List.sum_cons, List.sum_nil]
    omega
theorem okW_iff : ∀ w : List Int, Gr.okW w ↔ (∀ n ∈ w, 0 ≤ n) ∧ goodB (rowOf w) = true
  | [] => by
    refine ⟨fun _ => ⟨by simp, ?_⟩, fun _ => trivial⟩
    rw [goodB_iff]
    intro k hk
    simp [rowOf] at hk
  | n :: w => by
    rw [rowOf_cons, goodB_snoc]
    have ih := okW_iff w
    constructor
    · rintro ⟨h1, h2, h3⟩
      obtain ⟨i1, i2⟩ := ih.mp h3
      have e := Gr.len_par w h3
      rw [← rowOf_sum] at e
      refine ⟨?_, i2, by omega⟩
      intro m hm
      rcases List.mem_cons.mp hm with rfl | hm
      · exact h1
      · exact i1 m hm
    · rintro ⟨h1, h2, h3⟩
      have hw := ih.mpr ⟨fun m hm => h1 m (List.mem_cons_of_mem _ hm), h2⟩
      have e := Gr.len_par w hw
      rw [← rowOf_sum] at e
      exact ⟨h1 n (List.mem_cons_self ..), by omega, hw⟩
theorem isWB_iff {w : List Int} : isWB w = true ↔ 0 < w.length ∧ Gr.okW w := by
  unfold isWB
  rw [okW_iff]
  simp only [Bool.and_eq_true, List.all_eq_true, decide_eq_true_eq]
  constructor
  · rintro ⟨a, b, c⟩
    exact ⟨b, a, c⟩
  · rintro ⟨b, a, c⟩
    exact ⟨a, b, c⟩
theorem isWB_word {g : Gr} (h : 0 < g.size) : isWB g.word = true := isWB_iff.mpr ⟨by rw [Gr.word_len]; exact h, Gr.okW_word g⟩
end Tr
/-! Forests on the heap: tuples of tuples. -/
namespace Tr
open PySem PySem.Spec PyProof.Rows L2
def GAt (H : Hp) : Gr → List V → Prop
  | .nil, xs => xs = []
  | .cons b r, xs => ∃ a ys zs, xs = .ref a :: zs ∧ H a = some (.tup ys) ∧ GAt H b ys ∧ GAt H r zs
theorem GAt.mono {H H' : Hp} (t : Ts H H') : ∀ {g : Gr} {xs : List V}, GAt H g xs → GAt H' g xs
  | .nil, _, h => h
  | .cons b r, _, ⟨a, ys, zs, e, h, h1, h2⟩ => ⟨a, ys, zs, e, t _ _ h, h1.mono t, h2.mono t⟩
theorem GAt.len {H : Hp} : ∀ {g : Gr} {xs : List V}, GAt H g xs → xs.length = g.len
  | .nil, _, h => by
    cases h
    rfl
  | .cons b r, _, ⟨a, ys, zs, e, h, h1, h2⟩ => by rw [e, List.length_cons, h2.len, Gr.len]
theorem GAt.app {H : Hp} : ∀ {g k : Gr} {xs ys : List V}, GAt H g xs → GAt H k ys → GAt H (g.app k) (xs ++ ys)
  | .nil, _, _, _, h, hk => by
    cases h
    exact hk
  | .cons b r, _, _, _, ⟨a, us, zs, e, h, h1, h2⟩, hk => ⟨a, us, zs ++ _, by rw [e]; rfl, h, h1, h2.app hk⟩
theorem GAt.one {H : Hp} {a : Addr} {b : Gr} {ys : List V} (h : H a = some (.tup ys)) (hb : GAt H b ys) : GAt H (.cons b .nil) [.ref a] := ⟨a, ys, [], rfl, h, hb, rfl⟩
theorem GAt.rev {H : Hp} : ∀ {g : Gr} {xs : List V}, GAt H g xs → GAt H g.rev xs.reverse
  | .nil, _, h => by
    cases h
    rfl
  | .cons b r, _, ⟨a, ys, zs, e, h, h1, h2⟩ => by
    rw [e, List.reverse_cons]
    exact h2.rev.app (GAt.one h h1)
theorem GAt.take {H : Hp} : ∀ (n : Nat) {g : Gr} {xs : List V}, GAt H g xs → GAt H (g.take n) (xs.take n)
  | 0, _, _, _ => rfl
  | _ + 1, .nil, _, h => by
    cases h
    rfl
  | n + 1, .cons b r, _, ⟨a, ys, zs, e, h, h1, h2⟩ => ⟨a, ys, zs.take n, by rw [e]; rfl, h, h1, h2.take n⟩
theorem GAt.drop {H : Hp} : ∀ (n : Nat) {g : Gr} {xs : List V}, GAt H g xs → GAt H (g.drop n) (xs.drop n)
  | 0, _, _, h => h
  | _ + 1, .nil, _, h => by
    cases h
    rfl
  | n + 1, .cons b r, _, ⟨a, ys, zs, e, h, h1, h2⟩ => by
    rw [e]
    exact h2.drop n
/-! ### as data -/
def Gr.data : Gr → List PyData
  | .nil => []
  | .cons b r => .tuple b.data :: r.data
theorem GAt.dp {K : PySem.W.Frag} {H : Hp} : ∀ {g : Gr} {xs : List V}, GAt H g xs → DpAll K H xs g.data
  | .nil, _, h => by
    cases h
    exact .nil
  | .cons b r, _, ⟨a, ys, zs, e, h, h1, h2⟩ => by
    rw [e]
    exact .cons (.tup (SqT.of h) h1.dp) h2.dp
theorem depth_gr : ∀ g : Gr, PyData.depthAll g.data = g.depth
  | .nil => by simp only [Gr.data, PyData.depthAll, Gr.depth]
  | .cons b r => by simp only [Gr.data, PyData.depthAll, PyData.depth, Gr.depth, depth_gr b, depth_gr r]
theorem canLay_gr : ∀ g : Gr, PyData.canLayAll0 g.data = true
  | .nil => by simp only [Gr.data, PyData.canLayAll0]
  | .cons b r => by simp only [Gr.data, PyData.canLayAll0, PyData.canLay0, canLay_gr b, canLay_gr r, Bool.and_self]
theorem shaped_gr {g : Gr} (h : g.size ≤ 62) : SeqAt.shaped (.list g.data) = true := by
  have := g.depth_le
  unfold SeqAt.shaped
  simp only [PyData.canLay0, canLay_gr, PyData.depth, depth_gr, Bool.true_and]
  exact decide_eq_true (by omega)
theorem eqv_gr : ∀ g : Gr, PyData.eqvAll g.data g.data = true
  | .nil => by simp only [Gr.data, PyData.eqvAll]
  | .cons b r => by simp only [Gr.data, PyData.eqvAll, PyData.eqv, eqv_gr b, eqv_gr r, Bool.and_self]
theorem eqv_nil : ∀ g : Gr, PyData.eqvAll g.data [] = decide (g.len = 0)
  | .nil => by simp [Gr.data, PyData.eqvAll, Gr.len]
  | .cons b r => by simp [Gr.data, PyData.eqvAll, Gr.len]
theorem eqvAll_self_ints (ns : List Int) : PyData.eqvAll (ns.map PyData.int) (ns.map PyData.int) = true := by
  rw [eqvAll_ints]
  simp
section
variable {K : PySem.W.Frag} {H : Hp} {Q : VK} {p q : Addr} {g : Gr} {xs ys : List V}
theorem dp_gr (h : SqL K H p xs) (hg : GAt H g xs) : Dp K H (.ref p) (.list g.data) := .lst h hg.dp
/-- two lists of the same forest -/
theorem rd_eqG (h1 : SqL K H p xs) (g1 : GAt H g xs) (h2 : SqL K H q ys) (g2 : GAt H g ys) (hz : g.size ≤ 62) (k : Q (.bl true) H) : gEq K (.ref p) (.ref q) H Q :=
  rd_eqD (dp_gr h1 g1) (dp_gr h2 g2) (shaped_gr hz) (shaped_gr hz) (by rw [PyData.eqv, eqv_gr]; exact k)
theorem rd_neG (h1 : SqL K H p xs) (g1 : GAt H g xs) (h2 : SqL K H q ys) (g2 : GAt H g ys) (hz : g.size ≤ 62) (k : Q (.bl false) H) : gNe K (.ref p) (.ref q) H Q :=
  rd_neD (dp_gr h1 g1) (dp_gr h2 g2) (shaped_gr hz) (shaped_gr hz) (by rw [PyData.eqv, eqv_gr]; exact k)
/-- a list of trees and an empty one -/
theorem rd_neNil (h1 : SqL K H p xs) (g1 : GAt H g xs) (h2 : SqL K H q []) (hz : g.size ≤ 62) (k : Q (.bl (!decide (g.len = 0))) H) : gNe K (.ref p) (.ref q) H Q :=
  rd_neD (dp_gr h1 g1) (.lst h2 .nil) (shaped_gr hz) (shaped_gr (g := .nil) (Nat.zero_le _)) (by rw [PyData.eqv, eqv_nil]; exact k)
/-- lists of data -/
theorem shaped_two {d e : PyData} (h1 : SeqAt.shaped d = true) (h2 : SeqAt.shaped e = true) (d1 : d.depth ≤ 63) (e1 : e.depth ≤ 63) : SeqAt.shaped (.list [d, e]) = true := by
  have a := SeqAt.canLay_of_shaped h1
  have b := SeqAt.canLay_of_shaped h2
  unfold SeqAt.shaped
  simp only [PyData.canLay0, PyData.canLayAll0, PyData.depth, PyData.depthAll, a, b, Bool.true_and, Bool.and_true]
  exact decide_eq_true (by omega)
theorem eqv_two {d e : PyData} (h1 : PyData.eqv d d = true) (h2 : PyData.eqv e e = true) : PyData.eqv (.list [d, e]) (.list [d, e]) = true := by simp only [PyData.eqv, PyData.eqvAll, h1, h2, Bool.and_self]
end
/-! ### what a list of numbers picks -/
def ofl (T : Nat → Gr) : List Nat → Gr
  | [] => .nil
  | j :: js => .cons (T j) (ofl T js)
theorem ofl_size (T : Nat → Gr) : ∀ js : List Nat, (ofl T js).size = (js.map fun j => (T j).size + 1).sum
  | [] => rfl
  | j :: js => by
    simp only [ofl, Gr.size, List.map_cons, List.sum_cons, ofl_size T js]
    omega
theorem ofl_len (T : Nat → Gr) : ∀ js : List Nat, (ofl T js).len = js.length
  | [] => rfl
  | j :: js => by simp only [ofl, Gr.len, ofl_len T js, List.length_cons]
theorem ofl_congr {T U : Nat → Gr} : ∀ {js : List Nat}, (∀ j ∈ js, T j = U j) → ofl T js = ofl U js
  | [], _ => rfl
  | j :: js, h => by simp only [ofl, h j (List.mem_cons_self ..), ofl_congr fun i hi => h i (List.mem_cons_of_mem _ hi)]
theorem GAt.ofl {H : Hp} {T : Nat → Gr} {v : Nat → V} : ∀ {js : List Nat}, (∀ j ∈ js, GAt H (.cons (T j) .nil) [v j]) → GAt H (ofl T js) (js.map v)
  | [], _ => rfl
  | j :: js, h => by
    obtain ⟨a, ys, zs, e, h1, h2, h3⟩ := h j (List.mem_cons_self ..)
    have e2 : v j = .ref a := (List.cons.inj e).1
    exact ⟨a, ys, js.map v, by rw [List.map_cons, e2], h1, h2, GAt.ofl fun i hi => h i (List.mem_cons_of_mem _ hi)⟩
/-- each node is counted once -/
theorem count_once {n : Nat} (P : Nat → Option Nat) (S : Nat → Nat) : ∀ (l : List Nat), (∀ c ∈ l, ∀ p, P c = some p → p < n) →
    (l.map S).sum = ((l.filter fun c => (P c).isNone).map S).sum + ((List.range n).map fun p => ((l.filter fun c => P c == some p).map S).sum).sum
  | [], _ => by
    simp only [List.map_nil, List.filter_nil, List.sum_nil]
    have : ∀ m : Nat, ((List.range m).map fun _ => 0).sum = 0 := fun m => by
      induction m with
      | zero => rfl
      | succ m ih => rw [List.range_succ, List.map_append, List.sum_append, ih]; rfl
    rw [this, Nat.add_zero]
  | c :: l, h => by
    have ih := count_once P S l fun d hd => h d (List.mem_cons_of_mem _ hd)
    have add : ∀ (m : Nat) (f g : Nat → Nat), ((List.range m).map fun p => f p + g p).sum = ((List.range m).map f).sum + ((List.range m).map g).sum := fun m f g => by
      induction m with
      | zero => rfl
      | succ m ih =>
        rw [List.range_succ]
        simp only [List.map_append, List.sum_append, ih, List.map_cons, List.map_nil, List.sum_cons, List.sum_nil]
        omega
    have one : ∀ (m q x : Nat), ((List.range m).map fun p => if q = p then x else 0).sum = if q < m then x else 0 := fun m q x => by
      induction m with
      | zero => simp
      | succ m ih =>
        rw [List.range_succ]
        simp only [List.map_append, List.sum_append, ih, List.map_cons, List.map_nil, List.sum_cons, List.sum_nil]
        by_cases h1 : q < m
        · rw [if_pos h1, if_neg (by omega), if_pos (by omega)]
          omega
        · by_cases h2 : q = m
          · rw [if_neg h1, if_pos h2, if_pos (by omega)]
            omega
          · rw [if_neg h1, if_neg h2, if_neg (by omega)]
            omega
    cases e : P c with
    | none =>
      have e1 : ∀ p, ((c :: l).filter fun c => P c == some p) = l.filter fun c => P c == some p := fun p => by simp [e]
      simp only [e1]
      rw [List.filter_cons_of_pos (by simp [e])]
      simp only [List.map_cons, List.sum_cons, ih]
      omega
    | some q =>
      have hq := h c (List.mem_cons_self ..) q e
      have e1 : ∀ p, (((c :: l).filter fun c => P c == some p).map S).sum = (if q = p then S c else 0) + ((l.filter fun c => P c == some p).map S).sum := fun p => by
        by_cases hp : q = p
        · rw [List.filter_cons_of_pos (by simp [e, hp]), if_pos hp]
          rfl
        · rw [List.filter_cons_of_neg (by simp [e, hp]), if_neg hp]
          omega
      simp only [e1]
      rw [add, one, if_pos hq, List.filter_cons_of_neg (by simp [e])]
      simp only [List.map_cons, List.sum_cons, ih]
      omega
/-- the whole forest's size -/
theorem grove_size {n : Nat} (P : Nat → Option Nat) (T : Nat → Gr) (hP : ∀ c, c < n → ∀ p, P c = some p → p < n) (hT : ∀ j, j < n → T j = Tr.ofl T ((List.range n).filter fun c => P c == some j)) :
    (Tr.ofl T ((List.range n).filter fun c => (P c).isNone)).size = n := by
  have h := count_once (n := n) P (fun j => (T j).size + 1) (List.range n) fun c hc => hP c (List.mem_range.mp hc)
  rw [ofl_size]
  have e : ((List.range n).map fun j => (T j).size + 1) = (List.range n).map fun p => (((List.range n).filter fun c => P c == some p).map fun j => (T j).size + 1).sum + 1 := by
    apply List.map_congr_left
    intro j hj
    have e1 := hT j (List.mem_range.mp hj)
    have e2 := congrArg Gr.size e1
    rw [ofl_size] at e2
    omega
  have inc : ∀ (m : Nat) (f : Nat → Nat), ((List.range m).map fun p => f p + 1).sum = ((List.range m).map f).sum + m := fun m f => by
    induction m with
    | zero => rfl
    | succ m ih =>
      rw [List.range_succ]
      simp only [List.map_append, List.sum_append, ih, List.map_cons, List.map_nil, List.sum_cons, List.sum_nil]
      omega
  rw [e, inc] at h
  omega
end Tr
namespace Tr
open PySem PySem.Spec PyProof.Rows L2
/-- a new list of trees -/
def newG (H : Hp) (Q : VK) (g : Gr) : Prop := ∀ p xs H', Led H H' [(p, .lst xs)] → GAt H' g xs → Q (.ref p) H'
end Tr
namespace Tr
open PySem PySem.Spec PyProof.Rows L2
/-! ### a row of lists -/
def rows (n : Nat) (A : Nat → Addr) (B : Nat → List Nat) : List (Addr × HO) := (List.range n).map fun i => (A i, .lst ((B i).map fun (j : Nat) => V.int j))
theorem rows_at {n i : Nat} {A : Nat → Addr} {B : Nat → List Nat} (h : i < n) : (rows n A B)[i]? = some (A i, .lst ((B i).map fun (j : Nat) => V.int j)) := by
  unfold rows
  rw [List.getElem?_map, List.getElem?_range h]
  rfl
theorem rows_set {n i k : Nat} {A : Nat → Addr} {B C : Nat → List Nat} (h : i < n) (hi : C i = B i ++ [k]) (ho : ∀ j, j ≠ i → C j = B j) : (rows n A B).set i (A i, .lst ((B i).map (fun (j : Nat) => V.int j) ++ [.int k])) = rows n A C := by
  apply List.ext_getElem?
  intro j
  rw [List.getElem?_set]
  by_cases hj : i = j
  · subst hj
    rw [if_pos rfl, rows_at h, hi, if_pos (by unfold rows; simpa using h), List.map_append]
    rfl
  · rw [if_neg hj]
    by_cases hn : j < n
    · rw [rows_at hn, rows_at hn, ho j (Ne.symm hj)]
    · unfold rows
      rw [List.getElem?_eq_none (by simpa using hn), List.getElem?_eq_none (by simpa using hn)]
theorem rows_congr {n : Nat} {A : Nat → Addr} {B C : Nat → List Nat} (h : ∀ j, j < n → B j = C j) : rows n A B = rows n A C := by
  unfold rows
  apply List.map_congr_left
  intro j hj
  rw [h j (List.mem_range.mp hj)]
/-! ### whose bough a node is -/
def parOf (ns : List Int) (first : Nat) (roots : Int) (k : Nat) : Option Nat :=
  if k = 0 ∨ cell ns (first + k) % roots = 1 then none else if roots = 99 ∧ cell ns (first + k) % 16 > 0 then some 0 else if cell ns (first + k) / 64 % 3 = 0 then some (k - 1) else some (cell ns (first + k) / 192 % k).toNat
theorem parOf_lt {ns : List Int} {first : Nat} {roots : Int} {k p : Nat} (h : parOf ns first roots k = some p) : p < k := by
  unfold parOf at h
  split at h
  · cases h
  · rename_i h0
    have hk : k ≠ 0 := fun z => h0 (.inl z)
    split at h
    · cases h
      omega
    · split at h
      · cases h
        omega
      · cases h
        have h1 := Int.emod_nonneg (cell ns (first + k) / 192) (b := k) (by omega)
        have h2 := Int.emod_lt_of_pos (cell ns (first + k) / 192) (b := k) (by omega)
        omega
def chl (P : Nat → Option Nat) (m p : Nat) : List Nat := (List.range m).filter fun c => P c == some p
def tops (P : Nat → Option Nat) (m : Nat) : List Nat := (List.range m).filter fun c => (P c).isNone
theorem chl_same {P : Nat → Option Nat} {m p : Nat} (h : P m = some p) : chl P (m + 1) p = chl P m p ++ [m] := by
  unfold chl
  rw [List.range_succ, List.filter_append]
  simp [h]
theorem chl_other {P : Nat → Option Nat} {m p : Nat} (h : P m ≠ some p) : chl P (m + 1) p = chl P m p := by
  unfold chl
  rw [List.range_succ, List.filter_append]
  simp [h]
theorem tops_same {P : Nat → Option Nat} {m : Nat} (h : P m = none) : tops P (m + 1) = tops P m ++ [m] := by
  unfold tops
  rw [List.range_succ, List.filter_append]
  simp [h]
theorem tops_other {P : Nat → Option Nat} {m p : Nat} (h : P m = some p) : tops P (m + 1) = tops P m := by
  unfold tops
  rw [List.range_succ, List.filter_append]
  simp [h]
theorem chl_len (P : Nat → Option Nat) (m p : Nat) : (chl P m p).length ≤ m := Nat.le_trans (List.length_filter_le _ _) (by rw [List.length_range]; exact Nat.le_refl m)
theorem tops_len (P : Nat → Option Nat) (m : Nat) : (tops P m).length ≤ m := Nat.le_trans (List.length_filter_le _ _) (by rw [List.length_range]; exact Nat.le_refl m)
theorem chl_mem {P : Nat → Option Nat} {m p c : Nat} (h : c ∈ chl P m p) : c < m ∧ P c = some p := by
  unfold chl at h
  rw [List.mem_filter] at h
  exact ⟨List.mem_range.mp h.1, by simpa using h.2⟩
end Tr
namespace Tr
open PySem PySem.Spec PyProof.Rows L2
theorem two_ok {g : Gr} (ns : List Int) (h : g.size ≤ 61) : SeqAt.shaped (.list [.list g.data, .list (ns.map PyData.int)]) = true ∧ PyData.eqv (.list [.list g.data, .list (ns.map PyData.int)]) (.list [.list g.data, .list (ns.map PyData.int)]) = true := by
  have := g.depth_le
  constructor
  · refine shaped_two (shaped_gr (by omega)) (shaped_ints ns) ?_ ?_
    · simp only [PyData.depth, depth_gr]
      omega
    · simp only [PyData.depth, depth_ints]
      omega
  · refine eqv_two ?_ ?_
    · rw [PyData.eqv, eqv_gr]
    · rw [PyData.eqv, eqvAll_self_ints]
end Tr
/-! Forests as texts. -/
namespace Tr
open PySem PySem.Spec PyProof.Rows L2
/-- the signs -/
def Gr.txt : Gr → List Nat
  | .nil => []
  | .cons b r => 40 :: (b.txt ++ 41 :: r.txt)
theorem txt_len : ∀ g : Gr, g.txt.length = 2 * g.size
  | .nil => rfl
  | .cons b r => by
    simp only [Gr.txt, List.length_cons, List.length_append, txt_len b, txt_len r, Gr.size]
    omega
theorem txt_app : ∀ g k : Gr, (g.app k).txt = g.txt ++ k.txt
  | .nil, _ => rfl
  | .cons b r, k => by simp only [Gr.app, Gr.txt, txt_app r k, List.cons_append, List.append_assoc]
theorem txt_count : ∀ g : Gr, g.txt.count 40 = g.size
  | .nil => rfl
  | .cons b r => by
    simp only [Gr.txt, Gr.size, List.count_cons, List.count_append, txt_count b, txt_count r]
    simp
/-- a text of the program -/
def S (l : List Nat) : Str := ⟨l.toArray⟩
theorem S_app (a b : List Nat) : S a ++ S b = S (a ++ b) := by
  show (⟨a.toArray ++ b.toArray⟩ : Str) = ⟨(a ++ b).toArray⟩
  simp
theorem S_len (a : List Nat) : (S a).length = a.length := rfl
theorem S_at {a : List Nat} {i : Nat} {c : Nat} (h : (S a).cps[i]? = some c) : a[i]? = some c := by
  have : a.toArray[i]? = some c := h
  simpa using this
theorem S_one (c : Nat) : (⟨#[c]⟩ : Str) = S [c] := rfl
theorem S_inj {a b : List Nat} (h : S a = S b) : a = b := by
  have h' : a.toArray = b.toArray := congrArg Str.cps h
  simpa using congrArg Array.toList h'
theorem S_of (z : Str) : ∃ l, z = S l := ⟨z.cps.toList, by cases z; simp [S]⟩
/-! ### reading -/
def stepP (st : List Gr) (c : Nat) : Option (List Gr) :=
  if c = 40 then some (.nil :: st) else if c = 41 then (match st with | b :: t :: rest => some (t.app (.cons b .nil) :: rest) | _ => none) else none
def parseP : List Gr → List Nat → Option (List Gr)
  | st, [] => some st
  | st, c :: l => (stepP st c).bind fun st' => parseP st' l
theorem parseP_txt : ∀ (g t : Gr) (st : List Gr) (l : List Nat), parseP (t :: st) (g.txt ++ l) = parseP (t.app g :: st) l
  | .nil, t, st, l => by rw [Gr.txt, List.nil_append, Gr.app_nil]
  | .cons b r, t, st, l => by
    have e1 : parseP (t :: st) ((Gr.cons b r).txt ++ l) = parseP (.nil :: t :: st) (b.txt ++ (41 :: (r.txt ++ l))) := by
      simp only [Gr.txt, List.cons_append, List.append_assoc]
      rfl
    have e2 : parseP (b :: t :: st) (41 :: (r.txt ++ l)) = parseP (t.app (.cons b .nil) :: st) (r.txt ++ l) := rfl
    rw [e1, parseP_txt b, show Gr.nil.app b = b from rfl, e2, parseP_txt r, Gr.app_assoc]
    rfl
theorem parseP_snoc : ∀ (l : List Nat) (st : List Gr) (c : Nat), parseP st (l ++ [c]) = (parseP st l).bind fun st' => stepP st' c
  | [], st, c => by
    show (stepP st c).bind (fun st' => some st') = stepP st c
    cases stepP st c <;> rfl
  | d :: l, st, c => by
    show (stepP st d).bind (fun st' => parseP st' (l ++ [c])) = ((stepP st d).bind fun st' => parseP st' l).bind _
    cases stepP st d with
    | none => rfl
    | some st' => exact parseP_snoc l st' c
/-- what a text tells -/
def readG (l : List Nat) : Option Gr := match parseP [.nil] l with
  | some [g] => if 1 ≤ l.count 40 ∧ l.count 40 ≤ 60 then some g else none
  | _ => none
theorem readG_txt {g : Gr} (h1 : 1 ≤ g.size) (h2 : g.size ≤ 60) : readG g.txt = some g := by
  have e := parseP_txt g .nil [] []
  rw [List.append_nil] at e
  unfold readG
  rw [e, txt_count]
  show (if 1 ≤ g.size ∧ g.size ≤ 60 then some g else none) = _
  rw [if_pos ⟨h1, h2⟩]
/-- the nodes of all open brackets -/
def sizes (st : List Gr) : Nat := (st.map Gr.size).sum
theorem parseP_size : ∀ (l : List Nat) (st st' : List Gr), parseP st l = some st' → st ≠ [] → sizes st' + st'.length = sizes st + st.length + l.count 40 ∧ st' ≠ []
  | [], st, st', h, h0 => by
    cases h
    exact ⟨by simp, h0⟩
  | c :: l, st, st', h, h0 => by
    have h' : (stepP st c).bind (fun s => parseP s l) = some st' := h
    unfold stepP at h'
    by_cases c1 : c = 40
    · subst c1
      rw [if_pos rfl] at h'
      obtain ⟨i1, i2⟩ := parseP_size l _ _ h' (by simp)
      refine ⟨?_, i2⟩
      rw [i1]
      simp only [sizes, List.map_cons, List.sum_cons, Gr.size, List.length_cons, List.count_cons_self]
      omega
    · rw [if_neg c1] at h'
      by_cases c2 : c = 41
      · rw [if_pos c2] at h'
        match st, h' with
        | b :: t :: rest, h' =>
          obtain ⟨i1, i2⟩ := parseP_size l _ _ h' (by simp)
          refine ⟨?_, i2⟩
          rw [i1]
          simp only [sizes, List.map_cons, List.sum_cons, Gr.app_size, Gr.size, List.length_cons, List.count_cons_of_ne c1]
          omega
      · rw [if_neg c2] at h'
        cases h'
theorem parseP_one {l : List Nat} {g : Gr} (h : parseP [.nil] l = some [g]) : g.size = l.count 40 := by
  have := (parseP_size l _ _ h (by simp)).1
  simp only [sizes, List.map_cons, List.map_nil, List.sum_cons, List.sum_nil, Gr.size, List.length_cons, List.length_nil] at this
  omega
/-! ### a stack of trees and ends -/
def SAt (H : Hp) : List (Option Gr) → List V → Prop
  | [], xs => xs = []
  | none :: is, xs => ∃ zs, xs = .non :: zs ∧ SAt H is zs
  | some b :: is, xs => ∃ a ys zs, xs = .ref a :: zs ∧ H a = some (.tup ys) ∧ GAt H b ys ∧ SAt H is zs
theorem SAt.mono {H H' : Hp} (t : Ts H H') : ∀ {is : List (Option Gr)} {xs : List V}, SAt H is xs → SAt H' is xs
  | [], _, h => h
  | none :: is, _, ⟨zs, e, h⟩ => ⟨zs, e, h.mono t⟩
  | some b :: is, _, ⟨a, ys, zs, e, h, h1, h2⟩ => ⟨a, ys, zs, e, t _ _ h, h1.mono t, h2.mono t⟩
theorem SAt.app {H : Hp} : ∀ {is js : List (Option Gr)} {xs ys : List V}, SAt H is xs → SAt H js ys → SAt H (is ++ js) (xs ++ ys)
  | [], _, _, _, h, hj => by
    cases h
    exact hj
  | none :: is, _, _, _, ⟨zs, e, h⟩, hj => ⟨zs ++ _, by rw [e]; rfl, h.app hj⟩
  | some b :: is, _, _, _, ⟨a, us, zs, e, h, h1, h2⟩, hj => ⟨a, us, zs ++ _, by rw [e]; rfl, h, h1, h2.app hj⟩
theorem SAt.rev {H : Hp} : ∀ {is : List (Option Gr)} {xs : List V}, SAt H is xs → SAt H is.reverse xs.reverse
  | [], _, h => by
    cases h
    rfl
  | none :: is, _, ⟨zs, e, h⟩ => by
    rw [e, List.reverse_cons, List.reverse_cons]
    exact h.rev.app ⟨[], rfl, rfl⟩
  | some b :: is, _, ⟨a, us, zs, e, h, h1, h2⟩ => by
    rw [e, List.reverse_cons, List.reverse_cons]
    exact h2.rev.app ⟨a, us, [], rfl, h, h1, rfl⟩
theorem SAt.len {H : Hp} : ∀ {is : List (Option Gr)} {xs : List V}, SAt H is xs → xs.length = is.length
  | [], _, h => by
    cases h
    rfl
  | none :: is, _, ⟨zs, e, h⟩ => by rw [e, List.length_cons, List.length_cons, h.len]
  | some b :: is, _, ⟨a, us, zs, e, h, h1, h2⟩ => by rw [e, List.length_cons, List.length_cons, h2.len]
def itemsOf : Gr → List (Option Gr)
  | .nil => []
  | .cons b r => some b :: itemsOf r
theorem GAt.items {H : Hp} : ∀ {g : Gr} {xs : List V}, GAt H g xs → SAt H (itemsOf g) xs
  | .nil, _, h => h
  | .cons b r, _, ⟨a, ys, zs, e, h, h1, h2⟩ => ⟨a, ys, zs, e, h, h1, h2.items⟩
def textI : List (Option Gr) → List Nat
  | [] => []
  | none :: is => 41 :: textI is
  | some b :: is => 40 :: (b.txt ++ 41 :: textI is)
theorem textI_app : ∀ is js : List (Option Gr), textI (is ++ js) = textI is ++ textI js
  | [], _ => rfl
  | none :: is, js => by simp only [List.cons_append, textI, textI_app is js]
  | some b :: is, js => by simp only [List.cons_append, textI, textI_app is js, List.append_assoc]
theorem textI_items : ∀ g : Gr, textI (itemsOf g) = g.txt
  | .nil => rfl
  | .cons b r => by simp only [itemsOf, textI, Gr.txt, textI_items r]
theorem textI_len : ∀ is : List (Option Gr), is.length ≤ (textI is).length
  | [] => Nat.le_refl 0
  | none :: is => by
    have := textI_len is
    simp only [textI, List.length_cons]
    omega
  | some b :: is => by
    have := textI_len is
    simp only [textI, List.length_cons, List.length_append]
    omega
def dataI : List (Option Gr) → List PyData
  | [] => []
  | none :: is => PyData.none :: dataI is
  | some b :: is => .tuple b.data :: dataI is
theorem SAt.dp {K : PySem.W.Frag} {H : Hp} : ∀ {is : List (Option Gr)} {xs : List V}, SAt H is xs → DpAll K H xs (dataI is)
  | [], _, h => by
    cases h
    exact .nil
  | none :: is, _, ⟨zs, e, h⟩ => by
    rw [e]
    exact .cons .non h.dp
  | some b :: is, _, ⟨a, ys, zs, e, h, h1, h2⟩ => by
    rw [e]
    exact .cons (.tup (SqT.of h) h1.dp) h2.dp
theorem canLay_I : ∀ is : List (Option Gr), PyData.canLayAll0 (dataI is) = true
  | [] => by simp only [dataI, PyData.canLayAll0]
  | none :: is => by simp only [dataI, PyData.canLayAll0, PyData.canLay0, canLay_I is, Bool.and_self]
  | some b :: is => by simp only [dataI, PyData.canLayAll0, PyData.canLay0, canLay_gr b, canLay_I is, Bool.and_self]
theorem depth_I : ∀ is : List (Option Gr), 2 * PyData.depthAll (dataI is) ≤ (textI is).length
  | [] => by simp [dataI, PyData.depthAll]
  | none :: is => by
    have := depth_I is
    simp only [dataI, PyData.depthAll, PyData.depth, textI, List.length_cons]
    omega
  | some b :: is => by
    have := depth_I is
    have := b.depth_le
    simp only [dataI, PyData.depthAll, PyData.depth, textI, List.length_cons, List.length_append, depth_gr, txt_len]
    omega
theorem textI_rev_len : ∀ is : List (Option Gr), (textI is.reverse).length = (textI is).length
  | [] => rfl
  | none :: is => by
    rw [List.reverse_cons, textI_app, List.length_append, textI_rev_len is]
    rfl
  | some b :: is => by
    rw [List.reverse_cons, textI_app, List.length_append, textI_rev_len is]
    simp only [textI, List.length_cons, List.length_append, List.length_nil]
    omega
theorem shaped_I {is : List (Option Gr)} (h : (textI is).length ≤ 124) : SeqAt.shaped (.list (dataI is)) = true := by
  have := depth_I is
  unfold SeqAt.shaped
  simp only [PyData.canLay0, canLay_I, PyData.depth, Bool.true_and]
  exact decide_eq_true (by omega)
theorem eqv_I : ∀ is : List (Option Gr), PyData.eqvAll (dataI is) [] = decide (is.length = 0)
  | [] => by simp [dataI, PyData.eqvAll]
  | none :: is => by simp [dataI, PyData.eqvAll]
  | some b :: is => by simp [dataI, PyData.eqvAll]
theorem rd_neI0 {K : PySem.W.Frag} {H : Hp} {Q : VK} {p q : Addr} {is : List (Option Gr)} {xs : List V} (h1 : SqL K H p xs) (g1 : SAt H is xs) (h2 : SqL K H q []) (hz : (textI is).length ≤ 124) (k : Q (.bl (!decide (is.length = 0))) H) : gNe K (.ref p) (.ref q) H Q :=
  rd_neD (.lst h1 g1.dp) (.lst h2 .nil) (shaped_I hz) (shaped_gr (g := .nil) (Nat.zero_le _)) (by rw [PyData.eqv, eqv_I]; exact k)
end Tr
namespace Tr
open PySem PySem.Spec PyProof.Rows L2
theorem lit_open : Str.ofString "(" = S [40] := by decide +kernel
theorem lit_close : Str.ofString ")" = S [41] := by decide +kernel
theorem lit_empty : Str.ofString "" = S [] := by decide +kernel
theorem join_S : ∀ ys : List (List Nat), Txt.join (S []) (ys.map S) = S ys.flatten := fun ys => by
  unfold Txt.join
  rw [StrLaws.glued_eq_join]
  induction ys with
  | nil => rfl
  | cons y ys ih =>
    cases ys with
    | nil =>
      show S y = S ([y].flatten)
      simp
    | cons z zs =>
      show S y ++ S [] ++ Str.join (S []) ((z :: zs).map S) = _
      rw [ih, S_app, S_app, List.append_nil]
      rfl
end Tr
namespace Tr
open PySem PySem.Spec PyProof.Rows L2
theorem parseP_app : ∀ (l m : List Nat) (st : List Gr), parseP st (l ++ m) = (parseP st l).bind fun st' => parseP st' m
  | [], m, st => rfl
  | d :: l, m, st => by
    show (stepP st d).bind (fun st' => parseP st' (l ++ m)) = ((stepP st d).bind fun st' => parseP st' l).bind _
    cases stepP st d with
    | none => rfl
    | some st' => exact parseP_app l m st'
theorem readG_cut {l : List Nat} (i : Nat) (h : parseP [.nil] (l.take i) = none) : readG l = none := by
  have e : parseP [.nil] l = none := by
    rw [← List.take_append_drop i l, parseP_app, h]
    rfl
  unfold readG
  rw [e]
theorem sign_eq {c d : Nat} : ((⟨#[c]⟩ : Str) = S [d]) ↔ c = d := by
  rw [S_one]
  exact ⟨fun h => by have := S_inj h; simpa using this, fun h => by rw [h]⟩
/-- the lists on the stack, the uppermost first -/
def FAt (H : Hp) : List Gr → List (Addr × List V) → Prop
  | [], fs => fs = []
  | g :: gs, fs => ∃ f rest, fs = f :: rest ∧ GAt H g f.2 ∧ FAt H gs rest
theorem FAt.mono {H H' : Hp} (t : Ts H H') : ∀ {gs : List Gr} {fs : List (Addr × List V)}, FAt H gs fs → FAt H' gs fs
  | [], _, h => h
  | g :: gs, _, ⟨f, rest, e, h1, h2⟩ => ⟨f, rest, e, h1.mono t, h2.mono t⟩
theorem FAt.len {H : Hp} : ∀ {gs : List Gr} {fs : List (Addr × List V)}, FAt H gs fs → fs.length = gs.length
  | [], _, h => by
    cases h
    rfl
  | g :: gs, _, ⟨f, rest, e, h1, h2⟩ => by rw [e, List.length_cons, List.length_cons, h2.len]
def stkL (ps : Addr) (fs : List (Addr × List V)) : List (Addr × HO) := (ps, HO.lst (fs.reverse.map fun f => V.ref f.1)) :: fs.map fun f => (f.1, HO.lst f.2)
theorem stkL_cons (ps : Addr) (f : Addr × List V) (fs : List (Addr × List V)) : stkL ps (f :: fs) = (ps, HO.lst ((fs.reverse.map fun f => V.ref f.1) ++ [.ref f.1])) :: (f.1, HO.lst f.2) :: fs.map fun f => (f.1, HO.lst f.2) := by
  unfold stkL
  rw [List.reverse_cons, List.map_append]
  rfl
end Tr
namespace Tr
open PySem PySem.Spec PyProof.Rows L2
theorem rd_m1 {r : V → List V → Hp → VK → Prop} {to te : TE} {σ : L2.St} {H : Hp} {Q : VK} (h : to σ H fun x H1 => (∃ a, x = .str a) ∧ te σ H1 fun y H2 => r x [y] H2 Q) : tM1 r to te σ H Q := h
/-- the texts of the trees -/
def texts : Gr → List (List Nat)
  | .nil => []
  | .cons b r => (40 :: (b.txt ++ [41])) :: texts r
theorem texts_flat : ∀ g : Gr, (texts g).flatten = g.txt
  | .nil => rfl
  | .cons b r => by simp [texts, Gr.txt, texts_flat r]
theorem texts_len : ∀ g : Gr, (texts g).length = g.len
  | .nil => rfl
  | .cons b r => by simp [texts, Gr.len, texts_len r]
theorem texts_sum : ∀ g : Gr, ((texts g).map fun t => (S t).length).sum = g.txt.length
  | .nil => rfl
  | .cons b r => by
    have ih := texts_sum r
    rw [texts, List.map_cons, List.sum_cons, ih, S_len]
    simp only [Gr.txt, List.length_cons, List.length_append, List.length_nil]
    omega
theorem GAt.atX {H : Hp} : ∀ {g : Gr} {xs : List V} {i : Nat} {x : V}, GAt H g xs → xs[i]? = some x → ∃ (a : Addr) (ys : List V) (b : Gr), x = .ref a ∧ H a = some (.tup ys) ∧ GAt H b ys ∧ b.depth + 1 ≤ g.depth ∧ b.size + 1 ≤ g.size ∧ (texts g)[i]? = some (40 :: (b.txt ++ [41]))
  | .nil, _, i, x, h, hx => by
    cases h
    simp at hx
  | .cons b r, _, 0, x, ⟨a, ys, zs, e, h, h1, h2⟩, hx => by
    subst e
    cases hx
    exact ⟨a, ys, b, rfl, h, h1, by simp only [Gr.depth]; omega, by simp only [Gr.size]; omega, rfl⟩
  | .cons b r, _, i + 1, x, ⟨a, ys, zs, e, h, h1, h2⟩, hx => by
    subst e
    obtain ⟨a2, ys2, b2, q1, q2, q3, q4, q5, q6⟩ := GAt.atX h2 (i := i) (by simpa using hx)
    exact ⟨a2, ys2, b2, q1, q2, q3, by simp only [Gr.depth]; omega, by simp only [Gr.size]; omega, by simpa [texts] using q6⟩
end Tr
namespace Tr
open PySem PySem.Spec PyProof.Rows L2
/-! ### exact cuts -/
theorem rd_slTo {z : Str} {k : Nat} {H : Hp} {Q : VK} (hz : z.length ≤ sizeLine) (q : ∀ u : Str, u.length = min k z.length → Q (.str u) H) : rSlS (.str z) none (some (k : Int)) H Q := ⟨z, rfl, hz, q _ (by
  unfold cutS
  rw [HT.sIx_nat, HT.sIx_none]
  show (List.toArray _).size = _
  rw [List.size_toArray, List.length_take, List.length_drop, Array.length_toList]
  show min _ (z.length - 0) = _
  omega)⟩
theorem rd_slFrom {z : Str} {j : Nat} {H : Hp} {Q : VK} (hz : z.length ≤ sizeLine) (q : ∀ u : Str, u.length = z.length - j → Q (.str u) H) : rSlS (.str z) (some (j : Int)) none H Q := ⟨z, rfl, hz, q _ (by
  unfold cutS
  rw [HT.sIx_nat, HT.sIx_none]
  show (List.toArray _).size = _
  rw [List.size_toArray, List.length_take, List.length_drop, Array.length_toList]
  show min _ (z.length - _) = _
  omega)⟩
theorem rd_slMid {z : Str} {j k : Nat} {H : Hp} {Q : VK} (hz : z.length ≤ sizeLine) (q : ∀ u : Str, u.length = min k z.length - j → Q (.str u) H) : rSlS (.str z) (some (j : Int)) (some (k : Int)) H Q := ⟨z, rfl, hz, q _ (by
  unfold cutS
  rw [HT.sIx_nat, HT.sIx_nat]
  show (List.toArray _).size = _
  rw [List.size_toArray, List.length_take, List.length_drop, Array.length_toList]
  show min _ (z.length - _) = _
  omega)⟩
theorem parseP_long : ∀ (l : List Nat) (st st' : List Gr), parseP st l = some st' → 2 * sizes st' + st'.length = 2 * sizes st + st.length + l.length
  | [], st, st', h => by
    cases h
    simp
  | c :: l, st, st', h => by
    have h' : (stepP st c).bind (fun s => parseP s l) = some st' := h
    unfold stepP at h'
    by_cases c1 : c = 40
    · rw [if_pos c1] at h'
      have i1 := parseP_long l _ _ h'
      simp only [sizes, List.map_cons, List.sum_cons, Gr.size, List.length_cons] at i1 ⊢
      omega
    · rw [if_neg c1] at h'
      by_cases c2 : c = 41
      · rw [if_pos c2] at h'
        match st, h' with
        | b :: t :: rest, h' =>
          have i1 := parseP_long l _ _ h'
          simp only [sizes, List.map_cons, List.sum_cons, Gr.app_size, Gr.size, List.length_cons] at i1 ⊢
          omega
      · rw [if_neg c2] at h'
        cases h'
end Tr
/-! The third argument of grove_by. -/
namespace Tr
open PySem PySem.Spec PyProof.Rows L2
theorem roots_at (c : Int) : ∃ r : Int, atI [V.int 3, V.int 8, V.int 99] (c % 3) = some (.int r) ∧ 1 ≤ r := by
  have h := at_int (ls := [3, 8, 99]) (k := c % 3) (by omega) (by show _ < (3 : Int); omega)
  refine ⟨_, h, ?_⟩
  have : c % 3 = 0 ∨ c % 3 = 1 ∨ c % 3 = 2 := by omega
  rcases this with e | e | e <;> rw [e] <;> decide
end Tr
namespace Tr
open PySem PySem.Spec PyProof.Rows L2
/-! the text of the row, by places -/
def topS (i : Nat) : Stmt := PySem.Challenge.pw_turnrow_k13_groves_read_or_refused.main.body.getD i (.Pass ⟨0, 0, 0, 0⟩)
abbrev s_read : Stmt := topS 9
abbrev n_read : List Str := ["text", "stack", "nodes", "sign", "boughs"]
theorem sc_read : FnScope n_read ["text"] (defScope s_read) := ⟨rfl, rfl, rfl, by decide +kernel, rfl, by decide +kernel, by decide +kernel⟩
abbrev s_law_cell_at : Stmt := topS 11
abbrev n_law_cell_at : List Str := ["script", "k"]
theorem sc_law_cell_at : FnScope n_law_cell_at ["script", "k"] (defScope s_law_cell_at) := ⟨rfl, rfl, rfl, by decide +kernel, rfl, by decide +kernel, by decide +kernel⟩
abbrev s_law_grove_by : Stmt := topS 12
abbrev n_law_grove_by : List Str := ["script", "first", "nodes", "roots", "boughs", "firsts", "k", "cell", "trees", "j"]
theorem sc_law_grove_by : FnScope n_law_grove_by ["script", "first", "nodes", "roots"] (defScope s_law_grove_by) := ⟨rfl, rfl, rfl, by decide +kernel, rfl, by decide +kernel, by decide +kernel⟩
abbrev s_law_word : Stmt := topS 13
abbrev n_law_word : List Str := ["tree", "found", "bough"]
theorem sc_law_word : FnScope n_law_word ["tree"] (defScope s_law_word) := ⟨rfl, rfl, rfl, by decide +kernel, rfl, by decide +kernel, by decide +kernel⟩
abbrev s_law_words : Stmt := topS 14
abbrev n_law_words : List Str := ["grove", "found", "tree"]
theorem sc_law_words : FnScope n_law_words ["grove"] (defScope s_law_words) := ⟨rfl, rfl, rfl, by decide +kernel, rfl, by decide +kernel, by decide +kernel⟩
abbrev s_law_is_tree : Stmt := topS 15
abbrev n_law_is_tree : List Str := ["found", "bough"]
theorem sc_law_is_tree : FnScope n_law_is_tree ["found"] (defScope s_law_is_tree) := ⟨rfl, rfl, rfl, by decide +kernel, rfl, by decide +kernel, by decide +kernel⟩
abbrev s_law_is_grove : Stmt := topS 16
abbrev n_law_is_grove : List Str := ["found", "due", "tree"]
theorem sc_law_is_grove : FnScope n_law_is_grove ["found", "due"] (defScope s_law_is_grove) := ⟨rfl, rfl, rfl, by decide +kernel, rfl, by decide +kernel, by decide +kernel⟩
abbrev s_law_nodes : Stmt := topS 17
abbrev n_law_nodes : List Str := ["script", "head"]
theorem sc_law_nodes : FnScope n_law_nodes ["script"] (defScope s_law_nodes) := ⟨rfl, rfl, rfl, by decide +kernel, rfl, by decide +kernel, by decide +kernel⟩
abbrev s_law_sign_by : Stmt := topS 18
abbrev n_law_sign_by : List Str := ["cell", "some"]
theorem sc_law_sign_by : FnScope n_law_sign_by ["cell"] (defScope s_law_sign_by) := ⟨rfl, rfl, rfl, by decide +kernel, rfl, by decide +kernel, by decide +kernel⟩
abbrev s_law_text : Stmt := topS 19
abbrev n_law_text : List Str := ["tree", "text", "bough"]
theorem sc_law_text : FnScope n_law_text ["tree"] (defScope s_law_text) := ⟨rfl, rfl, rfl, by decide +kernel, rfl, by decide +kernel, by decide +kernel⟩
abbrev s_law_spoiled : Stmt := topS 20
abbrev n_law_spoiled : List Str := ["text", "cell", "place", "rest", "ahead", "way", "many"]
theorem sc_law_spoiled : FnScope n_law_spoiled ["text", "cell"] (defScope s_law_spoiled) := ⟨rfl, rfl, rfl, by decide +kernel, rfl, by decide +kernel, by decide +kernel⟩
abbrev s_law_due : Stmt := topS 21
abbrev n_law_due : List Str := ["text", "stack", "sign"]
theorem sc_law_due : FnScope n_law_due ["text"] (defScope s_law_due) := ⟨rfl, rfl, rfl, by decide +kernel, rfl, by decide +kernel, by decide +kernel⟩
abbrev s_law : Stmt := topS 22
abbrev n_law : List Str := ["script", "grove", "text", "due", "found", "marks", "e", "tree"]
theorem sc_law : FnScope n_law ["script"] (defScope s_law) := ⟨rfl, rfl, rfl, by decide +kernel, rfl, by decide +kernel, by decide +kernel⟩
structure Txt (K : PySem.W.Frag) (mg : Str → Option Value) : Prop where
  f_read : Txt1 K mg "read" s_read ["text"]
  f_law_cell_at : Txt1 K mg "_law_cell_at" s_law_cell_at ["script", "k"]
  f_law_grove_by : Txt1 K mg "_law_grove_by" s_law_grove_by ["script", "first", "nodes", "roots"]
  f_law_word : Txt1 K mg "_law_word" s_law_word ["tree"]
  f_law_words : Txt1 K mg "_law_words" s_law_words ["grove"]
  f_law_is_tree : Txt1 K mg "_law_is_tree" s_law_is_tree ["found"]
  f_law_is_grove : Txt1 K mg "_law_is_grove" s_law_is_grove ["found", "due"]
  f_law_nodes : Txt1 K mg "_law_nodes" s_law_nodes ["script"]
  f_law_sign_by : Txt1 K mg "_law_sign_by" s_law_sign_by ["cell"]
  f_law_text : Txt1 K mg "_law_text" s_law_text ["tree"]
  f_law_spoiled : Txt1 K mg "_law_spoiled" s_law_spoiled ["text", "cell"]
  f_law_due : Txt1 K mg "_law_due" s_law_due ["text"]
  f_law : Txt1 K mg "law" s_law ["script"]
  m_ValueError : mg "ValueError" = none
  m_isinstance : mg "isinstance" = none
  m_len : mg "len" = none
  m_list : mg "list" = none
  m_range : mg "range" = none
  m_tuple : mg "tuple" = none
  c_MOST : ∃ t, mg "MOST" = some (.int 60 t)
  e_TurnError : ExcT K mg "TurnError"
  e_BadRow : ExcT K mg "BadRow"
  e_NoTurn : ExcT K mg "NoTurn"
  e_NoWord : ExcT K mg "NoWord"
  e_NoSuch : ExcT K mg "NoSuch"
  e_NoText : ExcT K mg "NoText"
  x_NoText : ExcC K (He.ga K "NoText")
  t_NoText : PySem.W.exmOne K (.ref (He.ga K "NoText")) (.ref (He.ga K "TurnError")) = some true
  v_NoText : PySem.W.kitOne K (.ref (He.ga K "NoText")) (.type "ValueError") = some true
  i_NoText_BadRow : PySem.W.kitOne K (.ref (He.ga K "NoText")) (.ref (He.ga K "BadRow")) = some false
  i_NoText_NoTurn : PySem.W.kitOne K (.ref (He.ga K "NoText")) (.ref (He.ga K "NoTurn")) = some false
  i_NoText_NoWord : PySem.W.kitOne K (.ref (He.ga K "NoText")) (.ref (He.ga K "NoWord")) = some false
  i_NoText_NoSuch : PySem.W.kitOne K (.ref (He.ga K "NoText")) (.ref (He.ga K "NoSuch")) = some false
  i_NoText_NoText : PySem.W.kitOne K (.ref (He.ga K "NoText")) (.ref (He.ga K "NoText")) = some true
end Tr
local macro_rules | `(tactic| walk_at "sq") => `(tactic| first
  | assumption
  | (refine Tr.Led.sq (H0 := ?hH) (l := ?hl) ?L 0 ?h; (case L => assumption); (case h => rfl))
  | (refine Tr.Led.sq (H0 := ?hH) (l := ?hl) ?L 1 ?h; (case L => assumption); (case h => rfl))
  | (refine Tr.Led.sq (H0 := ?hH) (l := ?hl) ?L 2 ?h; (case L => assumption); (case h => rfl))
  | (refine Tr.Led.sq (H0 := ?hH) (l := ?hl) ?L 3 ?h; (case L => assumption); (case h => rfl))
  | (refine Tr.Led.sq (H0 := ?hH) (l := ?hl) ?L 4 ?h; (case L => assumption); (case h => rfl))
  | (refine Tr.Led.sq (H0 := ?hH) (l := ?hl) ?L 5 ?h; (case L => assumption); (case h => rfl))
  | (refine Tr.Led.sq (H0 := ?hH) (l := ?hl) ?L 6 ?h; (case L => assumption); (case h => rfl))
  | (refine Tr.Led.sq (H0 := ?hH) (l := ?hl) ?L 7 ?h; (case L => assumption); (case h => rfl))
  | (refine Tr.Led.seq (H0 := ?hH) (l := ?hl) ?L ?h; (case L => assumption); (case h => assumption)))
local macro_rules | `(tactic| walk_at "s1") => `(tactic| first
  | with_reducible refine Tr.rd_seq ?_
  | with_reducible refine Tr.rd_asg ?_
  | with_reducible refine Tr.rd_name ?_
  | with_reducible refine Tr.rd_c ?_
  | ((with_reducible refine Tr.rd_var (v := ?hvv) ?hvr ?_); (case hvr => exact rfl))
  | with_reducible refine Tr.rd_op ?_
  | with_reducible refine Tr.rd_cons ?_
  | with_reducible refine Tr.rd_nil ?_
  | with_reducible refine Tr.rd_addI ?_
  | with_reducible refine Tr.rd_sub ?_
  | with_reducible refine Tr.rd_neg ?_
  | with_reducible refine Tr.rd_drop ?_
  | with_reducible refine Tr.rd_ret ?_
  | with_reducible refine Tr.rd_ifS ?_
  | with_reducible refine Tr.rd_test ?_
  | with_reducible refine Tr.rd_testB ?_
  | with_reducible refine Tr.rd_isB ?_
  | with_reducible refine Tr.rd_isI ?_
  | with_reducible refine Tr.rd_and ?_
  | with_reducible refine Tr.rd_or ?_
  | with_reducible refine Tr.rd_not ?_
  | with_reducible refine Tr.rd_andV ?_
  | with_reducible refine Tr.rd_orV ?_
  | with_reducible refine Tr.rd_notV ?_
  | with_reducible refine Tr.rd_un ?_
  | with_reducible refine Tr.rd_call ?_
  | with_reducible refine Tr.rd_callG ?_
  | with_reducible refine Tr.rd_CB ?_
  | with_reducible refine Tr.rd_BM ?_
  | with_reducible refine Tr.rd_BM0 ?_
  | ((with_reducible refine Tr.rd_ty (xs := ?hxs) ?hsq ?_); (case hsq => walk_at "sq"))
  | with_reducible refine Tr.rd_sl ?_
  | with_reducible refine Tr.rd_noP ?_
  | with_reducible refine Tr.rd_part ?_
  | with_reducible refine Tr.rd_lst ?_
  | with_reducible refine Tr.rd_tup ?_
  | with_reducible refine Tr.rd_lt ?_
  | with_reducible refine Tr.rd_le ?_
  | with_reducible refine Tr.rd_gt ?_
  | with_reducible refine Tr.rd_ge ?_
  | with_reducible refine Tr.rd_eqI ?_
  | with_reducible refine Tr.rd_neI ?_
  | with_reducible refine Tr.rd_eqS ?_
  | with_reducible refine Tr.rd_neS ?_
  | with_reducible refine Tr.rd_eqB ?_
  | with_reducible refine Tr.rd_neB ?_
  | with_reducible refine Tr.rd_isN ?_
  | with_reducible refine Tr.rd_rz ?_
  | with_reducible refine Tr.rd_retN ?_
  | with_reducible refine Tr.rd_next ?_
  | with_reducible refine Tr.rd_brk ?_
  | with_reducible refine Tr.rd_yes ?_
  | with_reducible refine L2.iteT ?_
  | with_reducible refine L2.iteF ?_
  | with_reducible refine Tr.iteNT ?_
  | with_reducible refine Tr.iteNF ?_
  | with_reducible refine Tr.rd_for ?_
  | with_reducible refine Tr.rd_lc ?_
  | with_reducible refine Tr.rd_iList ?_
  | with_reducible refine Tr.rd_iTup ?_
  | with_reducible refine Tr.rd_iStr ?_
  | with_reducible refine Tr.rd_iRng1 ?_
  | with_reducible refine Tr.rd_iRng2 ?_
  | with_reducible refine Tr.rd_iRng3 ?_
  | with_reducible refine Tr.rd_iRev ?_
  | with_reducible refine Tr.rd_itS ?_
  | ((with_reducible refine Tr.rd_itL (xs := ?hxs) ?hsq ?_); (case hsq => walk_at "sq"))
  | ((with_reducible refine Tr.rd_itV (xs := ?hxs) ?hsq ?_); (case hsq => walk_at "sq"))
  | ((with_reducible refine Tr.rd_mod ?hlt ?_); (case hlt => first | omega | assumption))
  | ((with_reducible refine Tr.rd_divK ?hlt ?hl2 ?_); (case hlt => first | omega | assumption); (case hl2 => first | omega | assumption))
  | ((with_reducible refine Tr.rd_lenL (xs := ?hxs) ?hsq ?_); (case hsq => walk_at "sq"))
  | with_reducible refine Tr.rd_intB ?_
  | with_reducible refine Tr.rd_revL ?_
  | with_reducible refine Tr.rd_listRev ?_
  | with_reducible refine Tr.rd_gSub ?_
  | with_reducible refine Tr.rd_iEnum ?_
  | with_reducible refine Tr.rd_gMax2 ?_
  | with_reducible refine Tr.rd_gMin2 ?_)
local macro_rules | `(tactic| walk_at "s") => `(tactic| (repeat walk_at "s1"))
namespace Tr
open PySem PySem.Spec PyProof.Rows L2
def sp_law_cell_at (K : PySem.W.Frag) : Sp := fun vs H Q _ => ∃ a ns, ∃ k : Nat, vs = [.ref a, .int k] ∧ SqL K H a (ns.map V.int) ∧ Q (.int (cell ns k)) H
theorem cell_in {ns : List Int} {k : Nat} (h : k < ns.length) : (ns.map V.int)[k]? = some (.int (cell ns k)) := by
  unfold cell
  rw [List.getElem?_map, List.getD_eq_getElem?_getD, List.getElem?_eq_getElem h]
  rfl
theorem cell_out {ns : List Int} {k : Nat} (h : ns.length ≤ k) : cell ns k = 0 := by
  unfold cell
  rw [List.getD_eq_getElem?_getD, List.getElem?_eq_none h]
  rfl
theorem ok_law_cell_at {P : Program} {w : World} {K : PySem.W.Frag} {mg : Str → Option Value} {base : Heap} (T : Txt K mg) : Fn P w K mg base (L2.CX P w) 1 "_law_cell_at" ["script", "k"] (sp_law_cell_at K) := by
  refine fnOf1 T.f_law_cell_at sc_law_cell_at (fun vs H Q E h => ?_) (fun f cdv A outer s H vs Q E hr h => ⟨_, (pss_cons (ps_if (pt_cmpR op_gLt (pv 1) (pe_callB (kLen K) (by rfl) T.m_len (by decide +kernel) (pa_cons (pv 0) pa_nil)) (nomark _)) (pss_one (ps_ret (pe_ix (kIx K) (pv 0) (pv 1) (fun _ _ => rfl)))) pss_nil)
      (pss_one (ps_ret pe_int))), ?_⟩)
  · obtain ⟨a, ns, k, rfl, _⟩ := h
    rfl
  obtain ⟨a, ns, k, rfl, hS, hq⟩ := h
  try dsimp only [L2.cxOf]
  walk_at "s"
  rw [List.length_map]
  refine ited (fun c => ?_) (fun c => ?_)
  · walk_at "s"
    exact rd_ixL hS (atI_nat (cell_in (by omega))) hq
  · walk_at "s"
    rw [cell_out (by omega)] at hq
    exact hq
end Tr
namespace Tr
open PySem PySem.Spec PyProof.Rows L2
def sp_law_grove_by (K : PySem.W.Frag) : Sp := fun vs H Q _ => ∃ (a : Addr) (ns : List Int), ∃ first nodes : Nat, ∃ roots : Int, vs = [.ref a, .int first, .int nodes, .int roots] ∧ SqL K H a (ns.map V.int) ∧ 1 ≤ nodes ∧ nodes ≤ 60 ∧ 1 ≤ roots ∧ ∀ p xs g H', Led H H' [(p, .lst xs)] → GAt H' g xs → g.size = nodes → Q (.ref p) H'
theorem ok_law_grove_by {P : Program} {w : World} {K : PySem.W.Frag} {mg : Str → Option Value} {base : Heap} (T : Txt K mg) : Fn P w K mg base (L2.CX P w) 2 "_law_grove_by" ["script", "first", "nodes", "roots"] (sp_law_grove_by K) := by
  refine fnOf1 T.f_law_grove_by sc_law_grove_by (fun vs H Q E h => ?_) (fun f cdv A outer s H vs Q E hr h => ⟨_, (pss_cons (ps_setLc (i := 4) (own := [("k", 6)]) (g := gName 6) rfl sc_law_grove_by.nd rfl rfl (sw_true rfl rfl rfl (by decide +kernel)) (pi_range1 rfl T.m_range (pa_cons (pv 2) pa_nil)) (blkOk_by (N := n_law_grove_by) (sc := defScope s_law_grove_by) (by decide +kernel)) (fun _ _ _ _ _ => pg_name (i := 6) sc_law_grove_by.nd rfl (Or.inl rfl)) (fun _ _ _ _ _ => pts_nil) (fun _ _ _ _ _ => (pe_lst pa_nil)))
      (pss_cons (ps_set (i := 5) sc_law_grove_by.nd rfl (Or.inl rfl) (pe_lst pa_nil))
      (pss_cons (ps_for (passes_of rfl) rfl (pi_range1 rfl T.m_range (pa_cons (pv 2) pa_nil)) (pg_name (i := 6) sc_law_grove_by.nd rfl (Or.inl rfl)) (pss_cons (ps_set (i := 7) sc_law_grove_by.nd rfl (Or.inl rfl) (pe_callF (ok_law_cell_at T) (hr.mono (by decide)) rfl passL (pa_cons (pv 0) (pa_cons (pe_op op_gAdd (pv 1) (pv 6)) pa_nil))))
      (pss_one (ps_if (PW.pt (pw_or (pt_cmpR (kEq K hr.units) (pv 6) pe_int (nomark _)) (pw_or1 (pt_cmpR (kEq K hr.units) (pe_op op_gMod (pv 7) (pv 3)) pe_int (nomark _))))) (pss_one (ps_expr (kbm K PySem.F.plainAttrs_list PySem.F.slot_list_append PySem.F.type_list_append mt_append (pv 5) (pa_cons (pv 6) pa_nil)))) (pss_one (ps_if (PW.pt (pw_and (pt_cmpR (kEq K hr.units) (pv 3) pe_int (nomark _)) (pw_and1 (pt_cmpR op_gGt (pe_op op_gMod (pv 7) pe_int) pe_int (nomark _))))) (pss_one (ps_expr (kbm K PySem.F.plainAttrs_list PySem.F.slot_list_append PySem.F.type_list_append mt_append (pe_ix (kIx K) (pv 4) pe_int (fun _ _ => rfl)) (pa_cons (pv 6) pa_nil)))) (pss_one (ps_if (pt_cmpR (kEq K hr.units) (pe_op op_gMod (pe_op op_gDiv (pv 7) pe_int) pe_int) pe_int (nomark _)) (pss_one (ps_expr (kbm K PySem.F.plainAttrs_list PySem.F.slot_list_append PySem.F.type_list_append mt_append (pe_ix (kIx K) (pv 4) (pe_op op_gSub (pv 6) pe_int) (fun _ _ => rfl)) (pa_cons (pv 6) pa_nil)))) (pss_one (ps_expr (kbm K PySem.F.plainAttrs_list PySem.F.slot_list_append PySem.F.type_list_append mt_append (pe_ix (kIx K) (pv 4) (pe_op op_gMod (pe_op op_gDiv (pv 7) pe_int) (pv 6)) (fun _ _ => rfl)) (pa_cons (pv 6) pa_nil))))))))))))
      (pss_cons (ps_set (i := 8) sc_law_grove_by.nd rfl (Or.inr rfl) (pe_lc (own := [("k", 6)]) (g := gName 6) rfl sc_law_grove_by.nd (pi_range1 rfl T.m_range (pa_cons (pv 2) pa_nil)) (blkOk_by (N := n_law_grove_by) (sc := defScope s_law_grove_by) (by decide +kernel)) (fun _ _ _ _ _ => pg_name (i := 6) sc_law_grove_by.nd rfl (Or.inl rfl)) (fun _ _ _ _ _ => pts_nil) (fun _ _ _ _ _ => (pe_tup pa_nil))))
      (pss_cons (ps_for (passes_of rfl) rfl (pi_range3 rfl T.m_range (pa_cons (pe_op op_gSub (pv 2) pe_int) (pa_cons (pe_un op_gNeg pe_int) (pa_cons (pe_un op_gNeg pe_int) pa_nil)))) (pg_name (i := 6) sc_law_grove_by.nd rfl (Or.inl rfl)) (pss_one (ps_asg (pe_callTy (kTuple K) (by rfl) T.m_tuple (by decide +kernel) (pa_cons (pe_lc (own := [("j", 9)]) (g := gName 9) rfl sc_law_grove_by.nd (kiList K (pe_ix (kIx K) (pv 4) (pv 6) (fun _ _ => rfl))) (blkOk_by (N := n_law_grove_by) (sc := defScope s_law_grove_by) (by decide +kernel)) (fun _ _ _ _ _ => pg_name (i := 9) sc_law_grove_by.nd rfl (Or.inl rfl)) (fun _ _ _ _ _ => pts_nil) (fun _ _ _ _ _ => (pe_ix (kIx K) (pv 8) (pv 9) (fun _ _ => rfl)))) pa_nil)) (pg_sub (pv 8) (pv 6) set_list))))
      (pss_one (ps_ret (pe_lc (own := [("k", 6)]) (g := gName 6) rfl sc_law_grove_by.nd (kiList K (pv 5)) (blkOk_by (N := n_law_grove_by) (sc := defScope s_law_grove_by) (by decide +kernel)) (fun _ _ _ _ _ => pg_name (i := 6) sc_law_grove_by.nd rfl (Or.inl rfl)) (fun _ _ _ _ _ => pts_nil) (fun _ _ _ _ _ => (pe_ix (kIx K) (pv 8) (pv 6) (fun _ _ => rfl))))))))))), ?_⟩)
  · obtain ⟨a, ns, first, nodes, roots, rfl, _⟩ := h
    rfl
  obtain ⟨a, ns, first, n, roots, rfl, hS, hn1, hn, hr1, hq⟩ := h
  try dsimp only [L2.cxOf]
  walk_at "s"
  refine rd_itR1 n (Int.toNat_natCast _) (by omega) (by omega) ?_
  refine lc_rng (Led.start H) fun pb Hb Lb tb => ⟨fun i H1 => ∃ A : Nat → Addr, Led H H1 ((pb, .lst ((List.range i).map fun j => .ref (A j))) :: rows i A (fun _ => [])), ⟨fun _ => 0, Lb⟩, ?_, ?_⟩
  · rintro i H1 hi ⟨A, L⟩
    walk_at "s"
    refine ⟨rfl, ?_⟩
    walk_at "s"
    refine rd_mkL L (sz (Nat.zero_le 0)) fun p H2 Lp tp => ?_
    refine rd_put1 Lp 1 rfl (by rw [List.length_map, List.length_range]; exact szl (m := 60) (by omega)) fun H3 L3 t3 => ?_
    have e1 : (List.range i).map (fun j => V.ref (if j = i then p else A j)) = (List.range i).map fun j => .ref (A j) := by
      apply List.map_congr_left
      intro j hj
      have := List.mem_range.mp hj
      rw [if_neg (by omega)]
    have e2 : rows i (fun j => if j = i then p else A j) (fun _ => []) = rows i A (fun _ => []) := by
      unfold rows
      apply List.map_congr_left
      intro j hj
      have := List.mem_range.mp hj
      show ((if j = i then p else A j), _) = _
      rw [if_neg (by omega)]
    refine ⟨fun j => if j = i then p else A j, L3.perm ?_⟩
    have e3 : rows (i + 1) (fun j => if j = i then p else A j) (fun _ => []) = rows i A (fun _ => []) ++ [(p, .lst [])] := by
      rw [← e2]
      unfold rows
      rw [List.range_succ, List.map_append]
      simp
    rw [e3, List.range_succ, List.map_append, e1]
    simp only [List.map_cons, List.map_nil, if_pos]
    have pm := (List.perm_append_comm (l₁ := rows i A fun _ => []) (l₂ := [(p, .lst [])])).cons (pb, HO.lst ((List.range i).map (fun j => V.ref (A j)) ++ [.ref p]))
    exact pm.trans (List.Perm.swap _ _ _)
  rintro H1 ⟨A, L1⟩
  walk_at "s"
  refine rd_mkL L1 (sz (Nat.zero_le 0)) fun pf H2 Lf tf => ?_
  walk_at "s"
  generalize hP : parOf ns first roots = P
  refine rd_itR1 n (Int.toNat_natCast _) (by omega) (by omega) ?_
  refine lp_rng0 (fun i σ H' => ∃ y z, σ = [some (.ref a), some (.int first), some (.int n), some (.int roots), some (.ref pb), some (.ref pf), y, z, none, none] ∧
      Led H H' ((pf, .lst ((tops P i).map fun (j : Nat) => V.int j)) :: (pb, .lst ((List.range n).map fun j => .ref (A j))) :: rows n A (chl P i))) ⟨none, none, rfl, Lf⟩ ?_ ?_
  · rintro i σ H' hi ⟨y, z, rfl, L⟩
    have hA : ∀ j, j < n → atI ((List.range n).map fun j => V.ref (A j)) (j : Int) = some (.ref (A j)) := fun j hj => atI_nat (by rw [List.getElem?_map, List.getElem?_range hj]; rfl)
    have fin : ∀ p H2 (σ2 : L2.St), P i = some p → (∃ y z, σ2 = [some (.ref a), some (.int first), some (.int n), some (.int roots), some (.ref pb), some (.ref pf), y, z, none, none]) → 
        Led H H2 (((pf, .lst ((tops P i).map fun (j : Nat) => V.int j)) :: (pb, .lst ((List.range n).map fun j => .ref (A j))) :: rows n A (chl P i)).set (p + 2) (A p, .lst ((chl P i p).map (fun (j : Nat) => V.int j) ++ [.int i]))) →
        ∃ y z, σ2 = [some (.ref a), some (.int first), some (.int n), some (.int roots), some (.ref pb), some (.ref pf), y, z, none, none] ∧
          Led H H2 ((pf, .lst ((tops P (i + 1)).map fun (j : Nat) => V.int j)) :: (pb, .lst ((List.range n).map fun j => .ref (A j))) :: rows n A (chl P (i + 1))) := by
      rintro p H2 σ2 hp ⟨y, z, rfl⟩ L3
      have hlt := parOf_lt (hP ▸ hp)
      refine ⟨y, z, rfl, L3.to ?_⟩
      rw [tops_other hp, ← rows_set (k := i) (show p < n by omega) (chl_same hp) fun j hj => chl_other fun z => hj (Option.some.inj (z.symm.trans hp))]
      rfl
    have put : ∀ p H2 (R : Hp → Prop), p < n → Led H H2 ((pf, .lst ((tops P i).map fun (j : Nat) => V.int j)) :: (pb, .lst ((List.range n).map fun j => .ref (A j))) :: rows n A (chl P i)) →
        (∀ H3, Led H H3 (((pf, .lst ((tops P i).map fun (j : Nat) => V.int j)) :: (pb, .lst ((List.range n).map fun j => .ref (A j))) :: rows n A (chl P i)).set (p + 2) (A p, .lst ((chl P i p).map (fun (j : Nat) => V.int j) ++ [.int i]))) → R H3) → rAppend (.ref (A p)) [.int i] H2 (fun _ H3 => R H3) := by
      intro p H2 R hp L3 k
      refine rd_append L3 (p + 2) (rows_at hp) (by rw [List.length_map]; have := chl_len P i p; exact szl (m := 60) (by omega)) fun H3 L4 _ => k H3 L4
    have hrow : ∀ p, p < n → ∃ xs, SqL K H' (A p) xs := fun p hp => ⟨_, SqL.of (L.get (p + 2) (rows_at hp))⟩
    have hPi : P i = parOf ns first roots i := by rw [hP]
    unfold parOf at hPi
    walk_at "s"
    refine ⟨a, ns, first + i, rfl, L.seq hS, ?_⟩
    walk_at "s"
    have hzf : ((tops P i).map fun (j : Nat) => V.int j).length < sizeLine := by
      rw [List.length_map]
      have := tops_len P i
      exact szl (m := 60) (by omega)
    have finN : ∀ H2 (σ2 : List (Option V)), P i = none → (∃ y z, σ2 = [some (.ref a), some (.int first), some (.int n), some (.int roots), some (.ref pb), some (.ref pf), y, z, none, none]) →
        Led H H2 (((pf, .lst ((tops P i).map fun (j : Nat) => V.int j)) :: (pb, .lst ((List.range n).map fun j => .ref (A j))) :: rows n A (chl P i)).set 0 (pf, .lst ((tops P i).map (fun (j : Nat) => V.int j) ++ [.int i]))) →
        ∃ y z, σ2 = [some (.ref a), some (.int first), some (.int n), some (.int roots), some (.ref pb), some (.ref pf), y, z, none, none] ∧
          Led H H2 ((pf, .lst ((tops P (i + 1)).map fun (j : Nat) => V.int j)) :: (pb, .lst ((List.range n).map fun j => .ref (A j))) :: rows n A (chl P (i + 1))) := by
      rintro H2 σ2 hp ⟨y, z, rfl⟩ L3
      refine ⟨y, z, rfl, L3.to ?_⟩
      rw [tops_same hp, List.map_append]
      have e := rows_congr (n := n) (A := A) (B := chl P i) (C := chl P (i + 1)) fun j _ => (chl_other (by rw [hp]; exact fun z => nomatch z)).symm
      rw [← e]
      rfl
    refine ited (fun c1 => ?_) (fun c1 => ?_)
    · walk_at "s"
      refine rd_append L 0 rfl hzf fun H3 L3 t3 => finN H3 _ ?_ ⟨_, _, rfl⟩ L3
      rw [hPi, if_pos (.inl (by omega))]
    walk_at "s"
    refine ited (fun c2 => ?_) (fun c2 => ?_)
    · walk_at "s"
      refine rd_append L 0 rfl hzf fun H3 L3 t3 => finN H3 _ ?_ ⟨_, _, rfl⟩ L3
      rw [hPi, if_pos (.inr c2)]
    rw [if_neg (by omega)] at hPi
    walk_at "s"
    refine ited ?gx ?gy
    case' gx =>
      intro c3
      walk_at "s"
      refine ited ?gp ?gq
      case gp =>
        intro c4
        rw [if_pos ⟨c3, c4⟩] at hPi
        have hlt := parOf_lt (hP ▸ hPi)
        obtain ⟨xs0, hx0⟩ := hrow 0 (by omega)
        walk_at "s"
        refine rd_ixL (L.sq 1) (hA 0 (by omega)) ?_
        refine rd_ty hx0 ?_
        walk_at "s"
        exact put 0 H' _ (by omega) L fun H3 L3 => fin 0 H3 _ hPi ⟨_, _, rfl⟩ L3
    all_goals
      intro c5
      rw [if_neg (by omega)] at hPi
      walk_at "s"
      refine ited (fun c6 => ?_) (fun c6 => ?_)
      · rw [if_pos c6] at hPi
        have hlt := parOf_lt (hP ▸ hPi)
        obtain ⟨xs0, hx0⟩ := hrow (i - 1) (by omega)
        walk_at "s"
        have e : (i : Int) - 1 = ((i - 1 : Nat) : Int) := by omega
        rw [e]
        refine rd_ixL (L.sq 1) (hA (i - 1) (by omega)) ?_
        refine rd_ty hx0 ?_
        walk_at "s"
        exact put (i - 1) H' _ (by omega) L fun H3 L3 => fin (i - 1) H3 _ hPi ⟨_, _, rfl⟩ L3
      · rw [if_neg c6] at hPi
        have hlt := parOf_lt (hP ▸ hPi)
        have h1 := Int.emod_nonneg (cell ns (first + i) / 192) (b := i) (by omega)
        obtain ⟨xs0, hx0⟩ := hrow (cell ns (first + i) / 192 % i).toNat (by omega)
        walk_at "s"
        have e : cell ns (first + i) / 192 % i = ((cell ns (first + i) / 192 % i).toNat : Int) := by omega
        rw [e]
        refine rd_ixL (L.sq 1) (hA _ (by omega)) ?_
        refine rd_ty hx0 ?_
        walk_at "s"
        exact put _ H' _ (by omega) L fun H3 L3 => fin _ H3 _ hPi ⟨_, _, rfl⟩ L3
  rintro σ H' ⟨y, z, rfl, L⟩
  walk_at "s"
  refine rd_itR1 n (Int.toNat_natCast _) (by omega) (by omega) ?_
  refine lc_rng L fun pt Ht Lt tt => ⟨fun i H1 => ∃ vs : List V, vs.length = i ∧ Led H H1 ((pt, .lst vs) :: (pf, .lst ((tops P n).map fun (j : Nat) => V.int j)) :: (pb, .lst ((List.range n).map fun j => .ref (A j))) :: rows n A (chl P n)), ⟨[], rfl, Lt⟩, ?_, ?_⟩
  · rintro i H1 hi ⟨vs, hvs, L1⟩
    walk_at "s"
    refine ⟨rfl, ?_⟩
    walk_at "s"
    refine rd_mkT L1 (sz (Nat.zero_le 0)) fun p H2 Lp tp => ?_
    refine rd_put1 Lp 1 rfl (szl (m := 60) (by omega)) fun H3 L3 t3 => ⟨vs ++ [.ref p], by rw [List.length_append, hvs]; rfl, L3.tail.to rfl⟩
  rintro H2 ⟨vs, hvs, L2t⟩
  walk_at "s"
  refine rd_itRd n (by omega) (by omega) (by omega) (by omega) (by omega) ?_
  refine lp_rngC (fun i σ H' => ∃ y z v9 ws T, i ≤ n ∧ ws.length = n ∧ σ = [some (.ref a), some (.int first), some (.int n), some (.int roots), some (.ref pb), some (.ref pf), y, z, some (.ref pt), v9] ∧
      Led H H' ((pt, .lst ws) :: (pf, .lst ((tops P n).map fun (j : Nat) => V.int j)) :: (pb, .lst ((List.range n).map fun j => .ref (A j))) :: rows n A (chl P n)) ∧
      ∀ j, n - i ≤ j → j < n → GAt H' (.cons (T j) .nil) [ws.getD j .non] ∧ T j = ofl T (chl P n j)) ⟨_, _, _, vs, fun _ => .nil, Nat.zero_le _, hvs, rfl, L2t, fun j h1 h2 => by omega⟩ ?_ ?_
  · rintro i σ H3 hi ⟨y, z, v9, ws, T, hi2, hws, rfl, L3, hT⟩
    have ek : ((n : Int) - 1 + (i : Nat) * -1) = ((n - 1 - i : Nat) : Int) := by omega
    rw [ek]
    generalize hk : n - 1 - i = k
    walk_at "s"
    refine rd_ixL (L3.sq 2) (atI_nat (by rw [List.getElem?_map, List.getElem?_range (show k < n by omega)]; rfl)) ?_
    have hrow := L3.get (k + 3) (rows_at (show k < n by omega))
    have e2 : (chl P n k).map (fun (j : Nat) => V.int j) = ((chl P n k).map fun (j : Nat) => (j : Int)).map V.int := by rw [List.map_map]; rfl
    rw [e2] at hrow
    refine rd_itL (SqL.of hrow) ?_
    refine lc_mapI (ns := (chl P n k).map fun (j : Nat) => (j : Int)) (fun j => ws.getD j.toNat .non) L3 (fun H4 t4 s4 l1 L4 => ?_) ?_ ?_
    · have := (L4.drop1).get (k + 3) (rows_at (show k < n by omega))
      rw [e2] at this
      exact SqL.of this
    · intro j m D H4 hj L4 t4
      rw [List.getElem?_map] at hj
      cases hc : (chl P n k)[j]? with
      | none => rw [hc] at hj; cases hj
      | some c =>
        have hcm := chl_mem (List.mem_of_getElem? hc)
        have hjl := (List.getElem?_eq_some_iff.mp hc).1
        have := chl_len P n k
        rw [hc] at hj
        cases hj
        walk_at "s"
        refine ⟨rfl, ?_⟩
        walk_at "s"
        refine rd_ixL (L4.sq 1) (atI_nat (j := c) (v := ws.getD c .non) ?_) ?_
        · rw [List.getD_eq_getElem?_getD, List.getElem?_eq_getElem (by omega)]
          rfl
        · exact rd_mapIEnd [] L4 t4 (by rw [List.getElem?_map, hc]; rfl) (by omega) (by rw [Int.toNat_natCast])
    · intro D H4 L4 t4
      walk_at "s"
      refine rd_tuple L4 (L4.sq 0) fun q H5 L5 t5 => ?_
      walk_at "s"
      refine rd_setL L5 2 rfl (show k < ws.length by omega) fun H6 L6 t6 => ?_
      have tz := (t4.trans t5).trans t6
      have hq6 : H6 q = some (.tup (((chl P n k).map fun (j : Nat) => (j : Int)).map fun j => ws.getD j.toNat .non)) := t6 _ _ (L5.get 0)
      refine ⟨_, _, _, ws.set k (.ref q), fun j => if j = k then ofl T (chl P n k) else T j, by omega, by rw [List.length_set]; exact hws, rfl, L6.drop1 (m := [_, _]), ?_⟩
      have hTc : ∀ j, n - (i + 1) ≤ j → j < n → ofl (fun j => if j = k then ofl T (chl P n k) else T j) (chl P n j) = ofl T (chl P n j) := fun j h1 h2 => ofl_congr fun c hc => by
        have := parOf_lt (hP ▸ (chl_mem hc).2)
        show (if c = k then _ else T c) = T c
        rw [if_neg (by omega)]
      intro j h1 h2
      rw [hTc j h1 h2]
      by_cases hj : j = k
      · subst hj
        refine ⟨?_, if_pos rfl⟩
        show GAt H6 (.cons (if j = j then _ else _) .nil) _
        rw [if_pos rfl, List.getD_eq_getElem?_getD, List.getElem?_set, if_pos rfl, if_pos (by omega)]
        refine GAt.one hq6 ?_
        rw [List.map_map]
        refine GAt.ofl fun c hc => ?_
        have h3 := parOf_lt (hP ▸ (chl_mem hc).2)
        have h4 := (chl_mem hc).1
        exact ((hT c (by omega) h4).1).mono tz
      · have h5 := hT j (by omega) h2
        refine ⟨?_, ?_⟩
        · show GAt H6 (.cons (if j = k then _ else _) .nil) _
          rw [if_neg hj, List.getD_eq_getElem?_getD, List.getElem?_set, if_neg (Ne.symm hj), ← List.getD_eq_getElem?_getD]
          exact h5.1.mono tz
        · show (if j = k then _ else _) = _
          rw [if_neg hj]
          exact h5.2
  · rintro σ H3 ⟨y, z, v9, ws, T, hi2, hws, rfl, L3, hT⟩
    have e2 : (tops P n).map (fun (j : Nat) => V.int j) = ((tops P n).map fun (j : Nat) => (j : Int)).map V.int := by rw [List.map_map]; rfl
    rw [e2] at L3
    walk_at "s"
    refine lc_mapI (ns := (tops P n).map fun (j : Nat) => (j : Int)) (fun j => ws.getD j.toNat .non) L3 (fun H4 t4 s4 l1 L4 => (L4.drop1).sq 1) ?_ ?_
    · intro j m D H4 hj L4 t4
      rw [List.getElem?_map] at hj
      cases hc : (tops P n)[j]? with
      | none => rw [hc] at hj; cases hj
      | some c =>
        have hcm : c < n := by
          have := List.mem_of_getElem? hc
          unfold tops at this
          exact List.mem_range.mp (List.mem_filter.mp this).1
        have hjl := (List.getElem?_eq_some_iff.mp hc).1
        have := tops_len P n
        rw [hc] at hj
        cases hj
        walk_at "s"
        refine ⟨rfl, ?_⟩
        walk_at "s"
        refine rd_ixL (L4.sq 1) (atI_nat (j := c) (v := ws.getD c .non) ?_) ?_
        · rw [List.getD_eq_getElem?_getD, List.getElem?_eq_getElem (by omega)]
          rfl
        · exact rd_mapIEnd [] L4 t4 (by rw [List.getElem?_map, hc]; rfl) (by omega) (by rw [Int.toNat_natCast])
    · intro D H4 L4 t4
      refine hq D _ (ofl T (tops P n)) H4 L4.only ?_ ?_
      · rw [List.map_map]
        refine GAt.ofl fun c hc => ?_
        have hcm : c < n := by
          unfold tops at hc
          exact List.mem_range.mp (List.mem_filter.mp hc).1
        exact ((hT c (by omega) hcm).1).mono t4
      · exact grove_size P T (fun c hc p hp => by have := parOf_lt (hP ▸ hp); omega) fun j hj => (hT j (by omega) hj).2
end Tr
namespace Tr
open PySem PySem.Spec PyProof.Rows L2
def sp_law_due (_ : PySem.W.Frag) : Sp := fun vs H Q _ => ∃ l : List Nat, vs = [.str (S l)] ∧ l.length ≤ 124 ∧ (∀ g, readG l = some g → newG H Q g) ∧ (readG l = none → newV H Q .non)
theorem at_last2 {α : Type} {xs : List α} {x y : α} : atI (xs ++ [y, x]) (-2) = some y := by
  unfold atI ixN
  rw [if_neg (by decide), if_pos (by rw [List.length_append]; simp; omega)]
  have e : (-2 + ((xs ++ [y, x]).length : Int)).toNat = xs.length := by
    rw [List.length_append]
    simp
    omega
  show (xs ++ [y, x])[(-2 + ((xs ++ [y, x]).length : Int)).toNat]? = _
  rw [e]
  simp
theorem at_last1 {α : Type} {xs : List α} {x : α} : atI (xs ++ [x]) (-1) = some x := by
  unfold atI ixN
  rw [if_neg (by decide), if_pos (by rw [List.length_append]; simp; omega)]
  have e : (-1 + ((xs ++ [x]).length : Int)).toNat = xs.length := by
    rw [List.length_append]
    simp
    omega
  show (xs ++ [x])[(-1 + ((xs ++ [x]).length : Int)).toNat]? = _
  rw [e]
  simp
theorem rd_eqNil {K : PySem.W.Frag} {H : Hp} {Q : VK} {p q : Addr} {g : Gr} {xs : List V} (h1 : SqL K H p xs) (g1 : GAt H g xs) (h2 : SqL K H q []) (hz : g.size ≤ 62) (k : Q (.bl (decide (g.len = 0))) H) : gEq K (.ref p) (.ref q) H Q :=
  rd_eqD (dp_gr h1 g1) (.lst h2 .nil) (shaped_gr hz) (shaped_gr (g := .nil) (Nat.zero_le _)) (by rw [PyData.eqv, eqv_nil]; exact k)
theorem ok_law_due {P : Program} {w : World} {K : PySem.W.Frag} {mg : Str → Option Value} {base : Heap} (T : Txt K mg) : Fn P w K mg base (L2.CX P w) 1 "_law_due" ["text"] (sp_law_due K) := by
  refine fnOf1 T.f_law_due sc_law_due (fun vs H Q E h => ?_) (fun f cdv A outer s H vs Q E hr h => ⟨_, (pss_cons (ps_set (i := 1) sc_law_due.nd rfl (Or.inl rfl) (pe_lst (pa_cons (pe_lst pa_nil) pa_nil)))
      (pss_cons (ps_for (passes_of rfl) rfl (pi_str (pv 0)) (pg_name (i := 2) sc_law_due.nd rfl (Or.inl rfl)) (pss_one (ps_if (pt_cmpR (kEq K hr.units) (pv 2) pe_str (nomark _)) (pss_one (ps_expr (kbm K PySem.F.plainAttrs_list PySem.F.slot_list_append PySem.F.type_list_append mt_append (pv 1) (pa_cons (pe_lst pa_nil) pa_nil)))) (pss_one (ps_if (PW.pt (pw_and (pt_cmpR (kEq K hr.units) (pv 2) pe_str (nomark _)) (pw_and1 (pt_cmpR op_gGt (pe_callB (kLen K) (by rfl) T.m_len (by decide +kernel) (pa_cons (pv 1) pa_nil)) pe_int (nomark _))))) (pss_cons (ps_expr (kbm K PySem.F.plainAttrs_list PySem.F.slot_list_append PySem.F.type_list_append mt_append (pe_ix (kIx K) (pv 1) (pe_un op_gNeg pe_int) (fun _ _ => rfl)) (pa_cons (pe_callTy (kTuple K) (by rfl) T.m_tuple (by decide +kernel) (pa_cons (pe_ix (kIx K) (pv 1) (pe_un op_gNeg pe_int) (fun _ _ => rfl)) pa_nil)) pa_nil)))
      (pss_one (ps_expr (kbm0 K PySem.F.plainAttrs_list PySem.F.slot_list_pop PySem.F.type_list_pop mt_pop (pv 1))))) (pss_one (ps_ret pe_non)))))))
      (pss_cons (ps_if (PW.pt (pw_or (pt_cmpR op_gGt (pe_callB (kLen K) (by rfl) T.m_len (by decide +kernel) (pa_cons (pv 1) pa_nil)) pe_int (nomark _)) (pw_or (pt_cmpR (kEq K hr.units) (pe_ix (kIx K) (pv 1) pe_int (fun _ _ => rfl)) (pe_lst pa_nil) (nomark _)) (pw_or1 (pt_cmpR op_gGt (pe_m1 PySem.F.slot_str_count PySem.F.type_str_count mt_count (pv 0) pe_str) pe_int (nomark _)))))) (pss_one (ps_ret pe_non)) pss_nil)
      (pss_one (ps_ret (pe_ix (kIx K) (pv 1) pe_int (fun _ _ => rfl))))))), ?_⟩)
  · obtain ⟨l, rfl, _⟩ := h
    rfl
  obtain ⟨l, rfl, hl, hq, he⟩ := h
  try dsimp only [L2.cxOf]
  walk_at "s"
  refine rd_mkL (Led.start H) (sz (Nat.zero_le 0)) fun p0 H1 L1 _ => ?_
  walk_at "s"
  refine rd_mkL L1 (sz (Nat.le_refl 1)) fun ps H2 L2 _ => ?_
  walk_at "s"
  refine lp_str (fun i σ H' => ∃ (y : Option V) (gs : List Gr) (fs : List (Addr × List V)), σ = [some (.str (S l)), some (.ref ps), y] ∧ parseP [.nil] (l.take i) = some gs ∧ FAt H' gs fs ∧ Led H H' (stkL ps fs)) ⟨none, [.nil], [(p0, [])], rfl, rfl, ⟨_, [], rfl, rfl, rfl⟩, L2⟩ ?_ ?_
  · rintro i c σ H3 hi ⟨y, gs, fs, rfl, hp, hF, L3⟩
    have hc := S_at hi
    have hil := (List.getElem?_eq_some_iff.mp hc).1
    have hps := parseP_size _ _ _ hp (by simp)
    have hcl : (l.take i).count 40 ≤ 1000 := Nat.le_trans List.count_le_length (by rw [List.length_take]; omega)
    have hfl := hF.len
    have hsz0 : sizes [Gr.nil] + [Gr.nil].length = 1 := rfl
    rw [hsz0] at hps
    obtain ⟨hps, hne⟩ := hps
    have htk : l.take (i + 1) = l.take i ++ [c] := by rw [List.take_add_one, hc]; rfl
    have hpn : parseP [.nil] (l.take (i + 1)) = stepP gs c := by
      rw [htk, parseP_snoc, hp]
      rfl
    have hstk : SqL K H3 ps (fs.reverse.map fun f => V.ref f.1) := L3.sq 0
    walk_at "s"
    rw [lit_open]
    refine ited (fun c1 => ?_) (fun c1 => ?_)
    · have c1 := sign_eq.mp c1
      subst c1
      walk_at "s"
      refine rd_mkL L3 (sz (Nat.zero_le 0)) fun q H4 L4 t4 => ?_
      walk_at "s"
      refine rd_append L4 1 rfl (by rw [List.length_map, List.length_reverse]; exact szl (m := 10000) (by omega)) fun H5 L5 t5 => ?_
      refine ⟨some (.str (S [40])), .nil :: gs, (q, []) :: fs, rfl, ?_, ⟨_, _, rfl, rfl, (hF.mono t4).mono t5⟩, ?_⟩
      · rw [hpn]
        rfl
      · rw [stkL_cons]
        exact L5.perm (List.Perm.swap _ _ _)
    have c1' : c ≠ 40 := fun h => c1 (sign_eq.mpr h)
    walk_at "s"
    rw [lit_close]
    have bad : stepP gs c = none → Q .non H3 := fun h => he (readG_cut (i + 1) (hpn.trans h)) H3 L3.none
    refine ited ?ga ?gb
    case gb =>
      intro c2
      have c2' : c ≠ 41 := fun h => c2 (sign_eq.mpr h)
      walk_at "s"
      exact bad (by unfold stepP; rw [if_neg c1', if_neg c2'])
    intro c2
    have c2 := sign_eq.mp c2
    subst c2
    walk_at "s"
    rw [List.length_map, List.length_reverse, hfl]
    refine ited ?gc ?gd
    case gd =>
      intro c3
      walk_at "s"
      refine bad ?_
      unfold stepP
      rw [if_neg c1', if_pos rfl]
      match gs, hne, c3 with
      | [_], _, _ => rfl
      | _ :: _ :: _, _, c3 =>
        exfalso
        simp only [List.length_cons] at c3
        omega
    intro c3
    match gs, hp, hF, hps, hpn, bad, hfl with
    | [], _, _, _, _, _, _ => exact absurd c3 (by simp)
    | [_], _, _, _, _, _, _ => exact absurd c3 (by simp)
    | b :: t :: gs, hp, hF, hps, hpn, bad, hfl =>
      obtain ⟨f, _, rfl, hb, f2, rest, rfl, ht, hR⟩ := hF
      simp only [sizes, List.map_cons, List.sum_cons, List.length_cons] at hps
      have tl := ht.len
      have tz := t.len_le
      have L3' : Led H H3 ((ps, HO.lst ((rest.reverse.map fun f => V.ref f.1) ++ [.ref f2.1, .ref f.1])) :: (f.1, HO.lst f.2) :: (f2.1, HO.lst f2.2) :: rest.map fun f => (f.1, HO.lst f.2)) := L3.to (by
        unfold stkL
        rw [List.reverse_cons, List.reverse_cons, List.map_append, List.map_append, List.append_assoc]
        rfl)
      clear L3 hstk
      walk_at "s"
      refine rd_ixL (L3'.sq 0) at_last2 ?_
      refine rd_ty (L3'.sq 2) ?_
      walk_at "s"
      have e1 : (rest.reverse.map fun f => V.ref f.1) ++ [V.ref f2.1, V.ref f.1] = ((rest.reverse.map fun f => V.ref f.1) ++ [V.ref f2.1]) ++ [V.ref f.1] := by simp
      rw [e1] at L3'
      refine rd_ixL (L3'.sq 0) at_last1 ?_
      walk_at "s"
      refine rd_tuple L3' (L3'.sq 1) fun q H5 L5 t5 => ?_
      walk_at "s"
      refine rd_append L5 3 rfl (szl (m := 10000) (by omega)) fun H6 L6 t6 => ?_
      walk_at "s"
      have L6' : Led H H6 ((q, HO.tup f.2) :: (ps, HO.lst (((rest.reverse.map fun f => V.ref f.1) ++ [V.ref f2.1]) ++ [V.ref f.1])) :: (f.1, HO.lst f.2) :: (f2.1, HO.lst (f2.2 ++ [.ref q])) :: rest.map fun f => (f.1, HO.lst f.2)) := L6
      refine rd_pop L6' 1 rfl fun H7 L7 t7 => ?_
      have tt := (t5.trans t6).trans t7
      have hq7 : H7 q = some (.tup f.2) := t7 _ _ (t6 _ _ (L5.get 0))
      refine ⟨some (.str (S [41])), t.app (.cons b .nil) :: gs, (f2.1, f2.2 ++ [.ref q]) :: rest, rfl, ?_, ⟨_, _, rfl, (ht.mono tt).app (GAt.one hq7 (hb.mono tt)), hR.mono tt⟩, ?_⟩
      · rw [hpn]
        rfl
      · rw [stkL_cons]
        exact L7.sub (List.Sublist.cons _ (List.Sublist.cons_cons _ (List.Sublist.cons _ (List.Sublist.refl _))))
  · rintro σ H3 ⟨y, gs, fs, rfl, hp, hF, L3⟩
    have ecs : (S l).cps.size = l.length := by simp [S]
    rw [ecs, List.take_length] at hp
    have hfl := hF.len
    have hps := (parseP_size _ _ _ hp (by simp)).2
    have hlong := parseP_long _ _ _ hp
    have hstk : SqL K H3 ps (fs.reverse.map fun f => V.ref f.1) := L3.sq 0
    walk_at "s"
    rw [List.length_map, List.length_reverse, hfl]
    match gs, hp, hF, hfl, hps, hlong with
    | [], hp, hF, hfl, hps, _ => exact absurd rfl hps
    | a :: b :: gs, hp, _, _, _, _ =>
      have hbad : readG l = none := by
        unfold readG
        rw [hp]
      refine ited (fun c => ?_) (fun c => ?_)
      · walk_at "s"
        exact he hbad H3 L3.none
      · exfalso
        simp only [List.length_cons] at c
        omega
    | [g], hp, hF, hfl, _, hlong =>
      have hrd : readG l = if 1 ≤ l.count 40 ∧ l.count 40 ≤ 60 then some g else none := by
        unfold readG
        rw [hp]
      have hgs := parseP_one hp
      have hgl := g.len_le
      have hz : g.size ≤ 62 := by
        simp only [sizes, List.map_cons, List.map_nil, List.sum_cons, List.sum_nil, Gr.size, List.length_cons, List.length_nil] at hlong
        omega
      refine ited (fun c => absurd c (by simp)) (fun _ => ?_)
      obtain ⟨f, _, rfl, hg, hR⟩ := hF
      cases hR
      have L4 : Led H H3 [(ps, HO.lst [.ref f.1]), (f.1, HO.lst f.2)] := L3
      walk_at "s"
      refine rd_ixL (L4.sq 0) (atI_nat (j := 0) rfl) ?_
      walk_at "s"
      refine rd_mkL L4 (sz (Nat.zero_le 0)) fun p5 H5 L5 t5 => ?_
      have hg5 := hg.mono t5
      refine rd_eqNil (L5.sq 2) hg5 (L5.sq 0) hz ?_
      walk_at "s"
      refine ited (fun c => ?_) (fun c => ?_)
      · walk_at "s"
        have h0 : g.size = 0 := by
          cases g with
          | nil => rfl
          | cons _ _ => simp [Gr.len] at c
        exact he (by rw [hrd, if_neg (by omega)]) H5 L5.none
      have h1 : 1 ≤ g.size := by omega
      walk_at "s"
      refine rd_m1 ?_
      walk_at "s"
      refine ⟨⟨_, rfl⟩, ?_⟩
      walk_at "s"
      refine ⟨_, _, rfl, rfl, ?_⟩
      rw [lit_open]
      have ecn : Txt.count (S l) (S [40]) = (l.count 40 : Nat) := count_S l 40
      rw [ecn]
      walk_at "s"
      refine ited (fun c2 => ?_) (fun c2 => ?_)
      · walk_at "s"
        exact he (by rw [hrd, if_neg (by omega)]) H5 L5.none
      walk_at "s"
      refine rd_ixL (L5.sq 1) (atI_nat (j := 0) rfl) ?_
      exact hq g (by rw [hrd, if_pos (by omega)]) f.1 f.2 H5 (L5.drop1 (m := [_, _])) hg5
end Tr
namespace Tr
open PySem PySem.Spec PyProof.Rows L2
def sp_law_nodes (K : PySem.W.Frag) : Sp := fun vs H Q _ => ∃ a ns, vs = [.ref a] ∧ SqL K H a (ns.map V.int) ∧ Q (.int (nodesOf ns)) H
theorem ok_law_nodes {P : Program} {w : World} {K : PySem.W.Frag} {mg : Str → Option Value} {base : Heap} (T : Txt K mg) : Fn P w K mg base (L2.CX P w) 2 "_law_nodes" ["script"] (sp_law_nodes K) := by
  refine fnOf1 T.f_law_nodes sc_law_nodes (fun vs H Q E h => ?_) (fun f cdv A outer s H vs Q E hr h => ⟨_, (pss_cons (ps_set (i := 1) sc_law_nodes.nd rfl (Or.inl rfl) (pe_callF (ok_law_cell_at T) (hr.mono (by decide)) rfl passL (pa_cons (pv 0) (pa_cons pe_int pa_nil))))
      (pss_cons (ps_if (pt_cmpR (kEq K hr.units) (pe_op op_gMod (pe_op op_gDiv (pv 1) pe_int) pe_int) pe_int (nomark _)) (pss_one (ps_ret (pe_op op_gAdd pe_int (pe_op op_gMod (pe_op op_gDiv (pv 1) pe_int) pe_int)))) pss_nil)
      (pss_one (ps_ret (pe_op op_gAdd pe_int (pe_op op_gMod (pv 1) pe_int)))))), ?_⟩)
  · obtain ⟨a, ns, rfl, _⟩ := h
    rfl
  obtain ⟨a, ns, rfl, hS, hq⟩ := h
  try dsimp only [L2.cxOf]
  walk_at "s"
  refine ⟨a, ns, 0, rfl, hS, ?_⟩
  walk_at "s"
  refine ited (fun c => ?_) (fun c => ?_)
  · walk_at "s"
    have e : ((nodesOf ns : Nat) : Int) = 1 + cell ns 0 / 48 % 60 := by
      unfold nodesOf
      rw [if_pos c]
      omega
    rw [e] at hq
    exact hq
  · walk_at "s"
    have e : ((nodesOf ns : Nat) : Int) = 1 + cell ns 0 % 12 := by
      unfold nodesOf
      rw [if_neg c]
      omega
    rw [e] at hq
    exact hq
end Tr
namespace Tr
open PySem PySem.Spec PyProof.Rows L2
def sp_law_sign_by (_ : PySem.W.Frag) : Sp := fun vs H Q _ => ∃ c : Int, vs = [.int c] ∧ ∀ ch : Nat, Q (.str ⟨#[ch]⟩) H
theorem app_len (a b : Str) : (a ++ b).length = a.length + b.length := by
  show (a.cps ++ b.cps).size = _
  rw [Array.size_append]
  rfl
theorem ok_law_sign_by {P : Program} {w : World} {K : PySem.W.Frag} {mg : Str → Option Value} {base : Heap} (T : Txt K mg) : Fn P w K mg base (L2.CX P w) 1 "_law_sign_by" ["cell"] (sp_law_sign_by K) := by
  refine fnOf1 T.f_law_sign_by sc_law_sign_by (fun vs H Q E h => ?_) (fun f cdv A outer s H vs Q E hr h => ⟨_, (pss_cons (ps_set (i := 1) sc_law_sign_by.nd rfl (Or.inl rfl) pe_str)
      (pss_cons (ps_set (i := 1) sc_law_sign_by.nd rfl (Or.inl rfl) (pe_op op_gAdd (pv 1) pe_str))
      (pss_one (ps_ret (pe_ix (kIx K) (pv 1) (pe_op op_gMod (pv 0) pe_int) (fun _ _ => rfl)))))), ?_⟩)
  · obtain ⟨c, rfl, _⟩ := h
    rfl
  obtain ⟨c, rfl, hq⟩ := h
  try dsimp only [L2.cxOf]
  walk_at "s"
  refine rd_addS ?_ ?_
  · exact sz (m := 94) (by decide +kernel)
  walk_at "s"
  refine rd_ixStr ?_ (by omega) ?_ hq
  · rw [app_len]
    exact sz (m := 94) (by decide +kernel)
  · rw [app_len]
    refine Int.lt_of_lt_of_le (b := 94) (by omega) ?_
    exact Int.ofNat_le.mpr (by decide +kernel)
end Tr
namespace Tr
open PySem PySem.Spec PyProof.Rows L2
def sp_law_spoiled (_ : PySem.W.Frag) : Sp := fun vs H Q _ => ∃ (z : Str) (c : Int), vs = [.str z, .int c] ∧ z.length ≤ 120 ∧ ∀ u : Str, u.length ≤ 124 → newV H Q (.str u)
theorem one_len (c : Nat) : (⟨#[c]⟩ : Str).length = 1 := rfl
theorem two_len : (Str.ofString "()").length = 2 := by decide +kernel
theorem nl_len : (Str.ofString "\n").length = 1 := by decide +kernel
theorem op_len1 : (Str.ofString "(").length = 1 := by decide +kernel
theorem cl_len1 : (Str.ofString ")").length = 1 := by decide +kernel
theorem few_at {K : PySem.W.Frag} {H : Hp} {Q : VK} {p : Addr} {zs : List Str} {n : Int} {m : Nat} (hs : SqL K H p (zs.map V.str)) (h0 : 0 ≤ n) (h1 : n < zs.length) (hz : ∀ z ∈ zs, z.length ≤ m) (k : ∀ u : Str, u.length ≤ m → Q (.str u) H) : rIx K (.ref p) (.int n) H Q := by
  obtain ⟨j, rfl⟩ : ∃ j : Nat, n = j := ⟨n.toNat, by omega⟩
  have hj : j < zs.length := by omega
  refine rd_ixL hs (atI_nat (v := .str zs[j]) ?_) (k _ (hz _ (List.getElem_mem hj)))
  rw [List.getElem?_map, List.getElem?_eq_getElem hj]
  rfl
theorem ok_law_spoiled {P : Program} {w : World} {K : PySem.W.Frag} {mg : Str → Option Value} {base : Heap} (T : Txt K mg) : Fn P w K mg base (L2.CX P w) 2 "_law_spoiled" ["text", "cell"] (sp_law_spoiled K) := by
  refine fnOf1 T.f_law_spoiled sc_law_spoiled (fun vs H Q E h => ?_) (fun f cdv A outer s H vs Q E hr h => ⟨_, (pss_cons (ps_set (i := 2) sc_law_spoiled.nd rfl (Or.inl rfl) (pe_op op_gMod (pe_op op_gDiv (pv 1) pe_int) (pe_op op_gAdd (pe_callB (kLen K) (by rfl) T.m_len (by decide +kernel) (pa_cons (pv 0) pa_nil)) pe_int)))
      (pss_cons (ps_set (i := 3) sc_law_spoiled.nd rfl (Or.inl rfl) (pe_op op_gDiv (pe_op op_gDiv (pv 1) pe_int) (pe_op op_gAdd (pe_callB (kLen K) (by rfl) T.m_len (by decide +kernel) (pa_cons (pv 0) pa_nil)) pe_int)))
      (pss_cons (ps_set (i := 4) sc_law_spoiled.nd rfl (Or.inl rfl) (pe_slice sl_str (pv 0) po_none (po_some (pv 2))))
      (pss_cons (ps_set (i := 5) sc_law_spoiled.nd rfl (Or.inl rfl) (pe_op op_gMod (pv 1) pe_int))
      (pss_cons (ps_if (pt_cmpR (kEq K hr.units) (pv 5) pe_int (nomark _)) (pss_one (ps_ret (pe_op op_gAdd (pe_op op_gAdd (pv 4) (pe_callF (ok_law_sign_by T) (hr.mono (by decide)) rfl passL (pa_cons (pv 3) pa_nil))) (pe_slice sl_str (pv 0) (po_some (pv 2)) po_none)))) pss_nil)
      (pss_cons (ps_if (pt_cmpR (kEq K hr.units) (pv 5) pe_int (nomark _)) (pss_one (ps_ret (pe_op op_gAdd (pe_op op_gAdd (pv 4) (pe_callF (ok_law_sign_by T) (hr.mono (by decide)) rfl passL (pa_cons (pv 3) pa_nil))) (pe_slice sl_str (pv 0) (po_some (pe_op op_gAdd (pv 2) pe_int)) po_none)))) pss_nil)
      (pss_cons (ps_if (pt_cmpR (kEq K hr.units) (pv 5) pe_int (nomark _)) (pss_one (ps_ret (pe_op op_gAdd (pe_op op_gAdd (pe_slice sl_str (pv 0) po_none (po_some (pv 2))) pe_str) (pe_slice sl_str (pv 0) (po_some (pv 2)) po_none)))) pss_nil)
      (pss_cons (ps_if (pt_cmpR (kEq K hr.units) (pv 5) pe_int (nomark _)) (pss_one (ps_ret (pe_op op_gAdd (pe_op op_gAdd (pv 4) (pe_ix (kIx K) pe_str (pe_op op_gMod (pv 3) pe_int) (fun _ _ => rfl))) (pe_slice sl_str (pv 0) (po_some (pv 2)) po_none)))) pss_nil)
      (pss_cons (ps_if (pt_cmpR (kEq K hr.units) (pv 5) pe_int (nomark _)) (pss_one (ps_ret (pe_op op_gAdd (pe_op op_gAdd (pv 4) (pe_ix (kIx K) pe_str (pe_op op_gMod (pv 3) pe_int) (fun _ _ => rfl))) (pe_slice sl_str (pv 0) (po_some (pe_op op_gAdd (pv 2) pe_int)) po_none)))) pss_nil)
      (pss_cons (ps_if (pt_cmpR (kEq K hr.units) (pv 5) pe_int (nomark _)) (pss_one (ps_ret (pe_op op_gAdd (pe_slice sl_str (pv 0) po_none (po_some (pv 2))) (pe_slice sl_str (pv 0) (po_some (pe_op op_gAdd (pv 2) pe_int)) po_none)))) pss_nil)
      (pss_cons (ps_if (pt_cmpR (kEq K hr.units) (pv 5) pe_int (nomark _)) (pss_one (ps_ret (pe_op op_gRepS pe_str (pe_op op_gAdd pe_int (pe_op op_gMod (pv 3) pe_int))))) pss_nil)
      (pss_cons (ps_if (pt_cmpR (kEq K hr.units) (pv 5) pe_int (nomark _)) (pss_cons (ps_set (i := 6) sc_law_spoiled.nd rfl (Or.inl rfl) (pe_op op_gAdd pe_int (pe_op op_gMod (pv 3) pe_int)))
      (pss_one (ps_ret (pe_op op_gAdd (pe_op op_gRepS pe_str (pv 6)) (pe_op op_gRepS pe_str (pv 6)))))) pss_nil)
      (pss_cons (ps_if (pt_cmpR (kEq K hr.units) (pv 5) pe_int (nomark _)) (pss_one (ps_ret (pe_ix (kIx K) (pe_lst (pa_cons pe_str (pa_cons pe_str (pa_cons pe_str (pa_cons pe_str (pa_cons pe_str (pa_cons pe_str (pa_cons pe_str pa_nil)))))))) (pe_op op_gMod (pv 3) pe_int) (fun _ _ => rfl)))) pss_nil)
      (pss_cons (ps_if (pt_cmpR (kEq K hr.units) (pe_op op_gMod (pv 3) pe_int) pe_int (nomark _)) (pss_one (ps_ret (pe_op op_gAdd (pv 0) (pe_ix (kIx K) (pe_lst (pa_cons pe_str (pa_cons pe_str (pa_cons pe_str (pa_cons pe_str pa_nil))))) (pe_op op_gMod (pe_op op_gDiv (pv 3) pe_int) pe_int) (fun _ _ => rfl))))) pss_nil)
      (pss_one (ps_ret (pe_op op_gAdd (pe_op op_gAdd (pv 4) (pe_revS (pe_slice sl_str (pv 0) (po_some (pv 2)) (po_some (pe_op op_gAdd (pv 2) pe_int))))) (pe_slice sl_str (pv 0) (po_some (pe_op op_gAdd (pv 2) pe_int)) po_none)))))))))))))))))), ?_⟩)
  · obtain ⟨z, c, rfl, _⟩ := h
    rfl
  obtain ⟨z, c, rfl, hz, hq⟩ := h
  try dsimp only [L2.cxOf]
  have hzl : z.length ≤ sizeLine := sz (m := 200) (by omega)
  have done : ∀ u : Str, u.length ≤ 124 → Q (.str u) H := fun u hu => hq u hu H (Led.start H)
  have hp : ∃ pl : Nat, c / 10 % ((z.length : Int) + 1) = pl ∧ pl ≤ z.length := by
    have h1 := Int.emod_nonneg (c / 10) (b := (z.length : Int) + 1) (by omega)
    have h2 := Int.emod_lt_of_pos (c / 10) (b := (z.length : Int) + 1) (by omega)
    exact ⟨(c / 10 % ((z.length : Int) + 1)).toNat, by omega, by omega⟩
  obtain ⟨pl, epl, hpl⟩ := hp
  have ej1 : (pl : Int) + 1 = ((pl + 1 : Nat) : Int) := by omega
  have ej2 : (pl : Int) + 2 = ((pl + 2 : Nat) : Int) := by omega
  walk_at "s"
  refine rd_lenS hzl ?_
  walk_at "s"
  refine rd_lenS hzl ?_
  walk_at "s"
  rw [epl]
  generalize c / 10 / ((z.length : Int) + 1) = rest
  refine rd_slTo hzl fun ah hah => ?_
  walk_at "s"
  refine ited (fun _ => ?_) (fun _ => ?_)
  · walk_at "s"
    refine ⟨rest, rfl, fun ch => ?_⟩
    refine rd_addS (sz (m := 1000) (by rw [one_len]; omega)) ?_
    walk_at "s"
    refine rd_slFrom hzl fun u2 h2 => ?_
    refine rd_addS (sz (m := 1000) (by rw [app_len, one_len]; omega)) ?_
    exact done _ (by rw [app_len, app_len, one_len]; omega)
  walk_at "s"
  refine ited (fun _ => ?_) (fun _ => ?_)
  · walk_at "s"
    refine ⟨rest, rfl, fun ch => ?_⟩
    refine rd_addS (sz (m := 1000) (by rw [one_len]; omega)) ?_
    walk_at "s"
    rw [ej1]
    refine rd_slFrom hzl fun u2 h2 => ?_
    refine rd_addS (sz (m := 1000) (by rw [app_len, one_len]; omega)) ?_
    exact done _ (by rw [app_len, app_len, one_len]; omega)
  walk_at "s"
  refine ited (fun _ => ?_) (fun _ => ?_)
  · walk_at "s"
    refine rd_slTo hzl fun u1 h1 => ?_
    walk_at "s"
    refine rd_addS (sz (m := 1000) (by rw [nl_len]; omega)) ?_
    walk_at "s"
    refine rd_slFrom hzl fun u2 h2 => ?_
    refine rd_addS (sz (m := 1000) (by rw [app_len, nl_len]; omega)) ?_
    exact done _ (by rw [app_len, app_len, nl_len]; omega)
  walk_at "s"
  refine ited (fun _ => ?_) (fun _ => ?_)
  · walk_at "s"
    refine rd_ixStr (sz (m := 2) (by rw [two_len]; exact Nat.le_refl 2)) (by omega) (by rw [two_len]; omega) fun ch => ?_
    refine rd_addS (sz (m := 1000) (by rw [one_len]; omega)) ?_
    walk_at "s"
    refine rd_slFrom hzl fun u2 h2 => ?_
    refine rd_addS (sz (m := 1000) (by rw [app_len, one_len]; omega)) ?_
    exact done _ (by rw [app_len, app_len, one_len]; omega)
  walk_at "s"
  refine ited (fun _ => ?_) (fun _ => ?_)
  · walk_at "s"
    refine rd_ixStr (sz (m := 2) (by rw [two_len]; exact Nat.le_refl 2)) (by omega) (by rw [two_len]; omega) fun ch => ?_
    refine rd_addS (sz (m := 1000) (by rw [one_len]; omega)) ?_
    walk_at "s"
    rw [ej1]
    refine rd_slFrom hzl fun u2 h2 => ?_
    refine rd_addS (sz (m := 1000) (by rw [app_len, one_len]; omega)) ?_
    exact done _ (by rw [app_len, app_len, one_len]; omega)
  walk_at "s"
  refine ited (fun _ => ?_) (fun _ => ?_)
  · walk_at "s"
    refine rd_slTo hzl fun u1 h1 => ?_
    walk_at "s"
    rw [ej1]
    refine rd_slFrom hzl fun u2 h2 => ?_
    refine rd_addS (sz (m := 1000) (by omega)) ?_
    exact done _ (by rw [app_len]; omega)
  walk_at "s"
  refine ited (fun _ => ?_) (fun _ => ?_)
  · walk_at "s"
    refine rd_repS (by omega) (by omega) (by rw [two_len]; decide) fun u hu => ?_
    rw [two_len] at hu
    exact done _ (by omega)
  walk_at "s"
  refine ited (fun _ => ?_) (fun _ => ?_)
  · walk_at "s"
    refine rd_repS (by omega) (by omega) (by rw [op_len1]; decide) fun u1 h1 => ?_
    rw [op_len1] at h1
    walk_at "s"
    refine rd_repS (by omega) (by omega) (by rw [cl_len1]; decide) fun u2 h2 => ?_
    rw [cl_len1] at h2
    refine rd_addS (sz (m := 1000) (by omega)) ?_
    exact done _ (by rw [app_len]; omega)
  walk_at "s"
  refine ited (fun _ => ?_) (fun _ => ?_)
  · walk_at "s"
    refine rd_mkL (Led.start H) (sz (Nat.le_refl 7)) fun p H1 L1 _ => ?_
    walk_at "s"
    have L1' : Led H H1 [(p, .lst (([Str.ofString "", Str.ofString "(", Str.ofString ")", Str.ofString ")(", Str.ofString "())", Str.ofString "(()", Str.ofString " "] : List Str).map V.str))] := L1
    refine few_at (m := 3) (L1'.sq 0) (by omega) (by show _ < (7 : Int); omega) (by decide +kernel) fun u hu => ?_
    exact hq u (by omega) H1 L1.none
  walk_at "s"
  refine ited (fun _ => ?_) (fun _ => ?_)
  · walk_at "s"
    refine rd_mkL (Led.start H) (sz (Nat.le_refl 4)) fun p H1 L1 _ => ?_
    walk_at "s"
    have L1' : Led H H1 [(p, .lst (([Str.ofString " ", Str.ofString "\n", Str.ofString "  ", Str.ofString "\n\n"] : List Str).map V.str))] := L1
    refine few_at (m := 2) (L1'.sq 0) (by omega) (by show _ < (4 : Int); omega) (by decide +kernel) fun u hu => ?_
    refine rd_addS (sz (m := 1000) (by omega)) ?_
    exact hq _ (by rw [app_len]; omega) H1 L1.none
  walk_at "s"
  refine rd_revS ?_
  walk_at "s"
  rw [ej2]
  refine rd_slMid hzl fun u1 h1 => ⟨u1, rfl, sz (m := 200) (by omega), fun u2 h2 => ?_⟩
  refine rd_addS (sz (m := 1000) (by omega)) ?_
  walk_at "s"
  rw [ej2]
  refine rd_slFrom hzl fun u3 h3 => ?_
  refine rd_addS (sz (m := 1000) (by rw [app_len]; omega)) ?_
  exact done _ (by rw [app_len, app_len]; omega)
end Tr
namespace Tr
open PySem PySem.Spec PyProof.Rows L2
def sp_read (K : PySem.W.Frag) : Sp := fun vs H Q E => ∃ l : List Nat, vs = [.str (S l)] ∧ l.length ≤ 1000 ∧ (∀ g, readG l = some g → newG H Q g) ∧ (readG l = none → newE K H E "NoText")
theorem at_last {α : Type} {xs : List α} {x : α} : atI (xs ++ [x]) (-1) = some x := by
  unfold atI ixN
  rw [if_neg (by decide), if_pos (by rw [List.length_append]; simp; omega)]
  have e : (-1 + ((xs ++ [x]).length : Int)).toNat = xs.length := by
    rw [List.length_append]
    simp
    omega
  show (xs ++ [x])[(-1 + ((xs ++ [x]).length : Int)).toNat]? = _
  rw [e]
  simp
theorem ok_read {P : Program} {w : World} {K : PySem.W.Frag} {mg : Str → Option Value} {base : Heap} (T : Txt K mg) : Fn P w K mg base (L2.CX P w) 1 "read" ["text"] (sp_read K) := by
  refine fnOf1 T.f_read sc_read (fun vs H Q E h => ?_) (fun f cdv A outer s H vs Q E hr h => ⟨_, (pss_cons (ps_set (i := 1) sc_read.nd rfl (Or.inl rfl) (pe_lst (pa_cons (pe_lst pa_nil) pa_nil)))
      (pss_cons (ps_set (i := 2) sc_read.nd rfl (Or.inl rfl) pe_int)
      (pss_cons (ps_for (passes_of rfl) rfl (pi_str (pv 0)) (pg_name (i := 3) sc_read.nd rfl (Or.inl rfl)) (pss_one (ps_if (pt_cmpR (kEq K hr.units) (pv 3) pe_str (nomark _)) (pss_cons (ps_expr (kbm K PySem.F.plainAttrs_list PySem.F.slot_list_append PySem.F.type_list_append mt_append (pv 1) (pa_cons (pe_lst pa_nil) pa_nil)))
      (pss_one (ps_set (i := 2) sc_read.nd rfl (Or.inl rfl) (pe_op op_gAdd (pv 2) pe_int)))) (pss_one (ps_if (PW.pt (pw_and (pt_cmpR (kEq K hr.units) (pv 3) pe_str (nomark _)) (pw_and1 (pt_cmpR op_gGt (pe_callB (kLen K) (by rfl) T.m_len (by decide +kernel) (pa_cons (pv 1) pa_nil)) pe_int (nomark _))))) (pss_cons (ps_set (i := 4) sc_read.nd rfl (Or.inl rfl) (kbm0 K PySem.F.plainAttrs_list PySem.F.slot_list_pop PySem.F.type_list_pop mt_pop (pv 1)))
      (pss_one (ps_expr (kbm K PySem.F.plainAttrs_list PySem.F.slot_list_append PySem.F.type_list_append mt_append (pe_ix (kIx K) (pv 1) (pe_un op_gNeg pe_int) (fun _ _ => rfl)) (pa_cons (pe_callTy (kTuple K) (by rfl) T.m_tuple (by decide +kernel) (pa_cons (pv 4) pa_nil)) pa_nil))))) (pss_one (ps_rz T.e_NoText rfl (takes_of rfl rfl rfl rfl) rfl)))))))
      (pss_cons (ps_if (PW.pt (pw_or (pt_cmpR (kNe K hr.units) (pe_callB (kLen K) (by rfl) T.m_len (by decide +kernel) (pa_cons (pv 1) pa_nil)) pe_int (nomark _)) (pw_or (pt_cmpR op_gLt (pv 2) pe_int (nomark _)) (pw_or1 (pt_cmpR op_gGt (pv 2) (pe_gint T.c_MOST rfl) (nomark _)))))) (pss_one (ps_rz T.e_NoText rfl (takes_of rfl rfl rfl rfl) rfl)) pss_nil)
      (pss_one (ps_ret (pe_ix (kIx K) (pv 1) pe_int (fun _ _ => rfl)))))))), ?_⟩)
  · obtain ⟨l, rfl, _⟩ := h
    rfl
  obtain ⟨l, rfl, hl, hq, he⟩ := h
  try dsimp only [L2.cxOf]
  walk_at "s"
  refine rd_mkL (Led.start H) (sz (Nat.zero_le 0)) fun p0 H1 L1 _ => ?_
  walk_at "s"
  refine rd_mkL L1 (sz (Nat.le_refl 1)) fun ps H2 L2 _ => ?_
  walk_at "s"
  refine lp_str (fun i σ H' => ∃ (y z : Option V) (gs : List Gr) (fs : List (Addr × List V)), σ = [some (.str (S l)), some (.ref ps), some (.int ((l.take i).count 40 : Nat)), y, z] ∧ parseP [.nil] (l.take i) = some gs ∧ FAt H' gs fs ∧ Led H H' (stkL ps fs)) ⟨none, none, [.nil], [(p0, [])], rfl, rfl, ⟨_, [], rfl, rfl, rfl⟩, L2⟩ ?_ ?_
  · rintro i c σ H3 hi ⟨y, z, gs, fs, rfl, hp, hF, L3⟩
    have hc := S_at hi
    have hil := (List.getElem?_eq_some_iff.mp hc).1
    have hps := parseP_size _ _ _ hp (by simp)
    have hcl : (l.take i).count 40 ≤ 1000 := Nat.le_trans List.count_le_length (by rw [List.length_take]; omega)
    have hfl := hF.len
    have hsz0 : sizes [Gr.nil] + [Gr.nil].length = 1 := rfl
    rw [hsz0] at hps
    obtain ⟨hps, hne⟩ := hps
    have htk : l.take (i + 1) = l.take i ++ [c] := by rw [List.take_add_one, hc]; rfl
    have hpn : parseP [.nil] (l.take (i + 1)) = stepP gs c := by
      rw [htk, parseP_snoc, hp]
      rfl
    have hstk : SqL K H3 ps (fs.reverse.map fun f => V.ref f.1) := L3.sq 0
    walk_at "s"
    rw [lit_open]
    refine ited (fun c1 => ?_) (fun c1 => ?_)
    · have c1 := sign_eq.mp c1
      subst c1
      walk_at "s"
      refine rd_mkL L3 (sz (Nat.zero_le 0)) fun q H4 L4 t4 => ?_
      walk_at "s"
      refine rd_append L4 1 rfl (by rw [List.length_map, List.length_reverse]; exact szl (m := 10000) (by omega)) fun H5 L5 t5 => ?_
      walk_at "s"
      refine ⟨some (.str (S [40])), z, .nil :: gs, (q, []) :: fs, ?_, ?_, ⟨_, _, rfl, rfl, (hF.mono t4).mono t5⟩, ?_⟩
      · rw [htk, List.count_append]
        have e : (((l.take i).count 40 + List.count 40 [40] : Nat) : Int) = ((l.take i).count 40 : Nat) + 1 := by
          rw [show List.count 40 [40] = 1 from rfl]
          omega
        rw [e]
        rfl
      · rw [hpn]
        rfl
      · rw [stkL_cons]
        exact L5.perm (List.Perm.swap _ _ _)
    have c1' : c ≠ 40 := fun h => c1 (sign_eq.mpr h)
    walk_at "s"
    rw [lit_close]
    have bad : stepP gs c = none → E (.ref (He.ga K "NoText")) none H3 := fun h => he (readG_cut (i + 1) (hpn.trans h)) H3 L3.none
    refine ited ?ga ?gb
    case gb =>
      intro c2
      have c2' : c ≠ 41 := fun h => c2 (sign_eq.mpr h)
      walk_at "s"
      exact bad (by unfold stepP; rw [if_neg c1', if_neg c2'])
    intro c2
    have c2 := sign_eq.mp c2
    subst c2
    walk_at "s"
    rw [List.length_map, List.length_reverse, hfl]
    refine ited ?gc ?gd
    case gd =>
      intro c3
      walk_at "s"
      refine bad ?_
      unfold stepP
      rw [if_neg c1', if_pos rfl]
      match gs, hne, c3 with
      | [_], _, _ => rfl
      | _ :: _ :: _, _, c3 =>
        exfalso
        simp only [List.length_cons] at c3
        omega
    intro c3
    match gs, hp, hF, hps, hpn, bad, hfl with
    | [], _, _, _, _, _, _ => exact absurd c3 (by simp)
    | [_], _, _, _, _, _, _ => exact absurd c3 (by simp)
    | b :: t :: gs, hp, hF, hps, hpn, bad, hfl =>
      obtain ⟨f, _, rfl, hb, f2, rest, rfl, ht, hR⟩ := hF
      simp only [sizes, List.map_cons, List.sum_cons, List.length_cons] at hps
      have tl := ht.len
      have tz := t.len_le
      rw [stkL_cons] at L3
      walk_at "s"
      refine rd_pop L3 0 rfl fun H4 L4 t4 => ?_
      have L4' : Led H H4 ((ps, HO.lst ((rest.reverse.map fun f => V.ref f.1) ++ [.ref f2.1])) :: (f.1, HO.lst f.2) :: (f2.1, HO.lst f2.2) :: rest.map fun f => (f.1, HO.lst f.2)) := L4.to (by
        rw [List.reverse_cons, List.map_append]
        rfl)
      clear L4
      walk_at "s"
      refine rd_ixL (L4'.sq 0) at_last ?_
      refine rd_ty (L4'.sq 2) ?_
      walk_at "s"
      refine rd_tuple L4' (L4'.sq 1) fun q H5 L5 t5 => ?_
      walk_at "s"
      refine rd_append L5 3 rfl (szl (m := 10000) (by omega)) fun H6 L6 t6 => ?_
      have tt := (t4.trans t5).trans t6
      have hq6 : H6 q = some (.tup f.2) := t6 _ _ (L5.get 0)
      refine ⟨some (.str (S [41])), some (.ref f.1), t.app (.cons b .nil) :: gs, (f2.1, f2.2 ++ [.ref q]) :: rest, ?_, ?_, ⟨_, _, rfl, (ht.mono tt).app (GAt.one hq6 (hb.mono tt)), hR.mono tt⟩, ?_⟩
      · rw [htk, List.count_append]
        rfl
      · rw [hpn]
        rfl
      · rw [stkL_cons]
        exact L6.sub (List.Sublist.cons _ (List.Sublist.cons_cons _ (List.Sublist.cons _ (List.Sublist.refl _))))
  · rintro σ H3 ⟨y, z, gs, fs, rfl, hp, hF, L3⟩
    have ecs : (S l).cps.size = l.length := by simp [S]
    rw [ecs, List.take_length] at hp
    have hfl := hF.len
    have hps := (parseP_size _ _ _ hp (by simp)).2
    have hstk : SqL K H3 ps (fs.reverse.map fun f => V.ref f.1) := L3.sq 0
    have bad : readG l = none → E (.ref (He.ga K "NoText")) none H3 := fun h => he h H3 L3.none
    rw [ecs, List.take_length]
    walk_at "s"
    rw [List.length_map, List.length_reverse, hfl]
    match gs, hp, hF, hfl, hps with
    | [], _, _, _, hps => exact absurd rfl hps
    | a :: b :: gs, hp, _, _, _ =>
      have hbad : readG l = none := by
        unfold readG
        rw [hp]
      refine itedN (fun c => ?_) (fun c => ?_)
      · walk_at "s"
        exact bad hbad
      · exfalso
        simp only [List.length_cons] at c
        omega
    | [g], hp, hF, hfl, _ =>
      have hrd : readG l = if 1 ≤ l.count 40 ∧ l.count 40 ≤ 60 then some g else none := by
        unfold readG
        rw [hp]
      refine itedN (fun c => absurd rfl c) (fun _ => ?_)
      walk_at "s"
      refine ited (fun c => ?_) (fun c => ?_)
      · walk_at "s"
        exact bad (by rw [hrd, if_neg (by omega)])
      walk_at "s"
      refine ited (fun c2 => ?_) (fun c2 => ?_)
      · walk_at "s"
        exact bad (by rw [hrd, if_neg (by omega)])
      walk_at "s"
      obtain ⟨f, _, rfl, hg, hR⟩ := hF
      cases hR
      have L4 : Led H H3 [(ps, HO.lst [.ref f.1]), (f.1, HO.lst f.2)] := L3
      refine rd_ixL (L4.sq 0) (atI_nat (j := 0) rfl) ?_
      exact hq g (by rw [hrd, if_pos (by omega)]) f.1 f.2 H3 L4.tail hg
end Tr
namespace Tr
open PySem PySem.Spec PyProof.Rows L2
def sp_tree (d : Nat) (_ : PySem.W.Frag) : Sp := fun vs H Q _ => ∃ (a : Addr) (ys : List V) (b : Gr), vs = [.ref a] ∧ H a = some (.tup ys) ∧ GAt H b ys ∧ b.depth < d ∧ newV H Q (.bl true)
def sp_law_is_tree (K : PySem.W.Frag) : Sp := sp_tree 69 K
theorem GAt.at {H : Hp} : ∀ {g : Gr} {xs : List V} {i : Nat} {x : V}, GAt H g xs → xs[i]? = some x → ∃ (a : Addr) (ys : List V) (b : Gr), x = .ref a ∧ H a = some (.tup ys) ∧ GAt H b ys ∧ b.depth + 1 ≤ g.depth ∧ b.size + 1 ≤ g.size
  | .nil, _, i, x, h, hx => by
    cases h
    simp at hx
  | .cons b r, _, 0, x, ⟨a, ys, zs, e, h, h1, h2⟩, hx => by
    subst e
    cases hx
    exact ⟨a, ys, b, rfl, h, h1, by simp only [Gr.depth]; omega, by simp only [Gr.size]; omega⟩
  | .cons b r, _, i + 1, x, ⟨a, ys, zs, e, h, h1, h2⟩, hx => by
    subst e
    obtain ⟨a2, ys2, b2, q1, q2, q3, q4, q5⟩ := GAt.at h2 (i := i) (by simpa using hx)
    exact ⟨a2, ys2, b2, q1, q2, q3, by simp only [Gr.depth]; omega, by simp only [Gr.size]; omega⟩
theorem ok_tree_at {P : Program} {w : World} {K : PySem.W.Frag} {mg : Str → Option Value} {base : Heap} (T : Txt K mg) : ∀ d : Nat, Fn P w K mg base (L2.CX P w) (d + 1) "_law_is_tree" ["found"] (sp_tree d K)
  | 0 => fnOf1 T.f_law_is_tree sc_law_is_tree (fun vs H Q E h => by obtain ⟨a, ys, b, rfl, _⟩ := h; rfl) (fun f cdv A outer s H vs Q E hr h => by
    obtain ⟨a, ys, b, _, _, _, hd, _⟩ := h
    exact absurd hd (Nat.not_lt_zero _))
  | d + 1 => by
    have IH := ok_tree_at (P := P) (w := w) (base := base) T d
    refine fnOf1 T.f_law_is_tree sc_law_is_tree (fun vs H Q E h => ?_) (fun f cdv A outer s H vs Q E hr h => ⟨_, (pss_cons (ps_if (pt_not (pt_val (pe_callB (kIsi K) (by rfl) T.m_isinstance (by decide +kernel) (pa_cons (pv 0) (pa_cons (pe_bltn (v := .ty "tuple") rfl T.m_tuple (by decide +kernel) rfl) pa_nil))))) (pss_one (ps_ret pe_bl)) pss_nil)
      (pss_cons (ps_for (passes_of rfl) rfl (kiTup K (pv 0)) (pg_name (i := 1) sc_law_is_tree.nd rfl (Or.inl rfl)) (pss_one (ps_if (pt_not (pt_val (pe_callF IH hr rfl passL (pa_cons (pv 1) pa_nil)))) (pss_one (ps_ret pe_bl)) pss_nil)))
      (pss_one (ps_ret pe_bl)))), ?_⟩)
    · obtain ⟨a, ys, b, rfl, _⟩ := h
      rfl
    obtain ⟨a, ys, b, rfl, ha, hb, hd, hq⟩ := h
    try dsimp only [L2.cxOf]
    have hT : SqT K H a ys := SqT.of ha
    walk_at "s"
    refine rd_isi (t := .type "tuple") (b := true) (.base (.tup ha)) (kit_ty (by decide +kernel)) ?_
    walk_at "s"
    refine rd_itT hT ?_
    refine lp_tup (fun i σ H' => ∃ y, σ = [some (.ref a), y] ∧ Led H H' []) ⟨none, rfl, Led.start H⟩ (fun i σ H' _ ⟨_, _, L⟩ => SqT.of (L.same _ _ ha)) ?_ ?_
    · rintro i x σ H' hx ⟨y, rfl, L⟩
      obtain ⟨a2, ys2, b2, rfl, q2, q3, q4, q5⟩ := hb.at hx
      walk_at "s"
      refine ⟨a2, ys2, b2, rfl, L.same _ _ q2, q3.mono L.ts, by omega, fun H2 L2 => ?_⟩
      walk_at "s"
      exact ⟨_, rfl, L.call L2⟩
    · rintro σ H' ⟨y, rfl, L⟩
      walk_at "s"
      exact hq _ L
theorem ok_law_is_tree {P : Program} {w : World} {K : PySem.W.Frag} {mg : Str → Option Value} {base : Heap} (T : Txt K mg) : Fn P w K mg base (L2.CX P w) 70 "_law_is_tree" ["found"] (sp_law_is_tree K) := (ok_tree_at T 69).mono (by decide)
end Tr
namespace Tr
open PySem PySem.Spec PyProof.Rows L2
def sp_law_is_grove (K : PySem.W.Frag) : Sp := fun vs H Q _ => ∃ a b xs ys g, vs = [.ref a, .ref b] ∧ H a = some (.lst xs) ∧ GAt H g xs ∧ SqL K H b ys ∧ GAt H g ys ∧ g.size ≤ 62 ∧ newV H Q (.bl true)
theorem ok_law_is_grove {P : Program} {w : World} {K : PySem.W.Frag} {mg : Str → Option Value} {base : Heap} (T : Txt K mg) : Fn P w K mg base (L2.CX P w) 71 "_law_is_grove" ["found", "due"] (sp_law_is_grove K) := by
  refine fnOf1 T.f_law_is_grove sc_law_is_grove (fun vs H Q E h => ?_) (fun f cdv A outer s H vs Q E hr h => ⟨_, (pss_cons (ps_if (pt_not (pt_val (pe_callB (kIsi K) (by rfl) T.m_isinstance (by decide +kernel) (pa_cons (pv 0) (pa_cons (pe_bltn (v := .ty "list") rfl T.m_list (by decide +kernel) rfl) pa_nil))))) (pss_one (ps_ret pe_bl)) pss_nil)
      (pss_cons (ps_for (passes_of rfl) rfl (kiList K (pv 0)) (pg_name (i := 2) sc_law_is_grove.nd rfl (Or.inl rfl)) (pss_one (ps_if (pt_not (pt_val (pe_callF (ok_law_is_tree T) (hr.mono (by decide)) rfl passL (pa_cons (pv 2) pa_nil)))) (pss_one (ps_ret pe_bl)) pss_nil)))
      (pss_one (ps_ret (pe_cmpR (kEq K hr.units) (pv 0) (pv 1) (nomark _)))))), ?_⟩)
  · obtain ⟨a, b, xs, ys, g, rfl, _⟩ := h
    rfl
  obtain ⟨a, b, xs, ys, g, rfl, ha, hg, hb, hgb, hz, hq⟩ := h
  try dsimp only [L2.cxOf]
  have hS : SqL K H a xs := SqL.of ha
  walk_at "s"
  refine rd_isi (t := .type "list") (b := true) (.base (.lst ha)) (kit_ty (by decide +kernel)) ?_
  walk_at "s"
  refine lp_list (xs := xs) (fun i σ H' => ∃ y, σ = [some (.ref a), some (.ref b), y] ∧ Led H H' []) ⟨none, rfl, Led.start H⟩ (fun i σ H' _ ⟨_, _, L⟩ => L.seq hS) ?_ ?_
  · rintro i x σ H' hx ⟨y, rfl, L⟩
    obtain ⟨a2, ys2, b2, rfl, q2, q3, q4, q5⟩ := hg.at hx
    have hd := g.depth_le
    walk_at "s"
    refine ⟨a2, ys2, b2, rfl, L.same _ _ q2, q3.mono L.ts, by omega, fun H2 L2 => ?_⟩
    walk_at "s"
    exact ⟨_, rfl, L.call L2⟩
  · rintro σ H' ⟨y, rfl, L⟩
    walk_at "s"
    exact rd_eqG (L.seq hS) (hg.mono L.ts) (L.seq hb) (hgb.mono L.ts) hz (hq _ L)
end Tr
namespace Tr
open PySem PySem.Spec PyProof.Rows L2
def sp_text (d : Nat) (_ : PySem.W.Frag) : Sp := fun vs H Q _ => ∃ (a : Addr) (ys : List V) (b : Gr), vs = [.ref a] ∧ H a = some (.tup ys) ∧ GAt H b ys ∧ b.depth < d ∧ b.size ≤ 1000 ∧ newV H Q (.str (S (40 :: (b.txt ++ [41]))))
def sp_law_text (K : PySem.W.Frag) : Sp := sp_text 69 K
/-- the texts of the first trees -/
theorem GAt.atT {H : Hp} : ∀ {g : Gr} {xs : List V} {i : Nat} {x : V}, GAt H g xs → xs[i]? = some x → ∃ (a : Addr) (ys : List V) (b : Gr), x = .ref a ∧ H a = some (.tup ys) ∧ GAt H b ys ∧ b.depth + 1 ≤ g.depth ∧ b.size + 1 ≤ g.size ∧ (g.take (i + 1)).txt = (g.take i).txt ++ 40 :: (b.txt ++ [41]) ∧ (g.take i).size ≤ g.size
  | .nil, _, i, x, h, hx => by
    cases h
    simp at hx
  | .cons b r, _, 0, x, ⟨a, ys, zs, e, h, h1, h2⟩, hx => by
    subst e
    cases hx
    exact ⟨a, ys, b, rfl, h, h1, by simp only [Gr.depth]; omega, by simp only [Gr.size]; omega, by simp [Gr.take, Gr.txt], by simp [Gr.take, Gr.size]⟩
  | .cons b r, _, i + 1, x, ⟨a, ys, zs, e, h, h1, h2⟩, hx => by
    subst e
    obtain ⟨a2, ys2, b2, q1, q2, q3, q4, q5, q6, q7⟩ := GAt.atT h2 (i := i) (by simpa using hx)
    refine ⟨a2, ys2, b2, q1, q2, q3, by simp only [Gr.depth]; omega, by simp only [Gr.size]; omega, ?_, by simp only [Gr.take, Gr.size]; omega⟩
    simp only [Gr.take, Gr.txt] at q6 ⊢
    rw [q6]
    simp
theorem Gr.take_allT : ∀ g : Gr, g.take g.len = g
  | .nil => rfl
  | .cons b r => by simp only [Gr.len, Gr.take, take_allT r]
theorem ok_text_at {P : Program} {w : World} {K : PySem.W.Frag} {mg : Str → Option Value} {base : Heap} (T : Txt K mg) : ∀ d : Nat, Fn P w K mg base (L2.CX P w) (d + 1) "_law_text" ["tree"] (sp_text d K)
  | 0 => fnOf1 T.f_law_text sc_law_text (fun vs H Q E h => by obtain ⟨a, ys, b, rfl, _⟩ := h; rfl) (fun f cdv A outer s H vs Q E hr h => by
    obtain ⟨a, ys, b, _, _, _, hd, _⟩ := h
    exact absurd hd (Nat.not_lt_zero _))
  | d + 1 => by
    have IH := ok_text_at (P := P) (w := w) (base := base) T d
    refine fnOf1 T.f_law_text sc_law_text (fun vs H Q E h => ?_) (fun f cdv A outer s H vs Q E hr h => ⟨_, (pss_cons (ps_set (i := 1) sc_law_text.nd rfl (Or.inl rfl) pe_str)
      (pss_cons (ps_for (passes_of rfl) rfl (kiTup K (pv 0)) (pg_name (i := 2) sc_law_text.nd rfl (Or.inl rfl)) (pss_one (ps_set (i := 1) sc_law_text.nd rfl (Or.inl rfl) (pe_op op_gAdd (pv 1) (pe_callF IH hr rfl passL (pa_cons (pv 2) pa_nil))))))
      (pss_one (ps_ret (pe_op op_gAdd (pv 1) pe_str))))), ?_⟩)
    · obtain ⟨a, ys, b, rfl, _⟩ := h
      rfl
    obtain ⟨a, ys, b, rfl, ha, hb, hd, hz, hq⟩ := h
    try dsimp only [L2.cxOf]
    have hT : SqT K H a ys := SqT.of ha
    walk_at "s"
    refine rd_itT hT ?_
    refine lp_tup (fun i σ H' => ∃ y, σ = [some (.ref a), some (.str (S (40 :: (b.take i).txt))), y] ∧ Led H H' []) ⟨none, by rw [show (b.take 0).txt = [] by cases b <;> rfl, ← lit_open]; rfl, Led.start H⟩ (fun i σ H' _ ⟨_, _, L⟩ => SqT.of (L.same _ _ ha)) ?_ ?_
    · rintro i x σ H' hx ⟨y, rfl, L⟩
      obtain ⟨a2, ys2, b2, rfl, q2, q3, q4, q5, q6, q7⟩ := hb.atT hx
      have t1 := txt_len (b.take i)
      have t2 := txt_len b2
      walk_at "s"
      refine ⟨a2, ys2, b2, rfl, L.same _ _ q2, q3.mono L.ts, by omega, by omega, fun H2 L2 => ?_⟩
      refine rd_addS (by
        rw [S_len, S_len]
        simp only [List.length_cons, List.length_append, List.length_nil]
        exact sz (m := 10000) (by omega)) ?_
      rw [S_app]
      refine ⟨some (.ref a2), ?_, L.call L2⟩
      rw [q6]
      rfl
    · rintro σ H' ⟨y, rfl, L⟩
      rw [hb.len, Gr.take_allT]
      have t1 := txt_len b
      walk_at "s"
      refine rd_addS (by
        rw [S_len]
        exact sz (m := 10000) (by show (40 :: b.txt).length + 1 ≤ _; rw [List.length_cons]; omega)) ?_
      rw [lit_close, S_app]
      exact hq _ L
theorem ok_law_text {P : Program} {w : World} {K : PySem.W.Frag} {mg : Str → Option Value} {base : Heap} (T : Txt K mg) : Fn P w K mg base (L2.CX P w) 70 "_law_text" ["tree"] (sp_law_text K) := (ok_text_at T 69).mono (by decide)
end Tr
namespace Tr
open PySem PySem.Spec PyProof.Rows L2
def sp_law (K : PySem.W.Frag) : Sp := fun vs H Q _ => ∃ (a : Addr) (ns : List Int), vs = [.ref a] ∧ SqL K H a (ns.map V.int) ∧ ns.length ≤ 63 ∧ ∀ H', Q (.bl true) H'
def marksT : List Bool := [true, true, false, false, false, false]
theorem readG_size {l : List Nat} {g : Gr} (h : readG l = some g) : g.size ≤ 60 := by
  unfold readG at h
  split at h
  · rename_i g' hp
    split at h
    · rename_i hc
      cases h
      have := parseP_one hp
      omega
    · cases h
  · cases h
theorem ok_law {P : Program} {w : World} {K : PySem.W.Frag} {mg : Str → Option Value} {base : Heap} (T : Txt K mg) : Fn P w K mg base (L2.CX P w) 72 "law" ["script"] (sp_law K) := by
  refine fnOf1 T.f_law sc_law (fun vs H Q E h => ?_) (fun f cdv A outer s H vs Q E hr h => ⟨_, (pss_cons (ps_set (i := 1) sc_law.nd rfl (Or.inl rfl) (pe_callF (ok_law_grove_by T) (hr.mono (by decide)) rfl passL (pa_cons (pv 0) (pa_cons pe_int (pa_cons (pe_callF (ok_law_nodes T) (hr.mono (by decide)) rfl passL (pa_cons (pv 0) pa_nil)) (pa_cons (pe_ix (kIx K) (pe_lst (pa_cons pe_int (pa_cons pe_int (pa_cons pe_int pa_nil)))) (pe_op op_gMod (pe_callF (ok_law_cell_at T) (hr.mono (by decide)) rfl passL (pa_cons (pv 0) (pa_cons pe_int pa_nil))) pe_int) (fun _ _ => rfl)) pa_nil))))))
      (pss_cons (ps_set (i := 2) sc_law.nd rfl (Or.inl rfl) (pe_join pe_str (pe_lc (own := [("tree", 7)]) (g := gName 7) rfl sc_law.nd (kiList K (pv 1)) (blkOk_by (N := n_law) (sc := defScope s_law) (by decide +kernel)) (fun _ _ _ _ _ => pg_name (i := 7) sc_law.nd rfl (Or.inl rfl)) (fun _ _ _ _ _ => pts_nil) (fun _ _ _ _ _ => (pe_callF (ok_law_text T) (hr.mono (by decide)) rfl passL (pa_cons (pv 7) pa_nil))))))
      (pss_cons (ps_if (pt_cmpR op_gGt (pe_op op_gMod (pe_callF (ok_law_cell_at T) (hr.mono (by decide)) rfl passL (pa_cons (pv 0) (pa_cons pe_int pa_nil))) pe_int) pe_int (nomark _)) (pss_one (ps_set (i := 2) sc_law.nd rfl (Or.inl rfl) (pe_callF (ok_law_spoiled T) (hr.mono (by decide)) rfl passL (pa_cons (pv 2) (pa_cons (pe_op op_gMod (pe_op op_gDiv (pe_callF (ok_law_cell_at T) (hr.mono (by decide)) rfl passL (pa_cons (pv 0) (pa_cons pe_int pa_nil))) pe_int) (pe_op op_gPow pe_int pe_int)) pa_nil))))) pss_nil)
      (pss_cons (ps_set (i := 3) sc_law.nd rfl (Or.inl rfl) (pe_callF (ok_law_due T) (hr.mono (by decide)) rfl passL (pa_cons (pv 2) pa_nil)))
      (pss_cons (ps_set (i := 4) sc_law.nd rfl (Or.inl rfl) pe_non)
      (pss_cons (ps_set (i := 5) sc_law.nd rfl (Or.inl rfl) (pe_lst pa_nil))
      (pss_cons (ps_try_as (i := 6) (c := .ref (He.ga K "TurnError")) rfl rfl sc_law.nd rfl rfl ⟨rfl, by decide, Or.inl T.e_TurnError.gl⟩ (Wout := fun cls d _ H => E cls d H) (takes_of rfl rfl rfl rfl) (tb := fun W => (tAsg (tCallG (sp_read K) (WE W) (tCons (tVar 2) tNil)) (gName 4))) (ts := fun a cls d => (tSeq (tAsg (tLst (tCons (tCB (gIsE K a cls d) (tCons (tVar 6) (tCons (tC (.ref (He.ga K "NoText"))) tNil))) (tCons (tCB (gIsE K a cls d) (tCons (tVar 6) (tCons (tC (.ty "ValueError")) tNil))) (tCons (tCB (gIsE K a cls d) (tCons (tVar 6) (tCons (tC (.ref (He.ga K "BadRow"))) tNil))) tNil)))) (gName 5)) (tAsg (tOp gAdd (tVar 5) (tLst (tCons (tCB (gIsE K a cls d) (tCons (tVar 6) (tCons (tC (.ref (He.ga K "NoTurn"))) tNil))) (tCons (tCB (gIsE K a cls d) (tCons (tVar 6) (tCons (tC (.ref (He.ga K "NoWord"))) tNil))) (tCons (tCB (gIsE K a cls d) (tCons (tVar 6) (tCons (tC (.ref (He.ga K "NoSuch"))) tNil))) tNil))))) (gName 5)))) (fun W pn xe tk _ => (pss_one (ps_set (i := 4) sc_law.nd rfl (Or.inl rfl) (pe_callG (ok_read T) (hr.mono (by decide)) rfl (fun σ => passAt tk σ) (pa_cons (pv 2) pa_nil))))) (fun a oe cls d pn hz hf => (pss_cons (ps_set (i := 5) sc_law.nd rfl (Or.inl rfl) (pe_lst (pa_cons (pe_callB (cr_isE hz hf) (by rfl) T.m_isinstance (by decide +kernel) (pa_cons (pv 6) (pa_cons (pe_glob rfl T.e_NoText.gl rfl) pa_nil))) (pa_cons (pe_callB (cr_isE hz hf) (by rfl) T.m_isinstance (by decide +kernel) (pa_cons (pv 6) (pa_cons (pe_bltn (v := .ty "ValueError") rfl T.m_ValueError (by decide +kernel) rfl) pa_nil))) (pa_cons (pe_callB (cr_isE hz hf) (by rfl) T.m_isinstance (by decide +kernel) (pa_cons (pv 6) (pa_cons (pe_glob rfl T.e_BadRow.gl rfl) pa_nil))) pa_nil)))))
      (pss_one (ps_set (i := 5) sc_law.nd rfl (Or.inl rfl) (pe_op op_gAdd (pv 5) (pe_lst (pa_cons (pe_callB (cr_isE hz hf) (by rfl) T.m_isinstance (by decide +kernel) (pa_cons (pv 6) (pa_cons (pe_glob rfl T.e_NoTurn.gl rfl) pa_nil))) (pa_cons (pe_callB (cr_isE hz hf) (by rfl) T.m_isinstance (by decide +kernel) (pa_cons (pv 6) (pa_cons (pe_glob rfl T.e_NoWord.gl rfl) pa_nil))) (pa_cons (pe_callB (cr_isE hz hf) (by rfl) T.m_isinstance (by decide +kernel) (pa_cons (pv 6) (pa_cons (pe_glob rfl T.e_NoSuch.gl rfl) pa_nil))) pa_nil))))))))))
      (pss_cons (ps_if (pt_cmpR op_gIsN (pv 3) pe_non (nomark _)) (pss_one (ps_ret (pe_cmpR (kEq K hr.units) (pv 5) (pe_lst (pa_cons pe_bl (pa_cons pe_bl (pa_cons pe_bl (pa_cons pe_bl (pa_cons pe_bl (pa_cons pe_bl pa_nil))))))) (nomark _)))) pss_nil)
      (pss_one (ps_ret (pe_and (pe_cmpR (kEq K hr.units) (pv 5) (pe_lst pa_nil) (nomark _)) (pe_one (pe_callF (ok_law_is_grove T) (hr.mono (by decide)) rfl passL (pa_cons (pv 4) (pa_cons (pv 3) pa_nil))))))))))))))), ?_⟩)
  · obtain ⟨a, ns, rfl, _⟩ := h
    rfl
  obtain ⟨a, ns, rfl, hS, hl, hq⟩ := h
  try dsimp only [L2.cxOf]
  walk_at "s"
  refine ⟨a, ns, rfl, hS, ?_⟩
  walk_at "s"
  refine rd_mkL (Led.start H) (sz (Nat.le_refl 3)) fun p1 H1 L1 t1 => ?_
  walk_at "s"
  refine ⟨a, ns, 1, rfl, L1.seq hS, ?_⟩
  walk_at "s"
  obtain ⟨r, hr, hr1⟩ := roots_at (cell ns 1)
  refine rd_ixL (L1.sq 0) hr ?_
  walk_at "s"
  refine ⟨a, ns, 3, nodesOf ns, r, rfl, L1.seq hS, (nodesOf_le ns).1, (nodesOf_le ns).2, hr1, fun pg xs g H2 M2 g2 hgs => ?_⟩
  have hz : g.size ≤ 60 := by rw [hgs]; exact (nodesOf_le ns).2
  have hz1 : 1 ≤ g.size := by rw [hgs]; exact (nodesOf_le ns).1
  have Lg := (L1.call M2).only
  have htl := txt_len g
  have hgl := g.len_le
  walk_at "s"
  refine rd_m1 ?_
  walk_at "s"
  refine ⟨⟨_, rfl⟩, ?_⟩
  walk_at "s"
  refine lc_lst (xs := xs) Lg fun D H5 L5 t5 => ⟨fun i H' => Led H H' [(D, .lst (((texts g).take i).map fun t => V.str (S t))), (pg, .lst xs)] ∧ GAt H' g xs, ⟨L5, g2.mono t5⟩, fun i H' _ ⟨L, _⟩ => L.sq 1, ?_, ?_⟩
  · rintro i x H6 hx ⟨L6, g6⟩
    obtain ⟨a2, ys2, b2, rfl, q2, q3, q4, q5, q6⟩ := g6.atX hx
    have hd := g.depth_le
    have hxl := (List.getElem?_eq_some_iff.mp hx).1
    have hgl6 := g6.len
    walk_at "s"
    refine ⟨rfl, ?_⟩
    walk_at "s"
    refine ⟨a2, ys2, b2, rfl, q2, q3, by omega, by omega, fun H7 M7 => ?_⟩
    have L7 := L6.call M7
    refine rd_put1 L7 0 rfl (by rw [List.length_map, List.length_take]; exact szl (m := 1000) (by omega)) fun H8 L8 t8 => ⟨L8.to ?_, (g6.mono M7.ts).mono t8⟩
    rw [List.take_add_one, q6, List.map_append]
    rfl
  rintro H6 ⟨L6, g6⟩
  have ex : (texts g).take xs.length = texts g := by rw [g6.len, ← texts_len, List.take_length]
  rw [ex] at L6
  have L6' : Led H H6 [(D, .lst (((texts g).map S).map V.str)), (pg, .lst xs)] := L6.to (by rw [List.map_map]; rfl)
  refine ⟨_, D, (texts g).map S, rfl, rfl, .inl (L6'.sq 0), ?_, ?_⟩
  · rw [List.map_map, show ((fun x : Str => x.length) ∘ S) = fun t => (S t).length from rfl, texts_sum, List.length_map, texts_len]
    have : (Str.ofString "").length = 0 := by rw [lit_empty]; rfl
    rw [this]
    omega
  rw [lit_empty, join_S, texts_flat]
  have L7 : Led H H6 [] := L6'.none
  walk_at "s"
  refine ⟨a, ns, 2, rfl, L7.seq hS, ?_⟩
  walk_at "s"
  refine if_two (fun σ H' => ∃ l : List Nat, σ = [some (.ref a), some (.ref pg), some (.str (S l)), none, none, none, none, none] ∧ l.length ≤ 124 ∧ Led H H' []) ?g0 (fun nx' hN c => ?g1) (fun nx' hN c => ?g2)
  case g2 =>
    walk_at "s"
    exact hN _ _ ⟨g.txt, rfl, by omega, L7⟩
  case g1 =>
    walk_at "s"
    refine ⟨a, ns, 2, rfl, L7.seq hS, ?_⟩
    walk_at "s"
    refine rd_pow9 ?_
    walk_at "s"
    refine ⟨S g.txt, _, rfl, by rw [S_len]; omega, fun u hu H8 M8 => ?_⟩
    obtain ⟨l, rfl⟩ := S_of u
    exact hN _ _ ⟨l, rfl, hu, L7.call M8⟩
  case g0 =>
  rintro σ H7 ⟨l, rfl, hll, L8⟩
  walk_at "s"
  cases hrd : readG l with
  | some g' =>
    have hz' := readG_size hrd
    refine ⟨l, rfl, hll, fun g3 h3 => ?_, fun h3 => by rw [hrd] at h3; cases h3⟩
    rw [hrd] at h3
    cases h3
    intro pd ys H9 M9 gd
    have L9 := L8.call M9
    walk_at "s"
    refine rd_mkL L9 (sz (Nat.zero_le 0)) fun pm H10 L10 t10 => ?_
    have gd10 := gd.mono t10
    walk_at "s"
    refine ⟨l, rfl, by omega, fun g3 h3 => ?_, fun h3 => by rw [hrd] at h3; cases h3⟩
    rw [hrd] at h3
    cases h3
    intro pf zs H11 M11 gf
    have L11 := L10.call M11
    have gd11 := gd10.mono M11.ts
    walk_at "s"
    rw [decide_eq_false (fun h => by cases h)]
    walk_at "s"
    refine rd_mkL L11 (sz (Nat.zero_le 0)) fun p12 H12 L12 t12 => ?_
    refine rd_eqBs [] [] (L12.sq 2) (L12.sq 0) ?_
    rw [decide_eq_true rfl]
    walk_at "s"
    exact ⟨pf, pd, zs, ys, g', rfl, L12.get 1, gf.mono t12, L12.sq 3, gd11.mono t12, by omega, fun H13 _ => hq H13⟩
  | none =>
    refine ⟨l, rfl, hll, (fun g3 h3 => by rw [hrd] at h3; cases h3), fun _ => fun H9 M9 => ?_⟩
    have L9 := L8.call M9
    walk_at "s"
    refine rd_mkL L9 (sz (Nat.zero_le 0)) fun pm H10 L10 t10 => ?_
    walk_at "s"
    refine ⟨l, rfl, by omega, (fun g3 h3 => by rw [hrd] at h3; cases h3), fun _ => fun H11 M11 => ?_⟩
    have L11 := L10.call M11
    refine ⟨true, T.t_NoText, fun _ e he' => ?_, fun z => nomatch z⟩
    walk_at "s"
    refine rd_isE T.x_NoText T.i_NoText_NoText ?_
    walk_at "s"
    refine rd_isET T.x_NoText T.v_NoText ?_
    walk_at "s"
    refine rd_isE T.x_NoText T.i_NoText_BadRow ?_
    walk_at "s"
    refine rd_mkL L11 (sz (Nat.le_refl 3)) fun p3 H12 L12 _ => ?_
    walk_at "s"
    refine rd_isE T.x_NoText T.i_NoText_NoTurn ?_
    walk_at "s"
    refine rd_isE T.x_NoText T.i_NoText_NoWord ?_
    walk_at "s"
    refine rd_isE T.x_NoText T.i_NoText_NoSuch ?_
    walk_at "s"
    refine rd_mkL L12 (sz (Nat.le_refl 3)) fun p4 H13 L13 _ => ?_
    refine rd_addL L13 (L13.get 1) (L13.get 0) (sz (Nat.le_refl 6)) fun p5 H14 L14 _ => ?_
    walk_at "s"
    rw [decide_eq_true rfl]
    walk_at "s"
    refine rd_mkL L14 (sz (Nat.le_refl 6)) fun p6 H15 L15 _ => ?_
    refine rd_eqBs marksT marksT (L15.sq 1) (L15.sq 0) ?_
    rw [decide_eq_true rfl]
    exact hq _
end Tr
namespace Tr
open PySem PySem.Spec PyProof.Rows L2
def sp_word (d : Nat) (_ : PySem.W.Frag) : Sp := fun vs H Q _ => ∃ (a : Addr) (ys : List V) (b : Gr), vs = [.ref a] ∧ H a = some (.tup ys) ∧ GAt H b ys ∧ b.depth < d ∧ b.size ≤ 1000 ∧ newL H Q (((b.len : Int) :: b.word).map V.int)
def sp_law_word (K : PySem.W.Frag) : Sp := sp_word 69 K
/-- the words of the first trees -/
theorem GAt.atW {H : Hp} : ∀ {g : Gr} {xs : List V} {i : Nat} {x : V}, GAt H g xs → xs[i]? = some x → ∃ (a : Addr) (ys : List V) (b : Gr), x = .ref a ∧ H a = some (.tup ys) ∧ GAt H b ys ∧ b.depth + 1 ≤ g.depth ∧ b.size + 1 ≤ g.size ∧ (g.take (i + 1)).word = (g.take i).word ++ (b.len : Int) :: b.word ∧ (g.take i).size ≤ g.size
  | .nil, _, i, x, h, hx => by
    cases h
    simp at hx
  | .cons b r, _, 0, x, ⟨a, ys, zs, e, h, h1, h2⟩, hx => by
    subst e
    cases hx
    exact ⟨a, ys, b, rfl, h, h1, by simp only [Gr.depth]; omega, by simp only [Gr.size]; omega, by simp [Gr.take, Gr.word], by simp [Gr.take, Gr.size]⟩
  | .cons b r, _, i + 1, x, ⟨a, ys, zs, e, h, h1, h2⟩, hx => by
    subst e
    obtain ⟨a2, ys2, b2, q1, q2, q3, q4, q5, q6, q7⟩ := GAt.atW h2 (i := i) (by simpa using hx)
    refine ⟨a2, ys2, b2, q1, q2, q3, by simp only [Gr.depth]; omega, by simp only [Gr.size]; omega, ?_, by simp only [Gr.take, Gr.size]; omega⟩
    simp only [Gr.take, Gr.word] at q6 ⊢
    rw [q6]
    simp
theorem Gr.take_all : ∀ g : Gr, g.take g.len = g
  | .nil => rfl
  | .cons b r => by simp only [Gr.len, Gr.take, take_all r]
theorem ok_lword_at {P : Program} {w : World} {K : PySem.W.Frag} {mg : Str → Option Value} {base : Heap} (T : Txt K mg) : ∀ d : Nat, Fn P w K mg base (L2.CX P w) (d + 1) "_law_word" ["tree"] (sp_word d K)
  | 0 => fnOf1 T.f_law_word sc_law_word (fun vs H Q E h => by obtain ⟨a, ys, b, rfl, _⟩ := h; rfl) (fun f cdv A outer s H vs Q E hr h => by
    obtain ⟨a, ys, b, _, _, _, hd, _⟩ := h
    exact absurd hd (Nat.not_lt_zero _))
  | d + 1 => by
    have IH := ok_lword_at (P := P) (w := w) (base := base) T d
    refine fnOf1 T.f_law_word sc_law_word (fun vs H Q E h => ?_) (fun f cdv A outer s H vs Q E hr h => ⟨_, (pss_cons (ps_set (i := 1) sc_law_word.nd rfl (Or.inl rfl) (pe_lst (pa_cons (pe_callB (kLen K) (by rfl) T.m_len (by decide +kernel) (pa_cons (pv 0) pa_nil)) pa_nil)))
      (pss_cons (ps_for (passes_of rfl) rfl (kiTup K (pv 0)) (pg_name (i := 2) sc_law_word.nd rfl (Or.inl rfl)) (pss_one (ps_set (i := 1) sc_law_word.nd rfl (Or.inl rfl) (pe_op op_gAdd (pv 1) (pe_callF IH hr rfl passL (pa_cons (pv 2) pa_nil))))))
      (pss_one (ps_ret (pv 1))))), ?_⟩)
    · obtain ⟨a, ys, b, rfl, _⟩ := h
      rfl
    obtain ⟨a, ys, b, rfl, ha, hb, hd, hz, hq⟩ := h
    try dsimp only [L2.cxOf]
    have hT : SqT K H a ys := SqT.of ha
    walk_at "s"
    refine rd_lenT hT ?_
    walk_at "s"
    refine rd_mkL (Led.start H) (sz (m := 1) (Nat.le_refl 1)) fun p H1 L1 t1 => ?_
    walk_at "s"
    refine rd_itT (SqT.of (L1.same _ _ ha)) ?_
    refine lp_tup (fun i σ H' => ∃ y p2, σ = [some (.ref a), some (.ref p2), y] ∧ Led H H' [(p2, .lst (((b.len : Int) :: (b.take i).word).map V.int))]) ⟨none, p, rfl, L1.to (by rw [hb.len]; rfl)⟩ (fun i σ H' _ ⟨_, _, _, L⟩ => SqT.of (L.same _ _ ha)) ?_ ?_
    · rintro i x σ H' hx ⟨y, p2, rfl, L⟩
      obtain ⟨a2, ys2, b2, rfl, q2, q3, q4, q5, q6, q7⟩ := hb.atW hx
      walk_at "s"
      refine ⟨a2, ys2, b2, rfl, L.same _ _ q2, q3.mono L.ts, by omega, by omega, fun p3 H2 L2 => ?_⟩
      have L3 := L.call L2
      refine rd_addL L3 (L3.get 1) (L3.get 0) (by
        simp only [List.length_map, List.length_cons, Gr.word_len]
        exact sz (m := 5000) (by omega)) fun p4 H4 L4 t4 => ?_
      refine ⟨_, p4, rfl, L4.only.to ?_⟩
      rw [q6, ← List.map_append]
      rfl
    · rintro σ H' ⟨y, p2, rfl, L⟩
      rw [hb.len, Gr.take_all] at L
      walk_at "s"
      exact hq _ _ L
theorem ok_law_word {P : Program} {w : World} {K : PySem.W.Frag} {mg : Str → Option Value} {base : Heap} (T : Txt K mg) : Fn P w K mg base (L2.CX P w) 70 "_law_word" ["tree"] (sp_law_word K) := (ok_lword_at T 69).mono (by decide)
end Tr
namespace Tr
open PySem PySem.Spec PyProof.Rows L2
def sp_law_words (K : PySem.W.Frag) : Sp := fun vs H Q _ => ∃ a xs g, vs = [.ref a] ∧ SqL K H a xs ∧ GAt H g xs ∧ g.size ≤ 62 ∧ newL H Q (g.word.map V.int)
theorem ok_law_words {P : Program} {w : World} {K : PySem.W.Frag} {mg : Str → Option Value} {base : Heap} (T : Txt K mg) : Fn P w K mg base (L2.CX P w) 71 "_law_words" ["grove"] (sp_law_words K) := by
  refine fnOf1 T.f_law_words sc_law_words (fun vs H Q E h => ?_) (fun f cdv A outer s H vs Q E hr h => ⟨_, (pss_cons (ps_set (i := 1) sc_law_words.nd rfl (Or.inl rfl) (pe_lst pa_nil))
      (pss_cons (ps_for (passes_of rfl) rfl (kiList K (pv 0)) (pg_name (i := 2) sc_law_words.nd rfl (Or.inl rfl)) (pss_one (ps_set (i := 1) sc_law_words.nd rfl (Or.inl rfl) (pe_op op_gAdd (pv 1) (pe_callF (ok_law_word T) (hr.mono (by decide)) rfl passL (pa_cons (pv 2) pa_nil))))))
      (pss_one (ps_ret (pv 1))))), ?_⟩)
  · obtain ⟨a, xs, g, rfl, _⟩ := h
    rfl
  obtain ⟨a, xs, g, rfl, hS, hg, hz, hq⟩ := h
  try dsimp only [L2.cxOf]
  walk_at "s"
  refine rd_mkL (Led.start H) (sz (Nat.zero_le 0)) fun p H1 L1 t1 => ?_
  walk_at "s"
  refine lp_list (xs := xs) (fun i σ H' => ∃ y p2, σ = [some (.ref a), some (.ref p2), y] ∧ Led H H' [(p2, .lst ((g.take i).word.map V.int))]) ⟨none, p, rfl, L1.to (by cases g <;> rfl)⟩ (fun i σ H' _ ⟨_, _, _, L⟩ => L.seq hS) ?_ ?_
  · rintro i x σ H' hx ⟨y, p2, rfl, L⟩
    obtain ⟨a2, ys2, b2, rfl, q2, q3, q4, q5, q6, q7⟩ := hg.atW hx
    have hd := g.depth_le
    walk_at "s"
    refine ⟨a2, ys2, b2, rfl, L.same _ _ q2, q3.mono L.ts, by omega, by omega, fun p3 H2 L2 => ?_⟩
    have L3 := L.call L2
    refine rd_addL L3 (L3.get 1) (L3.get 0) (by
      simp only [List.length_map, List.length_cons, Gr.word_len]
      exact sz (m := 5000) (by omega)) fun p4 H4 L4 t4 => ?_
    refine ⟨_, p4, rfl, L4.only.to ?_⟩
    rw [q6, ← List.map_append]
  · rintro σ H' ⟨y, p2, rfl, L⟩
    rw [hg.len, Gr.take_all] at L
    walk_at "s"
    exact hq _ _ L
end Tr
/-! The head: the facts of the top, read by a Hook of my own. -/
namespace Tr
open PySem PySem.Spec PyProof.Rows L2
def excB (K : PySem.W.Frag) (x : Str) : Bool :=
  He.eqO (PySem.W.findIn K (.ref (He.ga K x)) "__getattribute__") (some (some (.builtin "BaseException.__getattribute__"))) &&
  (He.eqO (PySem.W.findIn K (.ref (He.ga K x)) "__getattr__") (some none) &&
  (decide (PySem.W.subIn K (.ref (He.ga K x)) (.type "BaseException") = some true) &&
  (PySem.W.hasDictIn K (He.ga K x) &&
  (He.eqO (PySem.W.findIn K (.ref (He.ga K x)) "__class__") (some (some (.builtin "object.__class__"))) &&
  (He.eqO (PySem.W.specialIn K (.builtin "object.__class__") "__get__") (some (some (.builtin "getset_descriptor.__get__"))) &&
  (decide (PySem.W.takesIn K (.builtin "object.__class__") = some true) &&
  decide (PySem.W.mroIn K (He.ga K x) (.type "object") = some true)))))))
theorem excB_ok {K : PySem.W.Frag} {x : Str} (h : excB K x = true) : ExcC K (He.ga K x) := by
  unfold excB at h
  obtain ⟨h1, h⟩ := He.ba h
  obtain ⟨h2, h⟩ := He.ba h
  obtain ⟨h3, h⟩ := He.ba h
  obtain ⟨h4, h⟩ := He.ba h
  obtain ⟨h5, h⟩ := He.ba h
  obtain ⟨h6, h⟩ := He.ba h
  obtain ⟨h7, h8⟩ := He.ba h
  exact ⟨He.eqO_ok h1, He.eqO_ok h2, of_decide_eq_true h3, h4, He.eqO_ok h5, He.eqO_ok h6, of_decide_eq_true h7, of_decide_eq_true h8⟩
def kitO (K : PySem.W.Frag) (x y : Str) (b : Bool) : Bool := decide (PySem.W.kitOne K (.ref (He.ga K x)) (.ref (He.ga K y)) = some b)
def kitT (K : PySem.W.Frag) (x : Str) (n : String) : Bool := decide (PySem.W.kitOne K (.ref (He.ga K x)) (.type n) = some true)
def hookZ (n : Nat) (fa : List He.Fa) (fn : List He.DefD) (ex : PySem.W.Frag → Bool) : PySem.W.Hook where
  α := He.AlD × Bool
  obs := fun s => (He.obsD fa fn (He.frG s.heap.get? (He.asD s.heap.get? n)), ex (He.frG s.heap.get? (He.asD s.heap.get? n)))
  val := fun _ => (He.valD fn, true)
  says := fun _ h => ∃ K : PySem.W.Frag, K.In h ∧ He.SaysD fa fn K ∧ ex K = true
  of := fun _ _ e => ⟨_, He.frG_in, congrArg (fun z : He.AlD × Bool => z.1) e, congrArg (fun z : He.AlD × Bool => z.2) e⟩
  keeps := fun _ _ _ ⟨K, hK, c⟩ k => ⟨K, PySem.W.Frag.In.keeps hK k, c⟩
def obZ (n : Nat) (fa : List He.Fa) (fn : List He.DefD) (ex : PySem.W.Frag → Bool) (g : Addr → Option Obj) : He.AlD × Bool := (He.obsD fa fn (He.frG g (He.asD g n)), ex (He.frG g (He.asD g n)))
theorem obZ_eq {n : Nat} {fa : List He.Fa} {fn : List He.DefD} {ex : PySem.W.Frag → Bool} {g : Addr → Option Obj} {s : Shared} (h : ∀ a, g a = s.heap.get? a) : obZ n fa fn ex g = (hookZ n fa fn ex).obs s := by
  have e : g = s.heap.get? := funext h
  rw [e] <;> rfl
theorem okZero {P : Program} {w : World} {K : PySem.W.Frag} {mg : Str → Option Value} {base : Heap} {k : Nat} {f : Addr} {fd : FuncData} {ps : List Str} {sp : Sp} (F : FnOk P w K mg base (L2.CX P w) k f fd ps sp) (hs : ∀ vs H Q E, sp vs H Q E → sp vs H Q E0) :
    FnOk P w K mg base CX0 k f fd ps sp := by
  refine ⟨F.len, fun A outer s H args us vs Q E hr he hb hv h => codeAny_mono (F.run A outer s H args us vs Q E0 hr he hb hv (hs _ _ _ _ h)) fun r s' q => ?_⟩
  cases r with
  | ok fl => cases fl <;> exact q
  | error e =>
    obtain ⟨_, _, _, _, _, _, _, _, _, _, _, _, z⟩ := q
    exact z
section
variable {K : PySem.W.Frag} {h : Heap} {mg : Str → Option Value}
theorem exT_of (X : K.In h) (G : h.Ns mainGlobals mg) {x : Str} (g : (He.Fa.glo x).ok K = true) (e : (He.Fa.exc x).ok K = true) : ExcT K mg x := by
  obtain ⟨h1, h2, h3, h4⟩ := He.exc_ok e
  exact ⟨He.glo_ok X G g, h1, h2, h3, h4⟩
theorem txt1_of (X : K.In h) (G : h.Ns mainGlobals mg) {x : Str} {st : Stmt} {ps : List Str} (F : ∃ fd, FunD K x x (defArgs st) (defBody st) (defScope st) [] [] (He.ga K x) fd) (g : (He.Fa.glo x).ok K = true)
    (hb : ∀ (kV doc pm : Value) (an : Option Addr) (cdv ct : Value) (us : List Value), us.length = ps.length → bindArgs (PySem.W.fnOf x x (defArgs st) (defBody st) (defScope st) .none kV doc pm an cdv ct) ⟨us, []⟩ = pure (ps.zip us)) : Txt1 K mg x st ps := by
  obtain ⟨fd, F⟩ := F
  exact ⟨⟨fd, F, F.bindsN hb⟩, He.glo_ok X G g⟩
end
end Tr
namespace Tr
open PySem PySem.Spec PyProof.Rows L2
def fnZ_0 : List He.DefD := [⟨("read", none), "read", "read", defArgs s_read, defBody s_read, defScope s_read, [], []⟩, ⟨("_law_cell_at", none), "_law_cell_at", "_law_cell_at", defArgs s_law_cell_at, defBody s_law_cell_at, defScope s_law_cell_at, [], []⟩, ⟨("_law_grove_by", none), "_law_grove_by", "_law_grove_by", defArgs s_law_grove_by, defBody s_law_grove_by, defScope s_law_grove_by, [], []⟩, ⟨("_law_word", none), "_law_word", "_law_word", defArgs s_law_word, defBody s_law_word, defScope s_law_word, [], []⟩, ⟨("_law_words", none), "_law_words", "_law_words", defArgs s_law_words, defBody s_law_words, defScope s_law_words, [], []⟩, ⟨("_law_is_tree", none), "_law_is_tree", "_law_is_tree", defArgs s_law_is_tree, defBody s_law_is_tree, defScope s_law_is_tree, [], []⟩, ⟨("_law_is_grove", none), "_law_is_grove", "_law_is_grove", defArgs s_law_is_grove, defBody s_law_is_grove, defScope s_law_is_grove, [], []⟩, ⟨("_law_nodes", none), "_law_nodes", "_law_nodes", defArgs s_law_nodes, defBody s_law_nodes, defScope s_law_nodes, [], []⟩, ⟨("_law_sign_by", none), "_law_sign_by", "_law_sign_by", defArgs s_law_sign_by, defBody s_law_sign_by, defScope s_law_sign_by, [], []⟩, ⟨("_law_text", none), "_law_text", "_law_text", defArgs s_law_text, defBody s_law_text, defScope s_law_text, [], []⟩, ⟨("_law_spoiled", none), "_law_spoiled", "_law_spoiled", defArgs s_law_spoiled, defBody s_law_spoiled, defScope s_law_spoiled, [], []⟩, ⟨("_law_due", none), "_law_due", "_law_due", defArgs s_law_due, defBody s_law_due, defScope s_law_due, [], []⟩, ⟨("law", none), "law", "law", defArgs s_law, defBody s_law, defScope s_law, [], []⟩]
def fnZ : List He.DefD := fnZ_0
def faZ_0 : List He.Fa := [.glo "read", .glo "_law_cell_at", .glo "_law_grove_by", .glo "_law_word", .glo "_law_words", .glo "_law_is_tree", .glo "_law_is_grove", .glo "_law_nodes", .glo "_law_sign_by", .glo "_law_text", .glo "_law_spoiled", .glo "_law_due", .glo "law", .free "ValueError", .free "isinstance", .free "len"]
def faZ_1 : List He.Fa := [.free "list", .free "range", .free "tuple", .int "MOST" 60, .glo "TurnError", .glo "BadRow", .glo "NoTurn", .glo "NoWord", .glo "NoSuch", .glo "NoText", .exc "TurnError", .exc "BadRow", .exc "NoTurn", .exc "NoWord", .exc "NoSuch", .exc "NoText"]
def faZ_2 : List He.Fa := [.exm "NoText" "TurnError" true]
def faZ : List He.Fa := faZ_0 ++ faZ_1 ++ faZ_2
def exL (K : PySem.W.Frag) : List Bool := [excB K "NoText", kitT K "NoText" "ValueError", kitO K "NoText" "BadRow" false, kitO K "NoText" "NoTurn" false, kitO K "NoText" "NoWord" false, kitO K "NoText" "NoSuch" false, kitO K "NoText" "NoText" true]
def exZ (K : PySem.W.Frag) : Bool := (exL K).all id
abbrev RZ : PySem.W.OpenRow := PySem.W.OpenLaw.row PySem.Challenge.rw_turnrow_k13_groves_read_or_refused
abbrev hkZ : PySem.W.Hook := hookZ 5 faZ fnZ exZ
def obsZ (s : PySem.W.SharedT) : He.AlD × Bool := obZ 5 faZ fnZ exZ (HandSHeadRun.getT s)
theorem obsZ_eq (s : PySem.W.SharedT) : obsZ s = hkZ.obs s.abs := obZ_eq (HandSHeadRun.getT_eq s)
def looseZ_0 : List Str := ["read", "_law_cell_at", "_law_grove_by", "_law_word", "_law_words", "_law_is_tree", "_law_is_grove", "_law_nodes", "_law_sign_by", "_law_text", "_law_spoiled", "_law_due", "TurnError", "BadRow", "NoTurn", "NoWord"]
def looseZ_1 : List Str := ["NoSuch", "NoText", "MOST"]
def looseZ : List Str := looseZ_0 ++ looseZ_1
theorem runZ (w : World) : HandSHeadRun.RunEq RZ (PySem.W.view RZ.prog [22]) hkZ obsZ 6000 looseZ w := by
  intro os
  kernel_rfl
theorem factsZ {P : Program} {w : World} {K : PySem.W.Frag} {h : Heap} {mg : Str → Option Value} {f : Addr} (X : K.In h) (G : h.Ns mainGlobals mg) (hfa : mg ("law" : Str) = some (.ref f)) (c : He.SaysD faZ fnZ K) (e : exZ K = true) :
    ∃ fd : FuncData, (∀ (s : Shared) (v : Value), BindsTo s fd ⟨[v], []⟩ [("script", v)]) ∧ ∀ base : Heap, K.In base → base.Ns mainGlobals mg → FnOk P w K mg base CX0 72 f fd ["script"] (sp_law K) := by
  have el : ∀ i b, (exL K)[i]? = some b → b = true := fun i b hb => List.all_eq_true.mp e b (List.mem_of_getElem? hb)
  have T : Txt K mg := {
    f_read := txt1_of X G (c.def_ 0 rfl) (c.fact 0 rfl) (fun _ _ _ _ _ _ us hl => match us, hl with | [_], _ => rfl)
    f_law_cell_at := txt1_of X G (c.def_ 1 rfl) (c.fact 1 rfl) (fun _ _ _ _ _ _ us hl => match us, hl with | [_, _], _ => rfl)
    f_law_grove_by := txt1_of X G (c.def_ 2 rfl) (c.fact 2 rfl) (fun _ _ _ _ _ _ us hl => match us, hl with | [_, _, _, _], _ => rfl)
    f_law_word := txt1_of X G (c.def_ 3 rfl) (c.fact 3 rfl) (fun _ _ _ _ _ _ us hl => match us, hl with | [_], _ => rfl)
    f_law_words := txt1_of X G (c.def_ 4 rfl) (c.fact 4 rfl) (fun _ _ _ _ _ _ us hl => match us, hl with | [_], _ => rfl)
    f_law_is_tree := txt1_of X G (c.def_ 5 rfl) (c.fact 5 rfl) (fun _ _ _ _ _ _ us hl => match us, hl with | [_], _ => rfl)
    f_law_is_grove := txt1_of X G (c.def_ 6 rfl) (c.fact 6 rfl) (fun _ _ _ _ _ _ us hl => match us, hl with | [_, _], _ => rfl)
    f_law_nodes := txt1_of X G (c.def_ 7 rfl) (c.fact 7 rfl) (fun _ _ _ _ _ _ us hl => match us, hl with | [_], _ => rfl)
    f_law_sign_by := txt1_of X G (c.def_ 8 rfl) (c.fact 8 rfl) (fun _ _ _ _ _ _ us hl => match us, hl with | [_], _ => rfl)
    f_law_text := txt1_of X G (c.def_ 9 rfl) (c.fact 9 rfl) (fun _ _ _ _ _ _ us hl => match us, hl with | [_], _ => rfl)
    f_law_spoiled := txt1_of X G (c.def_ 10 rfl) (c.fact 10 rfl) (fun _ _ _ _ _ _ us hl => match us, hl with | [_, _], _ => rfl)
    f_law_due := txt1_of X G (c.def_ 11 rfl) (c.fact 11 rfl) (fun _ _ _ _ _ _ us hl => match us, hl with | [_], _ => rfl)
    f_law := txt1_of X G (c.def_ 12 rfl) (c.fact 12 rfl) (fun _ _ _ _ _ _ us hl => match us, hl with | [_], _ => rfl)
    m_ValueError := He.free_ok X G (c.fact 13 rfl)
    m_isinstance := He.free_ok X G (c.fact 14 rfl)
    m_len := He.free_ok X G (c.fact 15 rfl)
    m_list := He.free_ok X G (c.fact 16 rfl)
    m_range := He.free_ok X G (c.fact 17 rfl)
    m_tuple := He.free_ok X G (c.fact 18 rfl)
    c_MOST := He.int_ok X G (c.fact 19 rfl)
    e_TurnError := exT_of X G (c.fact 20 rfl) (c.fact 26 rfl)
    e_BadRow := exT_of X G (c.fact 21 rfl) (c.fact 27 rfl)
    e_NoTurn := exT_of X G (c.fact 22 rfl) (c.fact 28 rfl)
    e_NoWord := exT_of X G (c.fact 23 rfl) (c.fact 29 rfl)
    e_NoSuch := exT_of X G (c.fact 24 rfl) (c.fact 30 rfl)
    e_NoText := exT_of X G (c.fact 25 rfl) (c.fact 31 rfl)
    x_NoText := excB_ok (el 0 _ rfl)
    t_NoText := He.exm_ok (c.fact 32 rfl)
    v_NoText := of_decide_eq_true (el 1 _ rfl)
    i_NoText_BadRow := of_decide_eq_true (el 2 _ rfl)
    i_NoText_NoTurn := of_decide_eq_true (el 3 _ rfl)
    i_NoText_NoWord := of_decide_eq_true (el 4 _ rfl)
    i_NoText_NoSuch := of_decide_eq_true (el 5 _ rfl)
    i_NoText_NoText := of_decide_eq_true (el 6 _ rfl)
  }
  obtain ⟨fd, F⟩ := c.def_ 12 rfl
  have e2 := hfa.symm.trans (He.glo_ok X G (c.fact 12 rfl))
  cases e2
  have b := FunD.bindsA (ps := ["script"]) F fun _ _ _ _ _ _ us hl => match us, hl with | [_], _ => rfl
  refine ⟨fd, fun s v => b s [v] rfl, fun base _ _ => ?_⟩
  obtain ⟨⟨fd2, F2, _, hf⟩, _, _⟩ := ok_law (P := P) (w := w) (base := base) T
  obtain ⟨oc, od, _, _, _, _, _, _, _, osl, _, lk, _⟩ := id F.ex
  have e3 : fd2 = fd := hf.same ⟨oc, od, osl, lk⟩
  subst e3
  exact okZero F2 fun vs H Q E h => h
end Tr
open PySem PySem.W PySem.Calls PyProof.Rows
theorem PySem.Challenge.cw_turnrow_k13_groves_read_or_refused_holds : PySem.Challenge.rw_turnrow_k13_groves_read_or_refused.Holds := by
  w_on; o_law
  refine HandSHeadRun.head_any (r := OpenLaw.row PySem.Challenge.rw_turnrow_k13_groves_read_or_refused) (q := view (OpenLaw.row PySem.Challenge.rw_turnrow_k13_groves_read_or_refused).prog [22]) (H := Tr.hkZ) (ob := Tr.obsZ) (M := 6000) (loose := Tr.looseZ) (d := HandSHeadRun.topDef (OpenLaw.row PySem.Challenge.rw_turnrow_k13_groves_read_or_refused).prog 22) (kwd := []) Tr.obsZ_eq
    (by kernel_rfl) (fun s => by kernel_rfl) Tr.runZ (by kernel_rfl) (by kernel_rfl) (by kernel_rfl) (by rfl) (by first | assumption | decide +kernel) (by decide +kernel) ⟨rfl, rfl, rfl, rfl, rfl, by decide +kernel⟩ ?hw ?hc
  case hw => w_witness2
  case hc =>
    refine L2.walk_ofE (l := PySem.Challenge.rw_turnrow_k13_groves_read_or_refused) (n := 63) (k := 72) (x := "script") (CX := L2.CX0) rfl (by decide) (by kernel_rfl) ⟨rfl, by decide, by decide⟩ ?F (fun _ _ _ _ z => z)
    intro w mg fa h Y G hmg0
    obtain ⟨K, KX, c, e⟩ := Y
    have hmg : mg ("law" : PySem.Str) = some (.ref fa) := by
      have e : (HandSHeadRun.topDef (OpenLaw.row PySem.Challenge.rw_turnrow_k13_groves_read_or_refused).prog 22).name = ("law" : PySem.Str) := by kernel_rfl
      rw [← e]
      exact hmg0
    obtain ⟨fd, hb, hF⟩ := Tr.factsZ (P := (PySem.Challenge.rw_turnrow_k13_groves_read_or_refused).prog) (w := w) KX G hmg c e
    exact ⟨K, fd, Tr.sp_law K, KX, hb, fun H a ns hl _ hS => ⟨a, ns, rfl, hS, hl, fun _ => rfl⟩, hF⟩
#print axioms PySem.Challenge.cw_turnrow_k13_groves_read_or_refused_holds
