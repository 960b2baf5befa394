import PyProof.Rows.All
import Wide.All
import OpenK.AllK
import Wide.FinOn
import KE.KStateDown
import HandS.ForMost
import HandS.ForExc
import HandS.More
import HandS.Conv
import HandS.IsInst
import HandS.ExcIs
import HandS.Rev
import HandS.Style
import HandS.SortInts
import HandS.SetFor
import HandS.Wide
import HandS.TupLe
import KE.DataCmp
import HandS.Defaults
import HandS.Head0
import HandS.Head1
import HandS.Head2
import HandS.HeadEnd
import HandS.HeadHook1
import HandS.HeadHook2
import PySem.Challenge.RW_turnrow_k08_counts_and_few_words
set_option Elab.async false
set_option linter.all false
set_option maxRecDepth 100000
set_option maxHeartbeats 4000000
/-! The ledger: what stands at the addresses that a def has made; the rest of the heap as it was. -/
namespace Tr
open PySem PySem.Spec PyProof.Rows L2

structure Led (H0 H : Hp) (l : List (Addr × HO)) : Prop where
  same : Same H0 H
  nd : (l.map (·.1)).Nodup
  new : ∀ p ∈ l, H0 p.1 = none
  has : ∀ p ∈ l, H p.1 = some p.2
/-- the tuples stay -/
def Ts (H H' : Hp) : Prop := ∀ b xs, H b = some (.tup xs) → H' b = some (.tup xs)
theorem Ts.refl (H : Hp) : Ts H H := fun _ _ h => h
theorem Ts.trans {A B C : Hp} (a : Ts A B) (b : Ts B C) : Ts A C := fun c xs h => b c xs (a c xs h)
theorem Ts.of {A B : Hp} (h : Same A B) : Ts A B := fun b xs e => h b _ e
theorem Same.push {H : Hp} {p : Addr} {o : HO} (h : H p = none) : Same H (upd H p o) := fun b x e => by
  rw [upd_ne (ne_of_none e h)]
  exact e
theorem Ts.put {H : Hp} {p : Addr} {xs : List V} {o : HO} (h : H p = some (.lst xs)) : Ts H (upd H p o) := fun b ys e => by
  have n : b ≠ p := fun z => by
    subst z
    rw [h] at e
    cases e
  rw [upd_ne n]
  exact e
section
variable {H0 H H' : Hp} {l m : List (Addr × HO)} {p q : Addr} {o o' : HO}
theorem Led.start (H : Hp) : Led H H [] := ⟨Same.refl H, by simp, by simp, by simp⟩
theorem Led.get (L : Led H0 H l) (i : Nat) (h : l[i]? = some (p, o) := by rfl) : H p = some o := L.has (p, o) (List.mem_of_getElem? h)
theorem Led.new' (L : Led H0 H l) (i : Nat) (h : l[i]? = some (p, o) := by rfl) : H0 p = none := L.new (p, o) (List.mem_of_getElem? h)
theorem Led.sq {K : PySem.W.Frag} {xs : List V} (L : Led H0 H l) (i : Nat) (h : l[i]? = some (p, .lst xs) := by rfl) : SqL K H p xs := SqL.of (L.get i h)
theorem Led.tq {K : PySem.W.Frag} {xs : List V} (L : Led H0 H l) (i : Nat) (h : l[i]? = some (p, .tup xs) := by rfl) : SqT K H p xs := SqT.of (L.get i h)
theorem Led.fresh (L : Led H0 H l) (h : H q = none) : q ∉ l.map (·.1) := fun z => by
  obtain ⟨x, hx, e⟩ := List.mem_map.mp z
  have := L.has x hx
  rw [e, h] at this
  cases this
theorem Led.push (L : Led H0 H l) (h : H p = none) : Led H0 (upd H p o) ((p, o) :: l) := by
  have h0 : H0 p = none := L.same.free h
  refine ⟨L.same.trans (Same.push h), ?_, ?_, ?_⟩
  · rw [List.map_cons, List.nodup_cons]
    exact ⟨L.fresh h, L.nd⟩
  · intro x hx
    rcases List.mem_cons.mp hx with rfl | hx
    · exact h0
    · exact L.new x hx
  · intro x hx
    rcases List.mem_cons.mp hx with rfl | hx
    · exact upd_same
    · have e := L.has x hx
      rw [upd_ne (ne_of_none e h)]
      exact e
theorem nodup_at {α β : Type} {l : List (α × β)} {i j : Nat} {a : α} {x y : β} (hn : (l.map (·.1)).Nodup) (h1 : l[i]? = some (a, x)) (h2 : l[j]? = some (a, y)) : i = j := by
  have e1 : (l.map (·.1))[i]? = some a := by rw [List.getElem?_map, h1]; rfl
  have e2 : (l.map (·.1))[j]? = some a := by rw [List.getElem?_map, h2]; rfl
  exact nodup_ix' hn e1 e2
where
  nodup_ix' {α : Type} {N : List α} (hN : N.Nodup) {i j : Nat} {x : α} (a : N[i]? = some x) (b : N[j]? = some x) : i = j := by
    obtain ⟨h1, e1⟩ := List.getElem?_eq_some_iff.mp a
    obtain ⟨h2, e2⟩ := List.getElem?_eq_some_iff.mp b
    exact (List.getElem_inj hN).mp (e1.trans e2.symm)
theorem Led.put (L : Led H0 H l) (i : Nat) (h : l[i]? = some (p, o)) : Led H0 (upd H p o') (l.set i (p, o')) := by
  have hp0 : H0 p = none := L.new' i h
  have hi : i < l.length := (List.getElem?_eq_some_iff.mp h).1
  have ek : (l.set i (p, o')).map (·.1) = l.map (·.1) := by
    apply List.ext_getElem?
    intro j
    rw [List.getElem?_map, List.getElem?_map, List.getElem?_set]
    by_cases e : i = j
    · subst e
      rw [if_pos rfl, if_pos hi, h]
      rfl
    · rw [if_neg e]
  refine ⟨fun b x e => ?_, ?_, ?_, ?_⟩
  · have n : b ≠ p := fun z => by
      subst z
      rw [hp0] at e
      cases e
    rw [upd_ne n]
    exact L.same b x e
  · rw [ek]
    exact L.nd
  · intro x hx
    rcases List.mem_or_eq_of_mem_set hx with hx | rfl
    · exact L.new x hx
    · exact hp0
  · intro x hx
    obtain ⟨j, hj⟩ := List.mem_iff_getElem?.mp hx
    rw [List.getElem?_set] at hj
    by_cases e : i = j
    · subst e
      rw [if_pos rfl, if_pos hi] at hj
      cases hj
      exact upd_same
    · rw [if_neg e] at hj
      have hx2 := L.get (p := x.1) (o := x.2) j hj
      have n : x.1 ≠ p := fun z => by
        have hj' : l[j]? = some (p, x.2) := by rw [hj, ← z]
        exact e (nodup_at L.nd h hj')
      rw [upd_ne n]
      exact hx2
theorem Led.call (L : Led H0 H l) (M : Led H H' m) : Led H0 H' (m ++ l) := by
  refine ⟨L.same.trans M.same, ?_, ?_, ?_⟩
  · rw [List.map_append, List.nodup_append]
    refine ⟨M.nd, L.nd, ?_⟩
    intro a ha b hb e
    subst e
    obtain ⟨x, hx, rfl⟩ := List.mem_map.mp ha
    obtain ⟨y, hy, e⟩ := List.mem_map.mp hb
    have e1 := M.new x hx
    have e2 := L.has y hy
    rw [e, e1] at e2
    cases e2
  · intro x hx
    rcases List.mem_append.mp hx with hx | hx
    · exact L.same.free (M.new x hx)
    · exact L.new x hx
  · intro x hx
    rcases List.mem_append.mp hx with hx | hx
    · exact M.has x hx
    · exact M.same _ _ (L.has x hx)
theorem Led.sub (L : Led H0 H l) (h : m.Sublist l) : Led H0 H m :=
  ⟨L.same, L.nd.sublist (h.map _), fun p hp => L.new p (h.mem hp), fun p hp => L.has p (h.mem hp)⟩
theorem Led.drop1 (L : Led H0 H (m ++ l)) : Led H0 H l := L.sub (List.sublist_append_right m l)
theorem Led.tail {x : Addr × HO} (L : Led H0 H (x :: l)) : Led H0 H l := L.sub (List.sublist_cons_self x l)
theorem Led.perm (L : Led H0 H l) (h : m.Perm l) : Led H0 H m :=
  ⟨L.same, (h.map _).nodup_iff.mpr L.nd, fun p hp => L.new p (h.mem_iff.mp hp), fun p hp => L.has p (h.mem_iff.mp hp)⟩
theorem Led.to (L : Led H0 H l) (e : l = m) : Led H0 H m := e ▸ L
theorem Led.ne (L : Led H0 H l) (hp : H0 p ≠ none) (i : Nat) (h : l[i]? = some (q, o)) : p ≠ q := fun z => by
  subst z
  exact hp (L.new' i h)
theorem Led.seq {K : PySem.W.Frag} {a : Addr} {xs : List V} (L : Led H0 H l) (h : SqL K H0 a xs) : SqL K H a xs := L.same.seq h
theorem Led.ts (L : Led H0 H l) : Ts H0 H := Ts.of L.same
end
theorem sz {n m : Nat} (h : n ≤ m) (hm : m ≤ 1000000 := by omega) : n ≤ sizeLine := by
  rw [sizeLine_eq]
  omega
theorem szl {n m : Nat} (h : n ≤ m) (hm : m ≤ 1000000 := by omega) : n < sizeLine := by
  rw [sizeLine_eq]
  omega

/-! ### a def by its name -/
/-- the function object of a name -/
def HasFd (K : PySem.W.Frag) (x : Str) (fd : FuncData) : Prop := ∃ oc od osl, K.lookup (He.ga K x) = some ⟨oc, od, .func fd, osl⟩
theorem HasFd.same {K : PySem.W.Frag} {x : Str} {fd fd' : FuncData} (h : HasFd K x fd) (h' : HasFd K x fd') : fd = fd' := by
  obtain ⟨a, b, c, e⟩ := h
  obtain ⟨a', b', c', e'⟩ := h'
  rw [e] at e'
  cases e'
  rfl
structure Fn (P : Program) (w : World) (K : PySem.W.Frag) (mg : Str → Option Value) (base : Heap) (CX : CXT) (k : Nat) (x : Str) (ps : List Str) (sp : Sp) : Prop where
  ex : ∃ fd, FnOk P w K mg base CX k (He.ga K x) fd ps sp ∧ Binds K fd ps [] ∧ HasFd K x fd
  gl : mg x = some (.ref (He.ga K x))
  kp : PySem.W.keepIn K (.ref (He.ga K x)) = true
theorem Fn.mono {P : Program} {w : World} {K : PySem.W.Frag} {mg : Str → Option Value} {base : Heap} {CX : CXT} {j k : Nat} {x : Str} {ps : List Str} {sp : Sp} (F : Fn P w K mg base CX j x ps sp) (h : j ≤ k) : Fn P w K mg base CX k x ps sp := by
  obtain ⟨⟨fd, a, b, e⟩, c, d⟩ := F
  exact ⟨⟨fd, a.mono h, b, e⟩, c, d⟩
/-- a def of the text -/
structure Txt1 (K : PySem.W.Frag) (mg : Str → Option Value) (x : Str) (st : Stmt) (ps : List Str) : Prop where
  ex : ∃ fd, FunD K x x (defArgs st) (defBody st) (defScope st) [] [] (He.ga K x) fd ∧ Binds K fd ps []
  gl : mg x = some (.ref (He.ga K x))
theorem fnOf1 {P : Program} {w : World} {K : PySem.W.Frag} {mg : Str → Option Value} {base : Heap} {CX : CXT} {k : Nat} {x : Str} {st : Stmt} {N ps : List Str} {sp : Sp} (F : Txt1 K mg x st ps) (S : FnScope N ps (defScope st)) (len : ∀ vs H Q E, sp vs H Q E → vs.length = ps.length)
    (hbody : ∀ (f : Addr) (cdv : Value) (A : Around) (outer : List Env) (s : Shared) (H : Hp) (vs : List V) (Q : VK) (E : XK), Room k (A.deeper (envOfC x (defScope st) s.heap.objs.size f cdv)) → sp vs H Q E →
      ∃ t, PSs (cxOf CX P w K mg base N x (defScope st) f cdv A outer s H E) (defBody st) t ∧ t { nx := fun _ H' => Q .non H', rt := Q } (start N vs) H) : Fn P w K mg base CX (k + 1) x ps sp := by
  obtain ⟨⟨fd, F1, b⟩, g⟩ := F
  obtain ⟨oc, od, _, _, _, _, _, _, _, osl, _, lk, _⟩ := id F1.ex
  exact ⟨⟨fd, F1.ok S len fun cdv A outer s H vs Q E hr h => hbody _ cdv A outer s H vs Q E hr h, b, oc, od, osl, lk⟩, g, F1.kp⟩
def tCallF (sp : Sp) (E : XK) (t : TA) : TE := fun σ H Q => t σ H fun vs H1 => sp vs H1 Q E
section
variable {X : Cx} {CX : CXT} {k : Nat} {ps : List Str} {sp : Sp} {E : XK} {x : Str} {p pos : Pos} {e : Expr} {es : List Expr} {t : TA}
theorem pe_callF (F : Fn X.prog X.w X.K X.mg X.base CX k x ps sp) (hr : Room k X.A) (hg : Gl X x) (hx : Passes CX X E) (ha : PA X (e :: es) t) (hdb : (x == ("__debug__" : Str)) = false := by decide)
    (he : starEach (e :: es) X.env = (false, eval e X.env) :: starEach es X.env := by rfl) (hpl : (backTo pos (starEach es X.env)).any (·.1) = false := by rfl) : PE X (.Call (.Name x p) (e :: es) [] pos) (tCallF sp E t) := by
  obtain ⟨⟨fd, a, b, _⟩, c, d⟩ := F
  have h := pe_call (p := p) (pos := pos) a hr hg c d b .nil hx ha hdb he hpl
  refine ⟨fun pins s σ H Q I q => h.run pins s σ H Q I ?_⟩
  have q' : t σ H fun vs H1 => sp vs H1 Q E := q
  show t σ H fun vs H1 => sp (vs ++ []) H1 Q E
  simpa only [List.append_nil] using q'
def tCallG (sp : Sp) (E : L2.St → XK) (t : TA) : TE := fun σ H Q => t σ H fun vs H1 => sp vs H1 Q (E σ)
theorem pe_callG {E : L2.St → XK} (F : Fn X.prog X.w X.K X.mg X.base CX k x ps sp) (hr : Room k X.A) (hg : Gl X x) (hx : ∀ σ, PassesAt CX X σ (E σ)) (ha : PA X (e :: es) t) (hdb : (x == ("__debug__" : Str)) = false := by decide)
    (he : starEach (e :: es) X.env = (false, eval e X.env) :: starEach es X.env := by rfl) (hpl : (backTo pos (starEach es X.env)).any (·.1) = false := by rfl) : PE X (.Call (.Name x p) (e :: es) [] pos) (tCallG sp E t) := by
  obtain ⟨⟨fd, a, b, _⟩, c, d⟩ := F
  have h := pe_callS (p := p) (pos := pos) (E := E) a hr hg c d b hx ha hdb he hpl
  exact ⟨fun pins s σ H Q I q => h.run pins s σ H Q I q⟩
end
end Tr
/-! The readings, step by step. -/
namespace Tr
open PySem PySem.Spec PyProof.Rows L2
section
variable {t u : TS} {te ta tb : TE} {D : Ends} {σ : L2.St} {H : Hp} {Q : VK} {g : TG} {i : Nat} {v x y : V} {c d : TT} {QB : Bool → Hp → Prop} {K : PySem.W.Frag}
theorem rd_seq (h : t { D with nx := u D } σ H) : tSeq t u D σ H := h
theorem rd_next (h : D.nx σ H) : tNext D σ H := h
theorem rd_brk (h : D.bk σ H) : tBreak D σ H := h
theorem rd_asg (h : te σ H fun x H1 => g x σ H1 D.nx) : tAsg te g D σ H := h
theorem rd_drop (h : te σ H fun _ H1 => D.nx σ H1) : tDrop te D σ H := h
theorem rd_ret (h : te σ H D.rt) : tRet te D σ H := h
theorem rd_retN (h : D.rt .non H) : tRetN D σ H := h
theorem rd_name {R : L2.St → Hp → Prop} (h : R (σ.set i (some v)) H) : gName i v σ H R := h
theorem rd_ifS (h : c σ H fun b H1 => if b = true then t D σ H1 else u D σ H1) : tIfS c t u D σ H := h
/-- a truth value that a test asks for -/
def isB (x : V) (p : Bool → Prop) : Prop := ∃ k, x = .bl k ∧ p k
theorem rd_isB {b : Bool} {p : Bool → Prop} (h : p b) : isB (.bl b) p := ⟨b, rfl, h⟩
theorem rd_test (h : te σ H fun x H1 => isB x fun k => QB k H1) : tTest te σ H QB := h
theorem rd_testB (h : te σ H fun x H1 => isB x fun k => QB k H1) : tB te σ H QB := h
theorem rd_and (h : c σ H fun b H1 => if b = true then d σ H1 QB else QB false H1) : tAnd c d σ H QB := h
theorem rd_or (h : c σ H fun b H1 => if b = true then QB true H1 else d σ H1 QB) : tOr c d σ H QB := h
theorem rd_not (h : c σ H fun b H1 => QB (!b) H1) : tNot c σ H QB := h
theorem rd_andV (h : ta σ H fun x H1 => isB x fun b => if b = true then tb σ H1 Q else Q (.bl false) H1) : tAndV ta tb σ H Q := h
theorem rd_orV (h : ta σ H fun x H1 => isB x fun b => if b = true then Q (.bl true) H1 else tb σ H1 Q) : tOrV ta tb σ H Q := h
theorem rd_notV (h : ta σ H fun x H1 => isB x fun b => Q (.bl (!b)) H1) : tNotV ta σ H Q := h
theorem rd_var (h : σ[i]? = some (some v)) (q : Q v H) : tVar i σ H Q := ⟨v, h, q⟩
theorem rd_c (q : Q v H) : tC v σ H Q := q
theorem rd_op {r : R2} (h : ta σ H fun x H1 => tb σ H1 fun y H2 => r x y H2 Q) : tOp r ta tb σ H Q := h
theorem rd_un {r : V → Hp → VK → Prop} (h : ta σ H fun x H1 => r x H1 Q) : tUn r ta σ H Q := h
variable {tA tR : TA} {QA : List V → Hp → Prop} {sp : Sp} {E : XK} {r : List V → Hp → VK → Prop}
theorem rd_nil (h : QA [] H) : tNil σ H QA := h
theorem rd_cons (h : te σ H fun x H1 => tR σ H1 fun xs H2 => QA (x :: xs) H2) : tCons te tR σ H QA := h
theorem rd_call (h : tA σ H fun vs H1 => sp vs H1 Q E) : tCallF sp E tA σ H Q := h
theorem rd_callG {E : L2.St → XK} (h : tA σ H fun vs H1 => sp vs H1 Q (E σ)) : tCallG sp E tA σ H Q := h
theorem rd_CB (h : tA σ H fun vs H1 => r vs H1 Q) : tCB r tA σ H Q := h
theorem rd_BM {T : String} {r : V → List V → Hp → VK → Prop} (h : te σ H fun x H1 => tyV K T x H1 ∧ tA σ H1 fun xs H2 => r x xs H2 Q) : tBM K T r te tA σ H Q := h
theorem rd_BM0 {T : String} {r : V → List V → Hp → VK → Prop} (h : te σ H fun x H1 => tyV K T x H1 ∧ r x [] H1 Q) : tBM0 K T r te σ H Q := h
theorem rd_ty {a : Addr} {xs : List V} {p : Prop} (h : SqL K H a xs) (q : p) : tyV K "list" (.ref a) H ∧ p := ⟨.inl ⟨rfl, _, h⟩, q⟩
theorem rd_tyS {z : Str} {p : Prop} (q : p) : tyV K "str" (.str z) H ∧ p := ⟨rfl, q⟩
theorem rd_sl {r : V → Option Int → Option Int → Hp → VK → Prop} {tl th : TO} (h : te σ H fun x H1 => tl σ H1 fun l H2 => th σ H2 fun u H3 => r x l u H3 Q) : tSl r te tl th σ H Q := h
theorem rd_noP {QO : Option Int → Hp → Prop} (h : QO none H) : tNoPart σ H QO := h
/-- an int that is asked for -/
def isI (x : V) (p : Int → Prop) : Prop := ∃ k, x = .int k ∧ p k
theorem rd_isI {n : Int} {p : Int → Prop} (h : p n) : isI (.int n) p := ⟨n, rfl, h⟩
theorem rd_part {QO : Option Int → Hp → Prop} (h : te σ H fun x H1 => isI x fun n => QO (some n) H1) : tPart te σ H QO := h
/-! ### values -/
theorem rd_i0 {f : Int → Int → V} {n m : Int} (q : Q (f n m) H) : rI0 f (.int n) (.int m) H Q := ⟨n, m, rfl, rfl, q⟩
theorem rd_i {C : Int → Int → Prop} {f : Int → Int → V} {n m : Int} (hc : C n m) (q : Q (f n m) H) : rI C f (.int n) (.int m) H Q := ⟨n, m, rfl, rfl, hc, q⟩
theorem rd_u {f : Int → V} {n : Int} (q : Q (f n) H) : rU f (.int n) H Q := ⟨n, rfl, q⟩
end

/-! ### + : ints, lists, texts -/
def rAddS : R2 := fun x y H Q => ∃ i j, x = .str i ∧ y = .str j ∧ i.length + j.length ≤ sizeLine ∧ Q (.str (i ++ j)) H
def gAdd : R2 := fun x y H Q => rI0 (fun i j => .int (i + j)) x y H Q ∨ rCat x y H Q ∨ rAddS x y H Q
theorem op_gAdd {X : Cx} : OpR X (binaryOp .Add) gAdd := op_add.or (op_cat.or (r' := rAddS) op_add_str)
def gSub : R2 := rI0 fun i j => .int (i - j)
theorem op_gSub {X : Cx} : OpR X (binaryOp .Sub) gSub := op_sub
def gMul : R2 := rI IntMulOk fun i j => .int (i * j)
theorem op_gMul {X : Cx} : OpR X (binaryOp .Mult) gMul := opI fun _ _ _ _ _ _ _ hc q => mul_int q hc
def gDiv : R2 := rI CDivW fun i j => .int (i / j)
theorem op_gDiv {X : Cx} : OpR X (binaryOp .FloorDiv) gDiv := op_fdivW
def gMod : R2 := rI (fun _ j => 0 < j) fun i j => .int (i % j)
theorem op_gMod {X : Cx} : OpR X (binaryOp .Mod) gMod := op_mod
def gLt : R2 := rI0 fun i j => .bl (decide (i < j))
theorem op_gLt {X : Cx} : OpR X (compareOp .Lt) gLt := op_lt
def gLe : R2 := rI0 fun i j => .bl (decide (i ≤ j))
theorem op_gLe {X : Cx} : OpR X (compareOp .LtE) gLe := op_le
def gGt : R2 := rI0 fun i j => .bl (decide (j < i))
theorem op_gGt {X : Cx} : OpR X (compareOp .Gt) gGt := op_gt
def gGe : R2 := rI0 fun i j => .bl (decide (j ≤ i))
theorem op_gGe {X : Cx} : OpR X (compareOp .GtE) gGe := op_ge
def gEq (K : PySem.W.Frag) : R2 := fun x y H Q => rEq x y H Q ∨ rEqD K x y H Q
theorem op_gEq {X : Cx} (hu : X.A.units + 64 < cLine) : OpR X (compareOp .Eq) (gEq X.K) := op_eq.or (op_eqD hu)
def gNe (K : PySem.W.Frag) : R2 := fun x y H Q => rNe x y H Q ∨ rNeD K x y H Q
theorem op_gNe {X : Cx} (hu : X.A.units + 64 < cLine) : OpR X (compareOp .NotEq) (gNe X.K) := op_ne.or (op_neD hu)
def gIsN : R2 := fun x y H Q => y = .non ∧ Q (.bl (decide (x = .non))) H
theorem op_gIsN {X : Cx} : OpR X (compareOp .Is) gIsN := op_isN
def gNeg : V → Hp → VK → Prop := rU fun i => .int (-i)
theorem op_gNeg {X : Cx} : UnR X (unaryOp .USub) gNeg := un_neg
section
variable {H0 H : Hp} {l : List (Addr × HO)} {Q : VK} {K : PySem.W.Frag} {p q a : Addr} {xs ys : List V} {n m : Int} {x y : V}
theorem rd_addI (h : Q (.int (n + m)) H) : gAdd (.int n) (.int m) H Q := .inl ⟨n, m, rfl, rfl, h⟩
theorem rd_addS {z w : Str} (hz : z.length + w.length ≤ sizeLine) (h : Q (.str (z ++ w)) H) : gAdd (.str z) (.str w) H Q := .inr (.inr ⟨z, w, rfl, rfl, hz, h⟩)
theorem rd_addL (L : Led H0 H l) (hp : H p = some (.lst xs)) (hq : H q = some (.lst ys)) (hz : xs.length + ys.length ≤ sizeLine) (h : ∀ r H', Led H0 H' ((r, .lst (xs ++ ys)) :: l) → Ts H H' → Q (.ref r) H') : gAdd (.ref p) (.ref q) H Q :=
  .inr (.inl ⟨p, q, xs, ys, rfl, rfl, hp, hq, hz, fun r hr => h r _ (L.push hr) (Ts.of (Same.push hr))⟩)
theorem rd_sub (h : Q (.int (n - m)) H) : gSub (.int n) (.int m) H Q := ⟨n, m, rfl, rfl, h⟩
theorem rd_mulL (h1 : -(2 ^ 64) < n) (h2 : n < 2 ^ 64) (h : Q (.int (n * m)) H) : gMul (.int n) (.int m) H Q := ⟨n, m, rfl, rfl, .of_left (intBits_le_64 h1 h2), h⟩
theorem rd_mulR (h1 : -(2 ^ 64) < m) (h2 : m < 2 ^ 64) (h : Q (.int (n * m)) H) : gMul (.int n) (.int m) H Q := ⟨n, m, rfl, rfl, .of_right (intBits_le_64 h1 h2), h⟩
theorem rd_mulW (hc : CMulW n m) (h : Q (.int (n * m)) H) : gMul (.int n) (.int m) H Q := ⟨n, m, rfl, rfl, hc.ok, h⟩
theorem rd_mul (hc : IntMulOk n m) (h : Q (.int (n * m)) H) : gMul (.int n) (.int m) H Q := ⟨n, m, rfl, rfl, hc, h⟩
theorem rd_div (hc : CDivW n m) (h : Q (.int (n / m)) H) : gDiv (.int n) (.int m) H Q := ⟨n, m, rfl, rfl, hc, h⟩
theorem rd_divK (h1 : (0 : Int) < m) (h2 : m < 1000000000000) (h : Q (.int (n / m)) H) : gDiv (.int n) (.int m) H Q :=
  ⟨n, m, rfl, rfl, wide_div (b := 40) h1 (by rw [show (2 : Nat) ^ 40 = 1099511627776 from by decide]; omega) (by decide) (by decide), h⟩
theorem rd_mod (hc : 0 < m) (h : Q (.int (n % m)) H) : gMod (.int n) (.int m) H Q := ⟨n, m, rfl, rfl, hc, h⟩
theorem rd_lt (h : Q (.bl (decide (n < m))) H) : gLt (.int n) (.int m) H Q := ⟨n, m, rfl, rfl, h⟩
theorem rd_le (h : Q (.bl (decide (n ≤ m))) H) : gLe (.int n) (.int m) H Q := ⟨n, m, rfl, rfl, h⟩
theorem rd_gt (h : Q (.bl (decide (m < n))) H) : gGt (.int n) (.int m) H Q := ⟨n, m, rfl, rfl, h⟩
theorem rd_ge (h : Q (.bl (decide (m ≤ n))) H) : gGe (.int n) (.int m) H Q := ⟨n, m, rfl, rfl, h⟩
theorem rd_neg (h : Q (.int (-n)) H) : gNeg (.int n) H Q := ⟨n, rfl, h⟩
theorem rd_eqI (h : Q (.bl (decide (n = m))) H) : gEq K (.int n) (.int m) H Q := .inl ⟨rfl, by simpa using h⟩
theorem rd_neI (h : Q (.bl (!decide (n = m))) H) : gNe K (.int n) (.int m) H Q := .inl ⟨rfl, by simpa using h⟩
theorem rd_eqS {z w : Str} (h : Q (.bl (decide (z = w))) H) : gEq K (.str z) (.str w) H Q := .inl ⟨rfl, by simpa using h⟩
theorem rd_neS {z w : Str} (h : Q (.bl (!decide (z = w))) H) : gNe K (.str z) (.str w) H Q := .inl ⟨rfl, by simpa using h⟩
theorem rd_eqB {z w : Bool} (h : Q (.bl (decide (z = w))) H) : gEq K (.bl z) (.bl w) H Q := .inl ⟨rfl, by simpa using h⟩
theorem rd_neB {z w : Bool} (h : Q (.bl (!decide (z = w))) H) : gNe K (.bl z) (.bl w) H Q := .inl ⟨rfl, by simpa using h⟩
theorem rd_isN (h : Q (.bl (decide (x = .non))) H) : gIsN x .non H Q := ⟨rfl, h⟩
theorem rd_eqD {d e : PyData} (hd : Dp K H x d) (he : Dp K H y e) (s1 : SeqAt.shaped d = true) (s2 : SeqAt.shaped e = true) (h : Q (.bl (PyData.eqv d e)) H) : gEq K x y H Q := .inr ⟨d, e, hd, he, s1, s2, h⟩
theorem rd_neD {d e : PyData} (hd : Dp K H x d) (he : Dp K H y e) (s1 : SeqAt.shaped d = true) (s2 : SeqAt.shaped e = true) (h : Q (.bl (!PyData.eqv d e)) H) : gNe K x y H Q := .inr ⟨d, e, hd, he, s1, s2, h⟩
/-! ### new lists and tuples -/
variable {σ : L2.St} {tA : TA} {QA : List V → Hp → Prop} {te : TE}
/-- a new list | tuple of these -/
def mkL (xs : List V) (H : Hp) (Q : VK) : Prop := xs.length ≤ sizeLine ∧ ∀ p, H p = none → Q (.ref p) (upd H p (.lst xs))
def mkT (xs : List V) (H : Hp) (Q : VK) : Prop := xs.length ≤ sizeLine ∧ ∀ p, H p = none → Q (.ref p) (upd H p (.tup xs))
theorem rd_lst (h : tA σ H fun xs H1 => mkL xs H1 Q) : tLst tA σ H Q := h
theorem rd_tup (h : tA σ H fun xs H1 => mkT xs H1 Q) : tTup tA σ H Q := h
theorem rd_mkL (L : Led H0 H l) (hz : xs.length ≤ sizeLine) (h : ∀ p H', Led H0 H' ((p, .lst xs) :: l) → Ts H H' → Q (.ref p) H') : mkL xs H Q := ⟨hz, fun p hp => h p _ (L.push hp) (Ts.of (Same.push hp))⟩
theorem rd_mkT (L : Led H0 H l) (hz : xs.length ≤ sizeLine) (h : ∀ p H', Led H0 H' ((p, .tup xs) :: l) → Ts H H' → Q (.ref p) H') : mkT xs H Q := ⟨hz, fun p hp => h p _ (L.push hp) (Ts.of (Same.push hp))⟩
/-- a slice of a list -/
theorem rd_slL {lo hi : Option Int} (L : Led H0 H l) (hs : SqL K H a xs) (h : ∀ p H', Led H0 H' ((p, .lst (cutV xs lo hi)) :: l) → Ts H H' → Q (.ref p) H') : rSlL K (.ref a) lo hi H Q := ⟨a, xs, rfl, hs, fun p hp => h p _ (L.push hp) (Ts.of (Same.push hp))⟩
/-! ### list methods -/
theorem rd_append (L : Led H0 H l) (i : Nat) (h : l[i]? = some (p, .lst xs)) (hz : xs.length < sizeLine) (k : ∀ H', Led H0 H' (l.set i (p, .lst (xs ++ [y]))) → Ts H H' → Q .non H') : rAppend (.ref p) [y] H Q :=
  ⟨p, xs, y, rfl, rfl, L.get i h, hz, k _ (L.put i h) (Ts.put (L.get i h))⟩
theorem rd_extend {zs : List V} (L : Led H0 H l) (i : Nat) (h : l[i]? = some (p, .lst xs)) (hq : H q = some (.lst zs)) (hz : xs.length + zs.length ≤ sizeLine) (k : ∀ H', Led H0 H' (l.set i (p, .lst (xs ++ zs))) → Ts H H' → Q .non H') : rExtend (.ref p) [.ref q] H Q :=
  ⟨p, q, xs, zs, rfl, rfl, L.get i h, hq, hz, k _ (L.put i h) (Ts.put (L.get i h))⟩
theorem rd_pop (L : Led H0 H l) (i : Nat) (h : l[i]? = some (p, .lst (xs ++ [y]))) (k : ∀ H', Led H0 H' (l.set i (p, .lst xs)) → Ts H H' → Q y H') : rPop (.ref p) [] H Q :=
  ⟨p, xs ++ [y], y, rfl, rfl, L.get i h, by simp, by simpa using k _ (L.put i h) (Ts.put (L.get i h))⟩
theorem rd_reverse (L : Led H0 H l) (i : Nat) (h : l[i]? = some (p, .lst xs)) (k : ∀ H', Led H0 H' (l.set i (p, .lst xs.reverse)) → Ts H H' → Q .non H') : rReverse (.ref p) [] H Q :=
  ⟨p, xs, rfl, rfl, L.get i h, k _ (L.put i h) (Ts.put (L.get i h))⟩
theorem rd_clear (L : Led H0 H l) (i : Nat) (h : l[i]? = some (p, .lst xs)) (k : ∀ H', Led H0 H' (l.set i (p, .lst [])) → Ts H H' → Q .non H') : rClear (.ref p) [] H Q :=
  ⟨p, xs, rfl, rfl, L.get i h, k _ (L.put i h) (Ts.put (L.get i h))⟩
/-! ### subscripts -/
theorem rd_ixL {v : V} (hs : SqL K H a xs) (h : atI xs n = some v) (k : Q v H) : rIx K (.ref a) (.int n) H Q := .inl ⟨a, xs, n, v, rfl, rfl, hs, h, k⟩
theorem rd_ixS {z : Str} {c : Nat} (hz : z.length ≤ sizeLine) (h : atI z.cps.toList n = some c) (k : Q (.str ⟨#[c]⟩) H) : rIx K (.str z) (.int n) H Q := .inr (.inr ⟨z, n, c, rfl, rfl, hz, h, k⟩)
/-! ### built-ins -/
def gLen (K : PySem.W.Frag) : List V → Hp → VK → Prop := fun xs H Q => ∃ x n, xs = [x] ∧ LenV K x H n ∧ Q (.int n) H
theorem cr_len {X : Cx} : CallR X (.builtin "len") (gLen X.K) := call_len
theorem rd_lenL (hs : SqL K H a xs) (k : Q (.int xs.length) H) : gLen K [.ref a] H Q := ⟨_, _, rfl, .inl ⟨xs, hs, rfl⟩, k⟩
theorem rd_lenT (hs : SqT K H a xs) (k : Q (.int xs.length) H) : gLen K [.ref a] H Q := ⟨_, _, rfl, .inr ⟨xs, hs, rfl⟩, k⟩
theorem rd_lenS {z : Str} (hz : z.length ≤ sizeLine) (k : Q (.int z.length) H) : gLen K [.str z] H Q := ⟨_, _, rfl, ⟨hz, rfl⟩, k⟩
def gList (K : PySem.W.Frag) : List V → Hp → VK → Prop := fun xs H Q => ∃ p ys, xs = [.ref p] ∧ (SqL K H p ys ∨ SqT K H p ys) ∧ ∀ l, H l = none → Q (.ref l) (upd H l (.lst ys))
theorem cr_list {X : Cx} : CallR X (.type "list") (gList X.K) := call_list_of
theorem rd_list (L : Led H0 H l) (hs : SqL K H a xs) (k : ∀ p H', Led H0 H' ((p, .lst xs) :: l) → Ts H H' → Q (.ref p) H') : gList K [.ref a] H Q := ⟨a, xs, rfl, .inl hs, fun p hp => k p _ (L.push hp) (Ts.of (Same.push hp))⟩
def gTuple (K : PySem.W.Frag) : List V → Hp → VK → Prop := fun xs H Q => ∃ p ys, xs = [.ref p] ∧ ((SqL K H p ys ∧ ∀ l, H l = none → Q (.ref l) (upd H l (.tup ys))) ∨ (SqT K H p ys ∧ Q (.ref p) H))
theorem cr_tuple {X : Cx} : CallR X (.type "tuple") (gTuple X.K) := call_tuple_of
theorem rd_tuple (L : Led H0 H l) (hs : SqL K H a xs) (k : ∀ p H', Led H0 H' ((p, .tup xs) :: l) → Ts H H' → Q (.ref p) H') : gTuple K [.ref a] H Q := ⟨a, xs, rfl, .inl ⟨hs, fun p hp => k p _ (L.push hp) (Ts.of (Same.push hp))⟩⟩
theorem rd_sum {ns : List Int} (hs : SqL K H a (ns.map V.int)) (k : Q (.int ns.sum) H) : rSum K [.ref a] H Q := ⟨a, ns, rfl, hs, k⟩
theorem rd_max {ns : List Int} (hs : SqL K H a (ns.map V.int)) (h0 : 0 < ns.length) (k : ∀ m, m ∈ ns → (∀ y, y ∈ ns → y ≤ m) → Q (.int m) H) : rMax K [.ref a] H Q := ⟨a, ns, rfl, hs, h0, k⟩
theorem rd_min {ns : List Int} (hs : SqL K H a (ns.map V.int)) (h0 : 0 < ns.length) (k : ∀ m, m ∈ ns → (∀ y, y ∈ ns → m ≤ y) → Q (.int m) H) : rMin K [.ref a] H Q := ⟨a, ns, rfl, hs, h0, k⟩
/-- max, min of a list, or of two ints -/
def gMax (K : PySem.W.Frag) : List V → Hp → VK → Prop := fun xs H Q => rMax K xs H Q ∨ ∃ i j, xs = [.int i, .int j] ∧ Q (.int (if j > i then j else i)) H
theorem cr_gMax {X : Cx} (hc : X.calm = true) : CallR X (.builtin "max") (gMax X.K) := (cr_max hc).or (call_max2 hc)
def gMin (K : PySem.W.Frag) : List V → Hp → VK → Prop := fun xs H Q => rMin K xs H Q ∨ ∃ i j, xs = [.int i, .int j] ∧ Q (.int (if j < i then j else i)) H
theorem cr_gMin {X : Cx} (hc : X.calm = true) : CallR X (.builtin "min") (gMin X.K) := (cr_min hc).or (call_min2 hc)
theorem rd_gMaxL {ns : List Int} (hs : SqL K H a (ns.map V.int)) (h0 : 0 < ns.length) (k : ∀ m, m ∈ ns → (∀ y, y ∈ ns → y ≤ m) → Q (.int m) H) : gMax K [.ref a] H Q := .inl ⟨a, ns, rfl, hs, h0, k⟩
theorem rd_gMinL {ns : List Int} (hs : SqL K H a (ns.map V.int)) (h0 : 0 < ns.length) (k : ∀ m, m ∈ ns → (∀ y, y ∈ ns → m ≤ y) → Q (.int m) H) : gMin K [.ref a] H Q := .inl ⟨a, ns, rfl, hs, h0, k⟩
theorem rd_gMax2 (k : Q (.int (max n m)) H) : gMax K [.int n, .int m] H Q := .inr ⟨n, m, rfl, by
  have e : (if m > n then m else n) = max n m := by split <;> omega
  rw [e]
  exact k⟩
theorem rd_gMin2 (k : Q (.int (min n m)) H) : gMin K [.int n, .int m] H Q := .inr ⟨n, m, rfl, by
  have e : (if m < n then m else n) = min n m := by split <;> omega
  rw [e]
  exact k⟩
def gInt : List V → Hp → VK → Prop := fun xs H Q => (∃ i, xs = [.int i] ∧ Q (.int i) H) ∨ ∃ k, xs = [.bl k] ∧ Q (.int (if k then 1 else 0)) H
theorem cr_int {X : Cx} : CallR X (.type "int") gInt := call_int1
theorem rd_intB {b : Bool} (k : Q (.int (if b then 1 else 0)) H) : gInt [.bl b] H Q := .inr ⟨b, rfl, k⟩
theorem rd_sorted {ns : List Int} (L : Led H0 H l) (hs : SqL K H a (ns.map V.int)) (k : ∀ (ms : List Int) p H', ms.Perm ns → ms.Pairwise (· ≤ ·) → Led H0 H' ((p, .lst (ms.map V.int)) :: l) → Ts H H' → Q (.ref p) H') : rSortedI K [.ref a] H Q :=
  ⟨a, ns, rfl, hs, fun ms p h1 h2 hp => k ms p _ h1 h2 (L.push hp) (Ts.of (Same.push hp))⟩
theorem rd_count {ns : List Int} (hs : SqL K H a (ns.map V.int)) (k : Q (.int (ns.count n : Nat)) H) : rCntI K (.ref a) [.int n] H Q := ⟨a, ns, n, rfl, rfl, hs, k⟩
/-- isinstance -/
theorem rd_isi {T : String} {t : Value} {b : Bool} (ht : TyX K H x t) (hk : PySem.W.kitOne K t (.type T) = some b) (k : Q (.bl b) H) : rIsi K [x, .ty T] H Q := ⟨x, .ty T, t, _, b, rfl, .ty T, ht, hk, k⟩
end
end Tr
/-! Loops, comprehensions, raise and try. -/
namespace Tr
open PySem PySem.Spec PyProof.Rows L2
section
variable {t u : TS} {te tl : TE} {D : Ends} {σ : L2.St} {H H0 : Hp} {Q : VK} {g : TG} {tb : TS} {K : PySem.W.Frag} {a : Addr} {xs : List V} {wi : TI} {J : It} {R : It → Hp → Prop} {l : List (Addr × HO)}
/-- a loop over what has come -/
def lp (J : It) (g : TG) (tb : TS) : TS := tFor (fun _ H R => R J H) g tb
theorem rd_for (h : wi σ H fun J H1 => lp J g tb D σ H1) : tFor wi g tb D σ H := h
def itL (K : PySem.W.Frag) (x : V) (H : Hp) (R : It → Hp → Prop) : Prop := ∃ a, x = .ref a ∧ (∃ xs, SqL K H a xs) ∧ R (Itl K a) H
def itT (K : PySem.W.Frag) (x : V) (H : Hp) (R : It → Hp → Prop) : Prop := ∃ a, x = .ref a ∧ (∃ xs, SqT K H a xs) ∧ R (Itt K a) H
def itS (x : V) (H : Hp) (R : It → Hp → Prop) : Prop := ∃ z, x = .str z ∧ R (Its z) H
theorem rd_iList (h : tl σ H fun x H1 => itL K x H1 R) : iList K tl σ H R := h
theorem rd_iTup (h : tl σ H fun x H1 => itT K x H1 R) : iTup K tl σ H R := h
theorem rd_iStr (h : tl σ H fun x H1 => itS x H1 R) : iStr tl σ H R := h
theorem rd_itL (hs : SqL K H a xs) (h : R (Itl K a) H) : itL K (.ref a) H R := ⟨a, rfl, ⟨xs, hs⟩, h⟩
theorem rd_itT (hs : SqT K H a xs) (h : R (Itt K a) H) : itT K (.ref a) H R := ⟨a, rfl, ⟨xs, hs⟩, h⟩
theorem rd_itS {z : Str} (h : R (Its z) H) : itS (.str z) H R := ⟨z, rfl, h⟩
variable {tA : TA}
def itR1 (vs : List V) (H : Hp) (R : It → Hp → Prop) : Prop := ∃ j : Int, vs = [.int j] ∧ -(2 ^ 62) ≤ j ∧ j < 2 ^ 62 ∧ R (Itr 0 j.toNat) H
def itR2 (vs : List V) (H : Hp) (R : It → Hp → Prop) : Prop := ∃ i j : Int, vs = [.int i, .int j] ∧ (-(2 ^ 62) ≤ i ∧ i < 2 ^ 62 ∧ -(2 ^ 62) ≤ j ∧ j < 2 ^ 62) ∧ R (Itr i (j - i).toNat) H
def itR3 (vs : List V) (H : Hp) (R : It → Hp → Prop) : Prop := ∃ (i j c : Int) (n : Nat), vs = [.int i, .int j, .int c] ∧ RgC i j c n ∧ R (Itc i c n) H
theorem rd_iRng1 (h : tA σ H fun vs H1 => itR1 vs H1 R) : iRng1 tA σ H R := h
theorem rd_iRng2 (h : tA σ H fun vs H1 => itR2 vs H1 R) : iRng2 tA σ H R := h
theorem rd_iRng3 (h : tA σ H fun vs H1 => itR3 vs H1 R) : iRng3 tA σ H R := h
theorem rd_itR1 {j : Int} (n : Nat) (e : j.toNat = n) (h1 : -(2 ^ 62) ≤ j) (h2 : j < 2 ^ 62) (h : R (Itr 0 n) H) : itR1 [.int j] H R := ⟨j, rfl, h1, h2, e ▸ h⟩
theorem rd_itR2 {i j : Int} (n : Nat) (e : (j - i).toNat = n) (h1 : -(2 ^ 62) ≤ i ∧ i < 2 ^ 62 ∧ -(2 ^ 62) ≤ j ∧ j < 2 ^ 62) (h : R (Itr i n) H) : itR2 [.int i, .int j] H R := ⟨i, j, rfl, h1, e ▸ h⟩
theorem rd_itRd {i j : Int} (n : Nat) (e : (i - j).toNat = n) (h1 : -(2 ^ 62) ≤ i) (h2 : i < 2 ^ 62) (h3 : -(2 ^ 62) ≤ j) (h4 : j < 2 ^ 62) (h : R (Itc i (-1) n) H) : itR3 [.int i, .int j, .int (-1)] H R := ⟨i, j, -1, n, rfl, e ▸ RgC.neg h1 h2 h3 h4, h⟩
def itV (K : PySem.W.Frag) (v : V) (H : Hp) (R : It → Hp → Prop) : Prop := ∃ (a : Addr) (xs : List V), v = .ref a ∧ ((SqL K H a xs ∧ R (Itv K a xs.length) H) ∨ (SqT K H a xs ∧ R (RT.ItvT K a xs.length) H))
theorem rd_iRev (h : te σ H fun v H1 => itV K v H1 R) : RT.iRevA K te σ H R := h
theorem rd_itV (hs : SqL K H a xs) (h : R (Itv K a xs.length) H) : itV K (.ref a) H R := ⟨a, xs, rfl, .inl ⟨hs, h⟩⟩
/-! ### the loops -/
abbrev Turn1 (tb : TS) (D : Ends) (N : L2.St → Hp → Prop) : L2.St → Hp → Prop := tb { D with nx := N, ct := N, bk := D.nx }
theorem lp_list (Pv : Nat → L2.St → Hp → Prop) (h0 : Pv 0 σ H) (hl : ∀ i σ H, i ≤ xs.length → Pv i σ H → SqL K H a xs)
    (hs : ∀ i x σ H, xs[i]? = some x → Pv i σ H → g x σ H (Turn1 tb D (Pv (i + 1)))) (hd : ∀ σ H, Pv xs.length σ H → D.nx σ H) : lp (Itl K a) g tb D σ H := for_list Pv h0 hl hs hd
theorem lp_ints {ns : List Int} (Pv : Nat → L2.St → Hp → Prop) (h0 : Pv 0 σ H) (hl : ∀ i σ H, i ≤ ns.length → Pv i σ H → SqL K H a (ns.map V.int))
    (hs : ∀ i n σ H, ns[i]? = some n → Pv i σ H → g (.int n) σ H (Turn1 tb D (Pv (i + 1)))) (hd : ∀ σ H, Pv ns.length σ H → D.nx σ H) : lp (Itl K a) g tb D σ H := by
  refine lp_list (xs := ns.map V.int) Pv h0 (fun i σ H hi => hl i σ H (by simpa using hi)) (fun i x σ H hx hp => ?_) (fun σ H h => hd σ H (by simpa using h))
  rw [List.getElem?_map] at hx
  cases e : ns[i]? with
  | none => rw [e] at hx; cases hx
  | some n =>
    rw [e] at hx
    cases hx
    exact hs i n σ H e hp
theorem lp_tup (Pv : Nat → L2.St → Hp → Prop) (h0 : Pv 0 σ H) (hl : ∀ i σ H, i ≤ xs.length → Pv i σ H → SqT K H a xs)
    (hs : ∀ i x σ H, xs[i]? = some x → Pv i σ H → g x σ H (Turn1 tb D (Pv (i + 1)))) (hd : ∀ σ H, Pv xs.length σ H → D.nx σ H) : lp (Itt K a) g tb D σ H := for_tup Pv h0 hl hs hd
theorem lp_rng {lo : Int} {n : Nat} (Pv : Nat → L2.St → Hp → Prop) (h0 : Pv 0 σ H)
    (hs : ∀ i σ H, i < n → Pv i σ H → g (.int (lo + i)) σ H (Turn1 tb D (Pv (i + 1)))) (hd : ∀ σ H, Pv n σ H → D.nx σ H) : lp (Itr lo n) g tb D σ H := for_range Pv h0 hs hd
theorem lp_rng0 {n : Nat} (Pv : Nat → L2.St → Hp → Prop) (h0 : Pv 0 σ H)
    (hs : ∀ i σ H, i < n → Pv i σ H → g (.int (i : Nat)) σ H (Turn1 tb D (Pv (i + 1)))) (hd : ∀ σ H, Pv n σ H → D.nx σ H) : lp (Itr 0 n) g tb D σ H := for_range Pv h0 (fun i σ H hi hp => by
      have e : (0 : Int) + (i : Nat) = (i : Nat) := by omega
      rw [e]
      exact hs i σ H hi hp) hd
theorem lp_rngC {lo c : Int} {n : Nat} (Pv : Nat → L2.St → Hp → Prop) (h0 : Pv 0 σ H)
    (hs : ∀ i σ H, i < n → Pv i σ H → g (.int (lo + (i : Nat) * c)) σ H (Turn1 tb D (Pv (i + 1)))) (hd : ∀ σ H, Pv n σ H → D.nx σ H) : lp (Itc lo c n) g tb D σ H := for_rangeC Pv h0 hs hd
theorem lp_rev (Pv : Nat → L2.St → Hp → Prop) (h0 : Pv 0 σ H) (hq : ∀ i σ H, Pv i σ H → SqL K H a xs)
    (hs : ∀ (i : Nat) (x : V) (σ : L2.St) (H : Hp), i < xs.length → xs[xs.length - 1 - i]? = some x → Pv i σ H → g x σ H (Turn1 tb D (Pv (i + 1)))) (hd : ∀ σ H, Pv xs.length σ H → D.nx σ H) : lp (Itv K a xs.length) g tb D σ H := RT.for_Itv Pv h0 hq hs hd
theorem lp_str {z : Str} (Pv : Nat → L2.St → Hp → Prop) (h0 : Pv 0 σ H)
    (hs : ∀ i c σ H, z.cps[i]? = some c → Pv i σ H → g (.str ⟨#[c]⟩) σ H (Turn1 tb D (Pv (i + 1)))) (hd : ∀ σ H, Pv z.cps.size σ H → D.nx σ H) : lp (Its z) g tb D σ H := by
  refine ⟨fun i m σ H => m = z.cps.size - i ∧ i ≤ z.cps.size ∧ Pv i σ H, ⟨z.cps.size, by simp, Nat.zero_le _, h0⟩, ?_⟩
  rintro i m σ H ⟨rfl, hi, p⟩
  by_cases hlt : i < z.cps.size
  · refine .inr ⟨hlt, Pv (i + 1), fun σ' H' p' => ⟨z.cps.size - (i + 1), by omega, rfl, hlt, p'⟩, fun x H' y => ?_⟩
    obtain ⟨e, c, hc, y⟩ := y
    subst e y
    exact hs i c σ _ hc p
  · have e : i = z.cps.size := by omega
    subst e
    exact .inl ⟨Nat.le_refl _, hd σ H p⟩
/-- while, by a word and a measure -/
def wTurn (W : Nat → L2.St → Hp → Prop) (m : Nat) (tb : TS) : TS := fun D σ H => ∃ N : L2.St → Hp → Prop, (∀ σ' H', N σ' H' → ∃ m', m' < m ∧ W m' σ' H') ∧ Turn1 tb D N σ H
theorem rd_wTurn {W : Nat → L2.St → Hp → Prop} {m : Nat} (h : Turn1 tb D (fun σ' H' => ∃ m', m' < m ∧ W m' σ' H') σ H) : wTurn W m tb D σ H := ⟨_, fun _ _ p => p, h⟩
theorem rd_while {c : TT} (W : Nat → L2.St → Hp → Prop) (m : Nat) (h0 : W m σ H)
    (hs : ∀ m σ H, W m σ H → c σ H fun b H1 => if b = true then wTurn W m tb D σ H1 else D.nx σ H1) : tWhile c tb D σ H := ⟨W, ⟨m, h0⟩, fun m σ H w => hs m σ H w⟩
/-! ### comprehensions -/
variable {tt : TT} {vs : List Nat}
def lc (J : It) (g : TG) (tt : TT) (te : TE) (vs : List Nat) : TE := tLc (fun _ H R => R J H) g tt te vs
theorem rd_lc (h : wi σ H fun J H1 => lc J g tt te vs σ H1 Q) : tLc wi g tt te vs σ H Q := h
/-- a turn's end: the new item y is put behind -/
def put1 (D : Addr) (N : Hp → Prop) (y : V) (H4 : Hp) : Prop := ∃ acc, H4 D = some (.lst acc) ∧ acc.length < sizeLine ∧ N (upd H4 D (.lst (acc ++ [y])))
theorem rd_put1 {D : Addr} {acc : List V} {N : Hp → Prop} {y : V} (L : Led H0 H l) (i : Nat) (hi : l[i]? = some (D, .lst acc)) (hz : acc.length < sizeLine) (h : ∀ H5, Led H0 H5 (l.set i (D, .lst (acc ++ [y]))) → Ts H H5 → N H5) : put1 D N y H :=
  ⟨acc, L.get i hi, hz, h _ (L.put i hi) (Ts.put (L.get i hi))⟩
theorem lc_rng {lo : Int} {n : Nat} {vs : List Nat} (L : Led H0 H l)
    (h : ∀ D H1, Led H0 H1 ((D, .lst []) :: l) → Ts H H1 → ∃ Pv : Nat → Hp → Prop, Pv 0 H1 ∧
      (∀ i H1, i < n → Pv i H1 → g (.int (lo + (i : Nat))) (wipe σ vs) H1 fun σ2 H2 => wipe σ2 vs = wipe σ vs ∧ tt σ2 H2 fun b H3 => if b = true then te σ2 H3 (put1 D (Pv (i + 1))) else Pv (i + 1) H3) ∧
      (∀ H1, Pv n H1 → Q (.ref D) H1)) : lc (Itr lo n) g tt te vs σ H Q := by
  intro D hD
  obtain ⟨Pv, h0, hs, hd⟩ := h D _ (L.push hD) (Ts.of (Same.push hD))
  exact lc_range Pv h0 hs hd
theorem lc_lst {vs : List Nat} (L : Led H0 H l)
    (h : ∀ D H1, Led H0 H1 ((D, .lst []) :: l) → Ts H H1 → ∃ Pv : Nat → Hp → Prop, Pv 0 H1 ∧ (∀ i H, i ≤ xs.length → Pv i H → SqL K H a xs) ∧
      (∀ i x H1, xs[i]? = some x → Pv i H1 → g x (wipe σ vs) H1 fun σ2 H2 => wipe σ2 vs = wipe σ vs ∧ tt σ2 H2 fun b H3 => if b = true then te σ2 H3 (put1 D (Pv (i + 1))) else Pv (i + 1) H3) ∧
      (∀ H1, Pv xs.length H1 → Q (.ref D) H1)) : lc (Itl K a) g tt te vs σ H Q := by
  intro D hD
  obtain ⟨Pv, h0, hl, hs, hd⟩ := h D _ (L.push hD) (Ts.of (Same.push hD))
  exact L2.lc_list Pv h0 hl hs hd
/-- a list of what f tells of each place -/
def mapW (H0 H : Hp) (l : List (Addr × HO)) (f : Nat → V) (D : Addr) (i : Nat) (H2 : Hp) : Prop := Led H0 H2 ((D, .lst ((List.range i).map f)) :: l) ∧ Ts H H2
theorem rd_mapEnd {f : Nat → V} {i : Nat} {D : Addr} {H3 : Hp} (l' : List (Addr × HO)) (L : Led H0 H3 (l' ++ (D, .lst ((List.range i).map f)) :: l)) (t : Ts H H3) (hi : i < 1000000) {y : V} (e : y = f i) : put1 D (mapW H0 H l f D (i + 1)) y H3 := by
  subst e
  refine rd_put1 L.drop1 0 rfl (by rw [List.length_map, List.length_range]; exact szl (Nat.le_of_lt hi)) fun H5 L5 t5 => ⟨L5.to ?_, t.trans t5⟩
  rw [List.range_succ, List.map_append]
  rfl
theorem lc_map {n : Nat} {vs : List Nat} (f : Nat → V) (L : Led H0 H l)
    (hs : ∀ i D H1, i < n → Led H0 H1 ((D, .lst ((List.range i).map f)) :: l) → Ts H H1 → g (.int (i : Nat)) (wipe σ vs) H1 fun σ2 H2 => wipe σ2 vs = wipe σ vs ∧ tt σ2 H2 fun b H3 => if b = true then te σ2 H3 (put1 D (mapW H0 H l f D (i + 1))) else mapW H0 H l f D (i + 1) H3)
    (hd : ∀ D H1, Led H0 H1 ((D, .lst ((List.range n).map f)) :: l) → Ts H H1 → Q (.ref D) H1) : lc (Itr 0 n) g tt te vs σ H Q := by
  refine lc_rng L fun D H1 L1 t1 => ⟨mapW H0 H l f D, ⟨L1, t1⟩, fun i H2 hi ⟨L2, t2⟩ => ?_, fun H2 ⟨L2, t2⟩ => hd D H2 L2 t2⟩
  have e : (0 : Int) + (i : Nat) = (i : Nat) := by omega
  rw [e]
  exact hs i D H2 hi L2 t2
theorem gName_mono {i : Nat} : ∀ (x : V) (σ : L2.St) (H : Hp) (R R' : L2.St → Hp → Prop), (∀ σ2 H2, R σ2 H2 → R' σ2 H2) → gName i x σ H R → gName i x σ H R' := fun _ _ _ _ _ h q => h _ _ q
theorem tYes_mono : ∀ (σ : L2.St) (H : Hp) (Q Q' : Bool → Hp → Prop), (∀ b H1, Q b H1 → Q' b H1) → tYes σ H Q → tYes σ H Q' := fun _ _ _ _ h q => h _ _ q
theorem rd_yes {QB : Bool → Hp → Prop} (h : QB true H) : tYes σ H QB := h
end
/-! ### raise -/
structure ExcT (K : PySem.W.Frag) (mg : Str → Option Value) (x : Str) : Prop where
  gl : mg x = some (.ref (He.ga K x))
  xc : PySem.W.excIn K (He.ga K x) He.veBase "ValueError.__new__" = true
  kp : PySem.W.keepIn K (.ref (He.ga K x)) = true
  bs : PySem.W.subIn K (.ref (He.ga K x)) (.type "BaseException") = some true
  ty : PySem.W.typeIn K (.ref (He.ga K x)) = some (.type "type")
def tRz (W : WX) (C : Addr) : TS := fun _ σ H => W (.ref C) none σ H
theorem ps_rz {X : Cx} {W : WX} {x m : Str} {j : Nat} {p p2 pos pos2 : Pos} (T : ExcT X.K X.mg x) (hc : X.calm = true) (tk : Takes X W) (hg : Gl X x) (hdb : (x == ("__debug__" : Str)) = false := by decide) :
    PS X (.Raise (some (.Call (.Name x p) [.Constant (.str m) j p2] [] pos)) none pos2) (tRz W (He.ga X.K x)) :=
  ps_raise hc tk (pmk_own PySem.F.excBase_ValueError T.xc T.gl T.kp (raises_own T.bs T.ty) hg hdb)
theorem rd_rz {W : WX} {C : Addr} {D : Ends} {σ : L2.St} {H : Hp} (h : W (.ref C) none σ H) : tRz W C D σ H := h
/-! ### isinstance of what a suite holds -/
def gIsE (K : PySem.W.Frag) (a : Addr) (cls : Value) (d : Option Addr) : List V → Hp → VK → Prop := fun xs H Q => ∃ (D : Addr) (c : V) (cv : Value) (b : Bool), cls = .ref D ∧ d = none ∧ ExcC K D ∧ xs = [.ref a, c] ∧ (∀ u, RelV c u → u = cv) ∧ PySem.W.kitOne K (.ref D) cv = some b ∧ Q (.bl b) H
theorem cr_isE {X : Cx} {a : Addr} {cls : Value} {d : Option Addr} {oe : Obj} {pn : List (Addr × Obj)} (hz : Zc cls d oe) (hf : ∃ vs, oe.data = .fields vs) : CallR (X.suite a ((a, oe) :: pn)) (.builtin "isinstance") (gIsE X.K a cls d) := by
  intro pins s σ H xs us Q I r h
  obtain ⟨D, c, cv, b, rfl, rfl, C, h⟩ := h
  exact call_isE (X := X) C hz hf pins s σ H xs us Q I r ⟨c, cv, b, h⟩
theorem rd_isE {K : PySem.W.Frag} {a D C : Addr} {H : Hp} {Q : VK} {b : Bool} (E : ExcC K D) (hk : PySem.W.kitOne K (.ref D) (.ref C) = some b) (k : Q (.bl b) H) : gIsE K a (.ref D) none [.ref a, .ref C] H Q :=
  ⟨D, _, _, b, rfl, rfl, E, rfl, fun _ r => r, hk, k⟩
theorem rd_isET {K : PySem.W.Frag} {a D : Addr} {H : Hp} {Q : VK} {b : Bool} {n : String} (E : ExcC K D) (hk : PySem.W.kitOne K (.ref D) (.type n) = some b) (k : Q (.bl b) H) : gIsE K a (.ref D) none [.ref a, .ty n] H Q :=
  ⟨D, _, _, b, rfl, rfl, E, rfl, fun _ r => r, hk, k⟩
end Tr
/-! Further rules. -/
namespace Tr
open PySem PySem.Spec PyProof.Rows L2
theorem pe_gint {X : Cx} {x : Str} {n : Int} {pos : Pos} (h : ∃ t, X.mg x = some (.int n t)) (hg : Gl X x) (hd : (x == ("__debug__" : Str)) = false := by decide) : PE X (.Name x pos) (tC (.int n)) := by
  obtain ⟨t, h⟩ := h
  exact pe_glob hg h ⟨t, rfl⟩ hd
theorem ited {p A B : Prop} [Decidable p] (h1 : p → A) (h2 : ¬ p → B) : if decide p = true then A else B := by
  by_cases h : p
  · rw [if_pos (decide_eq_true h)]
    exact h1 h
  · rw [if_neg (by rw [decide_eq_false h]; decide)]
    exact h2 h
theorem itedN {p A B : Prop} [Decidable p] (h1 : ¬ p → A) (h2 : p → B) : if (!decide p) = true then A else B := by
  by_cases h : p
  · rw [if_neg (by rw [decide_eq_true h]; decide)]
    exact h2 h
  · rw [if_pos (by rw [decide_eq_false h]; decide)]
    exact h1 h
theorem iteB {b : Bool} {A B : Prop} (h1 : b = true → A) (h2 : b = false → B) : if b = true then A else B := by
  cases b with
  | true => exact iteT (h1 rfl)
  | false => exact iteF (h2 rfl)
theorem iteBN {b : Bool} {A B : Prop} (h1 : b = false → A) (h2 : b = true → B) : if (!b) = true then A else B := by
  cases b with
  | true => exact iteF (h2 rfl)
  | false => exact iteT (h1 rfl)
/-- == of two lists of ints -/
theorem ints_data (ns : List Int) : ∀ {K : PySem.W.Frag} {H : Hp}, DpAll K H (ns.map V.int) (ns.map PyData.int) := by
  induction ns with
  | nil => intro K H; exact .nil
  | cons n ns ih => intro K H; exact .cons (.int n) ih
end Tr
namespace Tr
open PySem PySem.Spec PyProof.Rows L2
/-! ### slices and places -/
theorem cut_from {xs : List V} {k : Nat} : cutV xs (some (k : Int)) none = xs.drop k := by
  unfold cutV
  rw [HT.sIx_nat, HT.sIx_none]
  by_cases h : k ≤ xs.length
  · rw [Nat.min_eq_left h]
    exact List.take_of_length_le (by rw [List.length_drop]; omega)
  · have e : min k xs.length = xs.length := by omega
    rw [e, List.drop_length, List.drop_eq_nil_of_le (by omega)]
    simp
theorem cut_to {xs : List V} {k : Nat} : cutV xs none (some (k : Int)) = xs.take k := by
  unfold cutV
  rw [HT.sIx_nat, HT.sIx_none, List.drop_zero, Nat.sub_zero]
  by_cases h : k ≤ xs.length
  · rw [Nat.min_eq_left h]
  · have e : min k xs.length = xs.length := by omega
    rw [e, List.take_length, List.take_of_length_le (by omega)]
theorem cut_both {xs : List V} {j k : Nat} : cutV xs (some (j : Int)) (some (k : Int)) = (xs.drop j).take (k - j) := by
  unfold cutV
  rw [HT.sIx_nat, HT.sIx_nat]
  by_cases h : j ≤ xs.length
  · rw [Nat.min_eq_left h]
    by_cases h2 : k ≤ xs.length
    · rw [Nat.min_eq_left h2]
    · have e : min k xs.length = xs.length := by omega
      rw [e, List.take_of_length_le (by rw [List.length_drop]; omega), List.take_of_length_le (by rw [List.length_drop]; omega)]
  · have e : min j xs.length = xs.length := by omega
    rw [e, List.drop_length, List.drop_eq_nil_of_le (by omega)]
    simp
theorem at_int {ls : List Int} {k : Int} (h0 : 0 ≤ k) (hk : k < ls.length) : atI (ls.map V.int) k = some (.int (ls.getD k.toNat 0)) := by
  obtain ⟨j, rfl⟩ : ∃ j : Nat, k = j := ⟨k.toNat, by omega⟩
  have hj : j < ls.length := by omega
  refine atI_nat ?_
  rw [List.getElem?_map, List.getElem?_eq_getElem hj, Int.toNat_natCast, List.getD_eq_getElem?_getD, List.getElem?_eq_getElem hj]
  rfl
theorem mem_take {α : Type} {l : List α} {i : Nat} {x : α} (h : l[i]? = some x) : x ∈ l := List.mem_of_getElem? h
theorem take_sum {ns : List Int} {i : Nat} {n : Int} (h : ns[i]? = some n) : (ns.take (i + 1)).sum = (ns.take i).sum + n := by
  rw [List.take_add_one, h, List.sum_append]
  simp
/-! ### == of lists of ints -/
theorem eqvAll_ints : ∀ (ns ms : List Int), PyData.eqvAll (ns.map PyData.int) (ms.map PyData.int) = decide (ns = ms)
  | [], [] => by simp [PyData.eqvAll]
  | [], _ :: _ => by simp [PyData.eqvAll]
  | _ :: _, [] => by simp [PyData.eqvAll]
  | n :: ns, m :: ms => by
    simp only [List.map_cons, PyData.eqvAll, eqvAll_ints ns ms]
    by_cases h : n = m
    · subst h
      simp [PyData.eqv]
    · simp [PyData.eqv, h]
end Tr
namespace Tr
open PySem PySem.Spec PyProof.Rows L2
theorem depth_ints : ∀ ns : List Int, PyData.depthAll (ns.map PyData.int) = 0
  | [] => by simp only [List.map_nil, PyData.depthAll]
  | n :: ns => by simp only [List.map_cons, PyData.depthAll, PyData.depth, depth_ints ns, Nat.max_self]
theorem canLay_ints : ∀ ns : List Int, PyData.canLayAll0 (ns.map PyData.int) = true
  | [] => by simp only [List.map_nil, PyData.canLayAll0]
  | n :: ns => by simp only [List.map_cons, PyData.canLayAll0, PyData.canLay0, canLay_ints ns, Bool.and_self]
theorem shaped_ints (ns : List Int) : SeqAt.shaped (.list (ns.map PyData.int)) = true := by
  unfold SeqAt.shaped
  simp only [PyData.canLay0, canLay_ints, PyData.depth, depth_ints, Bool.true_and]
  decide
theorem eqv_ints (ns ms : List Int) : PyData.eqv (.list (ns.map PyData.int)) (.list (ms.map PyData.int)) = decide (ns = ms) := by
  rw [PyData.eqv, eqvAll_ints]
section
variable {K : PySem.W.Frag} {H : Hp} {Q : VK} {p q : Addr} {ns ms : List Int}
theorem dp_ints (h : SqL K H p (ns.map V.int)) : Dp K H (.ref p) (.list (ns.map PyData.int)) := .lst h (ints_data ns)
theorem rd_eqL (h1 : SqL K H p (ns.map V.int)) (h2 : SqL K H q (ms.map V.int)) (k : Q (.bl (decide (ns = ms))) H) : gEq K (.ref p) (.ref q) H Q :=
  rd_eqD (dp_ints h1) (dp_ints h2) (shaped_ints ns) (shaped_ints ms) (by rw [eqv_ints]; exact k)
theorem rd_neL (h1 : SqL K H p (ns.map V.int)) (h2 : SqL K H q (ms.map V.int)) (k : Q (.bl (!decide (ns = ms))) H) : gNe K (.ref p) (.ref q) H Q :=
  rd_neD (dp_ints h1) (dp_ints h2) (shaped_ints ns) (shaped_ints ms) (by rw [eqv_ints]; exact k)
end
/-! ### the promises of pure defs -/
/-- a new list -/
def newL (H : Hp) (Q : VK) (xs : List V) : Prop := ∀ p H', Led H H' [(p, .lst xs)] → Q (.ref p) H'
/-- nothing but a value -/
def newV (H : Hp) (Q : VK) (v : V) : Prop := ∀ H', Led H H' [] → Q v H'
/-- an error -/
def newE (K : PySem.W.Frag) (H : Hp) (E : XK) (x : Str) : Prop := ∀ H', Led H H' [] → E (.ref (He.ga K x)) none H'
end Tr
namespace Tr
open PySem PySem.Spec PyProof.Rows L2
/-! ### the rules with the written part named -/
section
variable {X : Cx} (K : PySem.W.Frag)
theorem kLen (h : X.K = K := by rfl) : CallR X (.builtin "len") (gLen K) := h ▸ cr_len
theorem kSum (hc : X.calm = true) (h : X.K = K := by rfl) : CallR X (.builtin "sum") (rSum K) := h ▸ cr_sum hc
theorem kMax (hc : X.calm = true) (h : X.K = K := by rfl) : CallR X (.builtin "max") (gMax K) := h ▸ cr_gMax hc
theorem kMin (hc : X.calm = true) (h : X.K = K := by rfl) : CallR X (.builtin "min") (gMin K) := h ▸ cr_gMin hc
theorem kSorted (h : X.K = K := by rfl) : CallR X (.builtin "sorted") (rSortedI K) := h ▸ cr_sortedI
theorem kIsi (h : X.K = K := by rfl) : CallR X (.builtin "isinstance") (rIsi K) := h ▸ call_isi
theorem kList (h : X.K = K := by rfl) : CallR X (.type "list") (gList K) := h ▸ cr_list
theorem kTuple (h : X.K = K := by rfl) : CallR X (.type "tuple") (gTuple K) := h ▸ cr_tuple
theorem kEq (hu : X.A.units + 64 < cLine) (h : X.K = K := by rfl) : OpR X (compareOp .Eq) (gEq K) := h ▸ op_gEq hu
theorem kNe (hu : X.A.units + 64 < cLine) (h : X.K = K := by rfl) : OpR X (compareOp .NotEq) (gNe K) := h ▸ op_gNe hu
theorem kIx (h : X.K = K := by rfl) : IxR X (rIx K) := h ▸ ix_seq
theorem kSl (h : X.K = K := by rfl) : SlR X (rSlL K) := h ▸ sl_list
theorem kCount (h : X.K = K := by rfl) : MtR X "list.count" (rCntI K) := h ▸ mt_lcount
theorem kIndex (h : X.K = K := by rfl) : MtR X "list.index" (rIndex K) := h ▸ mt_index
variable {tg : Expr} {l : Expr} {tl : TE}
theorem kiList (hl : PE X l tl) (h : X.K = K := by rfl) : PI X tg l (iList K tl) := h ▸ pi_list hl
theorem kiTup (hl : PE X l tl) (h : X.K = K := by rfl) : PI X tg l (iTup K tl) := h ▸ pi_tup hl
variable {o e : Expr} {es : List Expr} {to : TE} {t : TA} {name : Str} {apos cpos : Pos} {T id : String} {r : V → List V → Hp → VK → Prop}
theorem kbm0 (pa : PlainAttrs T) (slot : Slot T name id) (hty : typeOf (.builtin id) = pure (.type "method_descriptor")) (hm : MtR X id r) (ho : PE X o to)
    (h : X.K = K := by rfl) (hbase : attributeBase o name X.env (eval o X.env) = eval o X.env := by rfl) (hline : (apos.endLine == cpos.line) = true := by rfl) : PE X (.Call (.Attribute o name apos) [] [] cpos) (tBM0 K T r to) :=
  h ▸ pe_bm0 pa slot hty hm ho hbase hline
theorem kbm (pa : PlainAttrs T) (slot : Slot T name id) (hty : typeOf (.builtin id) = pure (.type "method_descriptor")) (hm : MtR X id r) (ho : PE X o to) (ha : PA X (e :: es) t)
    (h : X.K = K := by rfl) (hbase : attributeBase o name X.env (eval o X.env) = eval o X.env := by rfl)
    (hfew : ((backTo cpos (starEach (e :: es) X.env)).all (fun x => !x.1) && (backToKw cpos (keywordEach [] X.env)).all (fun x => x.1.isSome)
      && decide ((e :: es).length + ([] : List Keyword).length + (if ([] : List Keyword).isEmpty then 0 else 1) < 30)) = true := by rfl)
    (hline : (apos.endLine == cpos.line) = true := by rfl) (hs : starEach (e :: es) X.env = (false, eval e X.env) :: starEach es X.env := by rfl) (hplain : (backTo cpos (starEach es X.env)).any (·.1) = false := by rfl) :
    PE X (.Call (.Attribute o name apos) (e :: es) [] cpos) (tBM K T r to t) := h ▸ pe_bm pa slot hty hm ho ha hbase hfew hline hs hplain
end
end Tr
namespace Tr
theorem iteNT {A B : Prop} (h : B) : if (!true) = true then A else B := L2.iteF h
theorem iteNF {A B : Prop} (h : A) : if (!false) = true then A else B := L2.iteT h
end Tr
namespace Tr
open PySem PySem.Spec PyProof.Rows L2
/-! ### == of lists of truths -/
theorem bools_data (ns : List Bool) : ∀ {K : PySem.W.Frag} {H : Hp}, DpAll K H (ns.map V.bl) (ns.map PyData.bool) := by
  induction ns with
  | nil => intro K H; exact .nil
  | cons n ns ih => intro K H; exact .cons (.bl n) ih
theorem eqvAll_bools : ∀ (ns ms : List Bool), PyData.eqvAll (ns.map PyData.bool) (ms.map PyData.bool) = decide (ns = ms)
  | [], [] => by simp [PyData.eqvAll]
  | [], _ :: _ => by simp [PyData.eqvAll]
  | _ :: _, [] => by simp [PyData.eqvAll]
  | n :: ns, m :: ms => by
    simp only [List.map_cons, PyData.eqvAll, eqvAll_bools ns ms]
    by_cases h : n = m
    · subst h
      simp [PyData.eqv]
    · simp [PyData.eqv, h]
theorem depth_bools : ∀ ns : List Bool, PyData.depthAll (ns.map PyData.bool) = 0
  | [] => by simp only [List.map_nil, PyData.depthAll]
  | n :: ns => by simp only [List.map_cons, PyData.depthAll, PyData.depth, depth_bools ns, Nat.max_self]
theorem canLay_bools : ∀ ns : List Bool, PyData.canLayAll0 (ns.map PyData.bool) = true
  | [] => by simp only [List.map_nil, PyData.canLayAll0]
  | n :: ns => by simp only [List.map_cons, PyData.canLayAll0, PyData.canLay0, canLay_bools ns, Bool.and_self]
theorem shaped_bools (ns : List Bool) : SeqAt.shaped (.list (ns.map PyData.bool)) = true := by
  unfold SeqAt.shaped
  simp only [PyData.canLay0, canLay_bools, PyData.depth, depth_bools, Bool.true_and]
  decide
section
variable {K : PySem.W.Frag} {H : Hp} {Q : VK} {p q : Addr}
theorem rd_eqBs (ns ms : List Bool) (h1 : SqL K H p (ns.map V.bl)) (h2 : SqL K H q (ms.map V.bl)) (k : Q (.bl (decide (ns = ms))) H) : gEq K (.ref p) (.ref q) H Q :=
  rd_eqD (.lst h1 (bools_data ns)) (.lst h2 (bools_data ms)) (shaped_bools ns) (shaped_bools ms) (by
    rw [PyData.eqv, eqvAll_bools]
    exact k)
theorem rd_neBs (ns ms : List Bool) (h1 : SqL K H p (ns.map V.bl)) (h2 : SqL K H q (ms.map V.bl)) (k : Q (.bl (!decide (ns = ms))) H) : gNe K (.ref p) (.ref q) H Q :=
  rd_neD (.lst h1 (bools_data ns)) (.lst h2 (bools_data ms)) (shaped_bools ns) (shaped_bools ms) (by
    rw [PyData.eqv, eqvAll_bools]
    exact k)
end
theorem Led.fresh0 {H0 H : Hp} (L : Led H0 H []) : Led H0 H [] := L
/-- only what stands in front is kept -/
theorem Led.only {H0 H : Hp} {l : List (Addr × HO)} {x : Addr × HO} (L : Led H0 H (x :: l)) : Led H0 H [x] := L.sub (List.Sublist.cons_cons _ (List.nil_sublist _))
theorem Led.none {H0 H : Hp} {l : List (Addr × HO)} (L : Led H0 H l) : Led H0 H [] := L.sub (List.nil_sublist _)
end Tr
namespace Tr
open PySem PySem.Spec PyProof.Rows L2
section
variable {K : PySem.W.Frag} {H : Hp} {Q : VK} {p q : Addr} {ns : List Int}
theorem rd_eqLs (h1 : SqL K H p (ns.map V.int)) (h2 : SqL K H q (ns.map V.int)) (k : Q (.bl true) H) : gEq K (.ref p) (.ref q) H Q := rd_eqL h1 h2 (by
  rw [decide_eq_true rfl]
  exact k)
theorem rd_neLs (h1 : SqL K H p (ns.map V.int)) (h2 : SqL K H q (ns.map V.int)) (k : Q (.bl false) H) : gNe K (.ref p) (.ref q) H Q := rd_neL h1 h2 (by
  rw [decide_eq_true rfl]
  exact k)
end
/-- a plain «if c: x = v» -/
theorem if_asg {c : Prop} [Decidable c] {v w : V} {i : Nat} {D : Ends} {σ : L2.St} {H : Hp} (hw : σ[i]? = some (some w)) (h : D.nx (σ.set i (some (if c then v else w))) H) : if decide c = true then tAsg (tC v) (gName i) D σ H else tNext D σ H := by
  refine ited (fun hc => ?_) (fun hc => ?_)
  · rw [if_pos hc] at h
    exact h
  · rw [if_neg hc] at h
    have e : σ.set i (some w) = σ := by
      apply List.ext_getElem?
      intro j
      rw [List.getElem?_set]
      by_cases hj : i = j
      · subst hj
        rw [if_pos rfl, if_pos (List.getElem?_eq_some_iff.mp hw).1, hw]
      · rw [if_neg hj]
    rw [e] at h
    exact h
end Tr
namespace Tr
open PySem PySem.Spec PyProof.Rows L2
/-- an if whose ways come together: N is what stands behind it -/
theorem if_two {c : Prop} [Decidable c] {t u : TS} {D : Ends} {σ : L2.St} {H : Hp} (N : L2.St → Hp → Prop) (h0 : ∀ σ H, N σ H → D.nx σ H)
    (h1 : ∀ nx' : L2.St → Hp → Prop, (∀ σ H, N σ H → nx' σ H) → c → t { D with nx := nx' } σ H) (h2 : ∀ nx' : L2.St → Hp → Prop, (∀ σ H, N σ H → nx' σ H) → ¬ c → u { D with nx := nx' } σ H) : if decide c = true then t D σ H else u D σ H :=
  ited (fun c => h1 D.nx h0 c) (fun c => h2 D.nx h0 c)
/-- a statement behind which N stands -/
theorem st_cut {t : TS} {D : Ends} {σ : L2.St} {H : Hp} (N : L2.St → Hp → Prop) (h0 : ∀ σ H, N σ H → D.nx σ H) (h1 : ∀ nx' : L2.St → Hp → Prop, (∀ σ H, N σ H → nx' σ H) → t { D with nx := nx' } σ H) : t D σ H := h1 D.nx h0
/-! ### index, backwards -/
section
variable {H0 H : Hp} {l : List (Addr × HO)} {Q : VK} {K : PySem.W.Frag} {a : Addr} {xs : List V} {σ : L2.St} {te : TE}
theorem idx_first {n : Int} : ∀ {ns : List Int}, n ∈ ns → ∃ j, j < ns.length ∧ ns[j]? = some n ∧ ∀ m z, m < j → ns[m]? = some z → z ≠ n
  | x :: r, h => by
    by_cases e : x = n
    · exact ⟨0, by simp, by simp [e], fun m z hm => absurd hm (Nat.not_lt_zero _)⟩
    · have h' : n ∈ r := by
        rcases List.mem_cons.mp h with h | h
        · exact absurd h.symm e
        · exact h
      obtain ⟨j, h1, h2, h3⟩ := idx_first h'
      refine ⟨j + 1, by simpa using h1, by simpa using h2, fun m z hm hz => ?_⟩
      cases m with
      | zero =>
        have : x = z := by simpa using hz
        subst this
        exact e
      | succ m => exact h3 m z (by omega) (by simpa using hz)
theorem rd_index {ns : List Int} {n : Int} (hs : SqL K H a (ns.map V.int)) (hn : n ∈ ns) (k : ∀ j : Nat, j < ns.length → ns[j]? = some n → (∀ m z, m < j → ns[m]? = some z → z ≠ n) → Q (.int j) H) : rIndex K (.ref a) [.int n] H Q := by
  obtain ⟨j, h1, h2, h3⟩ := idx_first hn
  refine ⟨a, ns.map V.int, .int n, j, .int n, rfl, rfl, hs, rfl, ?_, ?_, ?_, ?_, k j h1 h2 h3⟩
  · rw [List.all_map]
    exact List.all_eq_true.mpr fun _ _ => rfl
  · rw [List.getElem?_map, h2]
    rfl
  · show (n == n) = true
    simp
  · intro m z' hm hz
    rw [List.getElem?_map] at hz
    cases e : ns[m]? with
    | none => rw [e] at hz; cases hz
    | some z =>
      rw [e] at hz
      cases hz
      have := h3 m z hm e
      show (z == n) = false
      simpa using this
def revL1 (K : PySem.W.Frag) (x : V) (H : Hp) (Q : VK) : Prop := ∃ a xs, x = .ref a ∧ SqL K H a xs ∧ ∀ p, H p = none → Q (.ref p) (upd H p (.lst xs.reverse))
theorem rd_revL (h : te σ H fun x H1 => revL1 K x H1 Q) : tRevL K te σ H Q := h
theorem rd_revL1 (L : Led H0 H l) (hs : SqL K H a xs) (k : ∀ p H', Led H0 H' ((p, .lst xs.reverse) :: l) → Ts H H' → Q (.ref p) H') : revL1 K (.ref a) H Q := ⟨a, xs, rfl, hs, fun p hp => k p _ (L.push hp) (Ts.of (Same.push hp))⟩
end
end Tr
namespace Tr
open PySem PySem.Spec PyProof.Rows L2
section
variable {H0 H : Hp} {l : List (Addr × HO)} {Q : VK} {K : PySem.W.Frag} {a : Addr} {σ : L2.St} {te : TE} {g : TG} {tt : TT} {vs : List Nat}
/-- a list of what f tells of each item -/
def mapI (H0 H : Hp) (l : List (Addr × HO)) (ns : List Int) (f : Int → V) (D : Addr) (i : Nat) (H2 : Hp) : Prop := Led H0 H2 ((D, .lst ((ns.take i).map f)) :: l) ∧ Ts H H2
theorem rd_mapIEnd {ns : List Int} {f : Int → V} {i : Nat} {n : Int} {D : Addr} {H3 : Hp} (l' : List (Addr × HO)) (L : Led H0 H3 (l' ++ (D, .lst ((ns.take i).map f)) :: l)) (t : Ts H H3) (hn : ns[i]? = some n) (hi : i < 1000000) {y : V} (e : y = f n) : put1 D (mapI H0 H l ns f D (i + 1)) y H3 := by
  subst e
  refine rd_put1 L.drop1 0 rfl (by rw [List.length_map, List.length_take]; exact szl (m := i) (Nat.min_le_left _ _)) fun H5 L5 t5 => ⟨L5.to ?_, t.trans t5⟩
  rw [List.take_add_one, hn, List.map_append]
  rfl
theorem lc_mapI {ns : List Int} (f : Int → V) (L : Led H0 H l) (hS : ∀ H1, Ts H H1 → Same H0 H1 → (∀ l1, Led H0 H1 (l1 ++ l) → SqL K H1 a (ns.map V.int)))
    (hs : ∀ i n D H1, ns[i]? = some n → Led H0 H1 ((D, .lst ((ns.take i).map f)) :: l) → Ts H H1 → g (.int n) (wipe σ vs) H1 fun σ2 H2 => wipe σ2 vs = wipe σ vs ∧ tt σ2 H2 fun b H3 => if b = true then te σ2 H3 (put1 D (mapI H0 H l ns f D (i + 1))) else mapI H0 H l ns f D (i + 1) H3)
    (hd : ∀ D H1, Led H0 H1 ((D, .lst (ns.map f)) :: l) → Ts H H1 → Q (.ref D) H1) : lc (Itl K a) g tt te vs σ H Q := by
  refine lc_lst (xs := ns.map V.int) L fun D H1 L1 t1 => ⟨mapI H0 H l ns f D, ⟨L1, t1⟩, fun i H2 _ ⟨L2, t2⟩ => hS H2 t2 L2.same [_] L2, fun i x H2 hx ⟨L2, t2⟩ => ?_, fun H2 ⟨L2, t2⟩ => hd D H2 (L2.to (by rw [List.length_map, List.take_length])) t2⟩
  rw [List.getElem?_map] at hx
  cases e : ns[i]? with
  | none => rw [e] at hx; cases hx
  | some n =>
    rw [e] at hx
    cases hx
    exact hs i n D H2 e L2 t2
end
end Tr
/-! list(reversed(x)), x a list or a tuple. -/
namespace Tr
open PySem PySem.Spec PyProof.Rows L2 RT
theorem tup_at {h h' : Heap} {a : Addr} {items : Array Value} (x : IsTup h a items) (k : ∀ o, h.get? a = some o → h'.get? a = some o) : IsTup h' a items := let ⟨o, e, r⟩ := x; ⟨o, k o e, r⟩
section
variable {prog : Program} {w : World} {A : Around} {E : Value → Shared → Prop} {s : Shared}
theorem rt_nolen : typeLookup (.type "reversed") "__len__" = pure none := by rw [typeLookup_type, builtinLookup_eq_fast]; kernel_rfl
theorem rt_hint : typeLookup (.type "reversed") "__length_hint__" = pure (some (.builtin "reversed.__length_hint__")) := by rw [typeLookup_type, builtinLookup_eq_fast]; kernel_rfl
theorem rt_hint_slot : Slot "reversed" "__length_hint__" "reversed.__length_hint__" :=
  .of (owner := "reversed") (n := "__length_hint__") rt_hint (by decide +kernel) (by decide +kernel) (by decide +kernel)
    (by first | exact .inl (by decide +kernel) | exact .inr (by decide +kernel)) (by rw [isSubtype_type]; kernel_rfl)
theorem rt_hint_entry : entryFor table "reversed.__length_hint__" = some Builtin.«reversed.__length_hint__» := entryFor_of_tree (by kernel_rfl)
theorem rt_hint_args (a : Value) : argsOk "reversed.__length_hint__" ⟨[a], []⟩ := by
  unfold argsOk; rw [signature?_of (id := "reversed.__length_hint__") (n := "__length_hint__".toList.reverse) (o := "reversed".toList.reverse) (by kernel_rfl) owner_rt]; kernel_rfl
theorem rt_hint_call {I t : Addr} {items : Array Value} {Q : Value → Shared → Prop} (hit : IsRt s.heap I t ((items.size : Int) - 1)) (ht : IsTup s.heap t items) (hn : items.size ≤ sizeLine)
    (h : ∀ tk u, Q (.int items.size u) { s with toks := tk }) : wpAny (model prog w) A (call (.builtin "reversed.__length_hint__") [.ref I]) Q E s := by
  obtain ⟨o, ho, hc, hd⟩ := id hit
  rw [sizeLine_eq] at hn
  refine wpAny_call_entry rt_hint_slot hit.typeIs rt_hint_entry ?_ (rt_hint_args _)
  unfold Builtin.«reversed.__length_hint__»
  refine wpAny_bind (wpAny_of_eq (a := Value.ref I) rfl ?_)
  refine wpAny_bind (wpAny_field ho hd (x := .ref t) rfl ?_)
  rw [if_neg (by simp)]
  refine wpAny_bind (len_tuple ht (by omega) ?_)
  refine wpAny_bind (wpAny_of_eq (a := some (items.size : Int)) rfl ?_)
  show wpAny _ _ (field (.ref I) 1 >>= _) _ _ _
  refine wpAny_bind (wpAny_field (s := { s with toks := s.toks + 1 + 1 }) ho hd (x := rawInt ((items.size : Int) - 1)) rfl ?_)
  show wpAny _ _ (if (items.size : Int) < (items.size : Int) - 1 + 1 then _ else _) _ _ _
  rw [if_neg (by omega)]
  have e : (items.size : Int) - 1 + 1 = items.size := by omega
  rw [e]
  refine wpAny_bind (wpAny_mkInt (wpAny_pure ⟨_, rfl, h _ _⟩))
theorem hint_tail {n : Nat} {Q : Bool → Shared → Prop} {u : Tok} {F : Option Int → Sem Bool} (h : wpAny (model prog w) A (F (some (n : Int))) Q E s) : wpAny (model prog w) A (asInt? (.int n u) >>= F) Q E s := wpAny_bind (wpAny_of_eq (a := some (n : Int)) rfl h)
theorem rt_hint_of {I t : Addr} {items : Array Value} {Q : Bool → Shared → Prop} (hit : IsRt s.heap I t ((items.size : Int) - 1)) (ht : IsTup s.heap t items) (hn : items.size ≤ sizeLine)
    (h : ∀ tk b, Q b { s with toks := tk }) : wpAny (model prog w) A (Builtin.List.listLengthHint (.ref I)) Q E s := by
  have hT := hit.typeIs
  have hn' := hn
  rw [sizeLine_eq] at hn'
  unfold Builtin.List.listLengthHint
  refine wpAny_bind (wpAny_specialOf hT rt_nolen ?_)
  show wpAny _ A (specialOf (Value.ref I) (Str.ofString "__length_hint__") >>= _) _ _ _
  refine wpAny_bind (wpAny_specialOf hT rt_hint ?_)
  generalize hid : ("reversed.__length_hint__" : String) = id0
  wp_delta
  rw [show splitId id0 = some ("reversed", "__length_hint__") from by subst hid; decide +kernel]
  subst hid
  refine wpAny_bind (wpAny_isInstance (b := true) hT (by rw [isSubtype_type]; kernel_rfl) ?_)
  rw [if_neg (by decide)]
  show wpAny _ _ (rule "list.length-hint.hint" >>= _) _ _ _
  refine wpAny_bind (wpAny_rule ?_)
  refine wpAny_bind (wpAny_of_eq (rt_hint_slot.bind _) ?_)
  refine wpAny_bind (wpAny_attempt (rt_hint_call hit ht hn fun tk u => ?_))
  show wpAny _ _ (asInt? (.int items.size u) >>= _) _ _ _
  refine hint_tail ?_
  have f1 : Builtin.List.listFitsIndex (items.size : Int) = true := fitsIndex_both (by omega) (by omega)
  have f2 : Builtin.List.listTooLong (items.size : Int).toNat = false := notLongL (by rw [Int.toNat_natCast]; exact hn)
  show wpAny _ _ (if (!Builtin.List.listFitsIndex (items.size : Int)) = true then _ else _) _ _ _
  rw [if_neg (by rw [f1]; decide)]
  show wpAny _ _ (if (items.size : Int) < 0 then _ else _) _ _ _
  rw [if_neg (by omega)]
  show wpAny _ _ (if Builtin.List.listTooLong (items.size : Int).toNat = true then _ else _) _ _ _
  rw [if_neg (by rw [f2]; decide)]
  exact wpAny_pure (h _ _)
/-! list(it) -/
/-- the loop that fills a new list -/
theorem fill_new {I l : Addr} {n : Nat} {P : Nat → Value → Prop} {St : Nat → Heap → Prop} {R : Result → Shared → Prop} (W : Walks prog w A.in1 I [I, l] [I] n P St) (hn : n ≤ sizeLine) {S : Addr} {s : Shared} {c : Nat} (hSI : S ≠ I) (hSl : S ≠ l) (hst : St 0 s.heap) (hS : s.heap.get? S = some { cls := .type "list", data := .seq #[] c })
    (hR : ∀ h' tk acc c', (∀ b o, b ≠ S → b ≠ I → s.heap.get? b = some o → h'.get? b = some o) → h'.get? S = some { cls := .type "list", data := .seq acc c' } → ItemsOf P acc n → R (.ok (.ret .none)) { s with heap := h', toks := tk }) :
    codeAny (model prog w) A (.builtin "list.extend.loop" ⟨[.ref S, .ref I, .none], []⟩) R s := by
  have hSf : S ∉ [I, l] := by simp [hSI, hSl]
  refine codeAny_extend_loopS W.toS hn S hSf .none n 0 s #[] c rfl (Nat.zero_le _) hst hS (ItemsOf.nil P) fun s' acc c' hm hS' hacc => ?_
  rw [Moved.eq_with hm]
  refine hR s'.heap s'.toks acc c' (fun b o h1 h2 e => hm.heap b o (fun hb => ?_) e) hS' hacc
  rcases List.mem_cons.mp hb with z | z
  · exact h1 z
  · exact h2 (List.mem_singleton.mp z)
/-- list.__init__ of a new list at S, from an iterator -/
theorem init_of_it {I l : Addr} {n : Nat} {P : Nat → Value → Prop} {St : Nat → Heap → Prop} {R : Result → Shared → Prop} {T : String} (W : Walks prog w A.in1 I [I, l] [I] n P St) (hn : n ≤ sizeLine) {S : Addr} {s : Shared} (hSI : S ≠ I) (hSl : S ≠ l) (hst : St 0 s.heap)
    (hS : s.heap.get? S = some { cls := .type "list", data := .seq #[] }) (hT : ∀ s : Shared, St 0 s.heap → s.TypeIs (.ref I) T) (t1 : (Value.type T == Value.type "list") = false) (t2 : (Value.type T == Value.type "tuple") = false)
    (hint : ∀ (s : Shared) (Q : Bool → Shared → Prop) (E : Value → Shared → Prop), St 0 s.heap → (∀ tk b, Q b { s with toks := tk }) → wpAny (model prog w) A.in1 (Builtin.List.listLengthHint (.ref I)) Q E s)
    (hR : ∀ h' tk acc c', (∀ b o, b ≠ S → b ≠ I → s.heap.get? b = some o → h'.get? b = some o) → h'.get? S = some { cls := .type "list", data := .seq acc c' } → ItemsOf P acc n → R (.ok (.ret .none)) { s with heap := h', toks := tk }) :
    wpAny (model prog w) A.in1 (Builtin.«list.__init__» ⟨[.ref S, .ref I], []⟩)
      (fun fin s' => match fin with | .done f => R (.ok f) s' | .again c' => c'.quiet = true ∧ codeAny (model prog w) A c' R s') (fun e s' => R (.error e) s') s := by
  show wpAny _ _ (do let old ← Builtin.List.listItems (.ref S); Builtin.List.listUpdate (.ref S) (fun _ => #[]); letGo old.toList.reverse; Builtin.List.listExtendWith (.ref S) (.ref I) .none) _ _ s
  refine wpAny_bind ?_
  unfold Builtin.List.listItems
  refine wpAny_bind (wpAny_seqItems hS rfl (wpAny_pure ?_))
  show wpAny _ _ (updateSeq S (fun _ => #[]) >>= fun _ => letGo (#[] : Array Value).toList.reverse >>= fun _ => Builtin.List.listExtendWith (.ref S) (.ref I) .none) _ _ s
  refine wpAny_bind (wpAny_updateSeq hS rfl ?_)
  have hS2 := Heap.get?_update_self (Obj.mapSeq (fun _ => (#[] : Array Value))) hS rfl
  have oth : ∀ b o, b ≠ S → s.heap.get? b = some o → (s.heap.update S (Obj.mapSeq (fun _ => (#[] : Array Value)))).get? b = some o :=
    fun b o hb e => (Heap.get?_update_other _ _ (Ne.symm hb)).trans e
  refine wpAny_bind (wpAny_letGo ?_)
  generalize hs2 : s.heap.update S (Obj.mapSeq (fun _ => (#[] : Array Value))) = h2 at hS2 oth ⊢
  have st2 : St 0 h2 := W.frame 0 _ _ hst fun b hb o e => oth b o (fun z => by
    subst z
    rcases List.mem_cons.mp hb with z | z
    · exact hSI z
    · exact hSl (List.mem_singleton.mp z)) e
  unfold Builtin.List.listExtendWith
  refine wpAny_bind (wpAny_typeOf (hT { s with heap := h2 } st2) ?_)
  have g1 : Builtin.List.listSameRef (.ref S) (.ref I) = false := by simp [Builtin.List.listSameRef, hSI]
  rw [if_neg (by rw [g1, t1, t2]; decide)]
  refine wpAny_bind (W.self 0 { s with heap := h2 } _ _ st2 ?_)
  refine wpAny_bind (wpAny_holding (hint { s with heap := h2 } _ _ st2 fun tk b => ?_))
  have fin : ∀ (h : Heap) (c : Nat), (∀ b o, b ≠ S → h2.get? b = some o → h.get? b = some o) → h.get? S = some { cls := .type "list", data := .seq #[] c } →
      codeAny (model prog w) A (.builtin "list.extend.loop" ⟨[.ref S, .ref I, .none], []⟩) R { s with heap := h, toks := tk } := by
    intro h c hk hSh
    refine fill_new W hn hSI hSl (s := { s with heap := h, toks := tk }) (W.frame 0 _ _ st2 fun b hb o e => hk b o (fun z => by
      subst z
      rcases List.mem_cons.mp hb with z | z
      · exact hSI z
      · exact hSl (List.mem_singleton.mp z)) e) hSh fun h' tk' acc c' k1 k2 k3 => ?_
    exact hR h' tk' acc c' (fun b o n1 n2 e => k1 b o n1 n2 (hk b o n1 (oth b o n1 e))) k2 k3
  refine wpAny_ite_split (fun _ => ?_) (fun _ => wpAny_pure ⟨plainId_quiet F.plain_extend_loop _, fin _ _ (fun _ _ _ e => e) hS2⟩)
  refine wpAny_bind (wpAny_rule ?_)
  refine wpAny_bind ?_
  show wpAny _ _ (updateSeq S (·.push .none) >>= fun _ => updateSeq S (·.pop)) _ _ _
  refine wpAny_bind (wpAny_updateSeq (s := { s with heap := h2, toks := tk }) hS2 rfl ?_)
  have hS3 := Heap.get?_update_self (Obj.mapSeq (·.push Value.none)) hS2 rfl
  refine wpAny_updateSeq (hz := by seq_fits) hS3 rfl ?_
  have hS4 := Heap.get?_update_self (Obj.mapSeq (·.pop)) hS3 rfl
  exact wpAny_pure ⟨plainId_quiet F.plain_extend_loop _, fin _ _ (fun b o hb e => (Heap.get?_update_other _ _ (Ne.symm hb)).trans ((Heap.get?_update_other _ _ (Ne.symm hb)).trans e)) hS4⟩
/-- list(it) -/
theorem call_list_it {I l : Addr} {n : Nat} {P : Nat → Value → Prop} {St : Nat → Heap → Prop} {T : String} {Q : Value → Shared → Prop} (W : Walks prog w A.in1.in1 I [I, l] [I] n P St) (hn : n ≤ sizeLine) (hI : I < s.heap.objs.size) (hl : l < s.heap.objs.size) (hst : St 0 s.heap)
    (hT : ∀ s : Shared, St 0 s.heap → s.TypeIs (.ref I) T) (t1 : (Value.type T == Value.type "list") = false) (t2 : (Value.type T == Value.type "tuple") = false)
    (hint : ∀ (s : Shared) (Q : Bool → Shared → Prop) (E : Value → Shared → Prop), St 0 s.heap → (∀ tk b, Q b { s with toks := tk }) → wpAny (model prog w) A.in1.in1 (Builtin.List.listLengthHint (.ref I)) Q E s)
    (hQ : ∀ h' tk acc c', (∀ b o, b ≠ I → s.heap.get? b = some o → h'.get? b = some o) → h'.get? s.heap.objs.size = some { cls := .type "list", data := .seq acc c' } → ItemsOf P acc n → Q (.ref s.heap.objs.size) { s with heap := h', toks := tk }) :
    wpAny (model prog w) A (call (.type "list") [.ref I]) Q E s := by
  refine callType_codes (Q₁ := fun obj s₁ => obj = .ref s.heap.objs.size ∧ s₁ = { s with heap := s.heap.push { cls := .type "list", data := .seq #[] } }) F.called_list (F.typeCall_list_1 _) F.entry_list_init
    (code_list_new _ ⟨rfl, rfl⟩) fun obj s₁ h₁ => ?_
  obtain ⟨rfl, rfl⟩ := h₁
  have hS : (s.heap.push { cls := .type "list", data := .seq #[] }).get? s.heap.objs.size = some { cls := .type "list", data := .seq #[] } := Heap.get?_push_size _ rfl
  have hSI : s.heap.objs.size ≠ I := Nat.ne_of_gt hI
  have hSl : s.heap.objs.size ≠ l := Nat.ne_of_gt hl
  refine ⟨⟨_, hS, rfl⟩, F.args_list_init_2 _ _, init_of_it (A := A.in1) W hn hSI hSl (W.frame 0 _ _ hst fun b _ o e => Heap.get?_push_of_some _ e) hS hT t1 t2 hint fun h' tk acc c' hk hS' hacc => ?_⟩
  exact ⟨rfl, hQ h' tk acc c' (fun b o hb e => hk b o (Nat.ne_of_lt (Heap.lt_size e)) hb (Heap.get?_push_of_some _ e)) hS' hacc⟩
/-- what reversed(a tuple) walks -/
theorem walks_rt (hh : A.handled = none) (I t : Addr) (hne : t ≠ I) (items : Array Value) (hn : items.size ≤ sizeLine) :
    Walks prog w A I [I, t] [I] items.size (fun i v => items[items.size - 1 - i]? = some v) (fun i h => i ≤ items.size ∧ RT.IsRt h I t ((items.size : Int) - 1 - (i : Int)) ∧ IsTup h t items) where
  sub := by intro b hb; simp at hb; simp [hb]
  frame := by
    rintro _ h h' ⟨x1, x2, x3⟩ hk
    exact ⟨x1, x2.at (hk I (by simp)), tup_at x3 (hk t (by simp))⟩
  item := by
    rintro i s Q E hi ⟨_, x2, x3⟩ hQ
    have e1 : (items.size : Int) - 1 - (i : Int) = ((items.size - 1 - i : Nat) : Int) := by omega
    rw [e1] at x2
    have hx : items[items.size - 1 - i]? = some (items[items.size - 1 - i]'(by omega)) := Array.getElem?_eq_getElem (by omega)
    refine RT.next_rt_item x2 x3 hx hn fun h' y sb => ?_
    have e2 : ((items.size - 1 - i : Nat) : Int) - 1 = (items.size : Int) - 1 - ((i + 1 : Nat) : Int) := by omega
    rw [e2] at y
    exact hQ _ h' (s.toks + 1) hx ⟨hi, y, tup_at x3 fun o eo => (sb.2 t hne).trans eo⟩ fun b o hb eo => (sb.2 b (fun z => hb (by simp [z]))).trans eo
  done := by
    rintro s Q E ⟨_, x2, x3⟩ hQ
    have e1 : (items.size : Int) - 1 - (items.size : Int) = -1 := by omega
    rw [e1] at x2
    exact RT.next_rt_end hh x2 fun h' k => hQ h' s.toks fun b o hb eo => k b o (fun z => hb (by simp [z])) eo
  self := fun _ _ _ _ x hQ => RT.iter_rt x.2.1 hQ

theorem lri_hint_of {I l : Addr} {i : Int} {Q : Bool → Shared → Prop} (hit : s.heap.IsRevIter I l i) (h : ∀ tk b, Q b { s with toks := tk }) : wpAny (model prog w) A (Builtin.List.listLengthHint (.ref I)) Q E s := by
  have hT : s.TypeIs (.ref I) "list_reverseiterator" := hit.typeIs
  unfold Builtin.List.listLengthHint
  refine wpAny_bind (wpAny_specialOf hT nolen_lri ?_)
  show wpAny _ A (specialOf (Value.ref I) (Str.ofString "__length_hint__") >>= _) _ _ _
  refine wpAny_bind (wpAny_specialOf hT hint_lri ?_)
  generalize hid : ("list_reverseiterator.__length_hint__" : String) = id0
  wp_delta
  rw [show splitId id0 = some ("list_reverseiterator", "__length_hint__") from by subst hid; decide +kernel]
  subst hid
  refine wpAny_bind (wpAny_isInstance (b := true) hT (by rw [isSubtype_type]; kernel_rfl) ?_)
  refine wpAny_pure ?_
  exact h s.toks _
theorem call_list_lri {I l : Addr} {items : Array Value} {Q : Value → Shared → Prop} (hh : A.handled = none) (hit : s.heap.IsRevIter I l ((items.size : Int) - 1)) (hl : s.heap.IsList l items) (hne : l ≠ I) (hn : items.size ≤ sizeLine)
    (hQ : ∀ h' tk acc c', (∀ b o, b ≠ I → s.heap.get? b = some o → h'.get? b = some o) → h'.get? s.heap.objs.size = some { cls := .type "list", data := .seq acc c' } → ItemsOf (fun i v => items[items.size - 1 - i]? = some v) acc items.size → Q (.ref s.heap.objs.size) { s with heap := h', toks := tk }) :
    wpAny (model prog w) A (call (.type "list") [.ref I]) Q E s := by
  obtain ⟨oi, hoi, _⟩ := id hit
  obtain ⟨ol, hol, _⟩ := id hl
  have e0 : ((items.size : Nat) : Int) - 1 - ((0 : Nat) : Int) = (items.size : Int) - 1 := by omega
  refine call_list_it (T := "list_reverseiterator") (Walks.listRev (prog := prog) (w := w) (A := A.in1.in1) hh I l hne items) hn (Heap.lt_size hoi) (Heap.lt_size hol) ⟨Nat.zero_le _, by rw [e0]; exact hit, hl⟩ (fun s x => x.2.1.typeIs) (by decide) (by decide) (fun s Q E x h => ?_) hQ
  exact lri_hint_of x.2.1 h
theorem call_list_rt {I l : Addr} {items : Array Value} {Q : Value → Shared → Prop} (hh : A.handled = none) (hit : IsRt s.heap I l ((items.size : Int) - 1)) (hl : IsTup s.heap l items) (hne : l ≠ I) (hn : items.size ≤ sizeLine)
    (hQ : ∀ h' tk acc c', (∀ b o, b ≠ I → s.heap.get? b = some o → h'.get? b = some o) → h'.get? s.heap.objs.size = some { cls := .type "list", data := .seq acc c' } → ItemsOf (fun i v => items[items.size - 1 - i]? = some v) acc items.size → Q (.ref s.heap.objs.size) { s with heap := h', toks := tk }) :
    wpAny (model prog w) A (call (.type "list") [.ref I]) Q E s := by
  obtain ⟨oi, hoi, _⟩ := id hit
  obtain ⟨ol, hol, _⟩ := id hl
  have e0 : ((items.size : Nat) : Int) - 1 - ((0 : Nat) : Int) = (items.size : Int) - 1 := by omega
  refine call_list_it (T := "reversed") (walks_rt (prog := prog) (w := w) (A := A.in1.in1) hh I l hne items hn) hn (Heap.lt_size hoi) (Heap.lt_size hol) ⟨Nat.zero_le _, by rw [e0]; exact hit, hl⟩ (fun s x => x.2.1.typeIs) (by decide) (by decide) (fun s Q E x h => ?_) hQ
  have y := x.2.1
  rw [e0] at y
  exact rt_hint_of y x.2.2 hn h
end
/-- list(reversed(x)), x a list or a tuple: a new list -/
def tListRev (K : PySem.W.Frag) (te : TE) : TE := fun σ H Q => te σ H fun v H1 => ∃ (a : Addr) (xs : List V), v = .ref a ∧ (SqL K H1 a xs ∨ SqT K H1 a xs) ∧ ∀ q, H1 q = none → Q (.ref q) (upd H1 q (.lst xs.reverse))
theorem pe_listRev {X : Cx} {e : Expr} {te : TE} {p p2 pos pos2 : Pos} (hc : X.calm = true) (hg : Gl X "list") (hm : X.mg "list" = none) (hg2 : Gl X "reversed") (hm2 : X.mg "reversed" = none) (he : PE X e te)
    (hs : starEach [e] X.env = (false, eval e X.env) :: starEach [] X.env := by rfl)
    (hs2 : starEach [.Call (.Name "reversed" p2) [e] [] pos2] X.env = (false, eval (.Call (.Name "reversed" p2) [e] [] pos2) X.env) :: starEach [] X.env := by rfl) :
    PE X (.Call (.Name "list" p) [.Call (.Name "reversed" p2) [e] [] pos2] [] pos) (tListRev X.K te) := by
  refine ⟨fun pins s σ H Q I h => ?_⟩
  refine Call_ (ld_blt I hg hm boot_list (PyProof.Rows.callWith_type1 (args_cons (Call_ (ld_blt I hg2 hm2 PyProof.Rows.boot_reversed (PyProof.Rows.callWith_type1 (args_cons (thn (he.run pins s σ H _ I h) fun u s1 ⟨v, H1, I1, r1, q1⟩ => args_nil ?_) hs) hs rfl))) hs2) hs2 rfl))
  obtain ⟨a, xs, ev, hq, q⟩ := q1
  subst ev
  obtain rfl : u = Value.ref a := r1
  rcases hq with hq | hq
  · obtain ⟨its, rv, p', hz⟩ := I1.list hq
    refine call_reversed_list p'.isList (args_nil ?_)
    have k0 : ∀ b o, s1.heap.get? b = some o → (s1.heap.push (revObj a ((its.toArray.size : Int) - 1))).get? b = some o := fun b o e => Heap.get?_push_of_some _ e
    have hl := p'.isList
    obtain ⟨ol, hol, _⟩ := id hl
    have hne : a ≠ s1.heap.objs.size := Nat.ne_of_lt (Heap.lt_size hol)
    have hn : its.toArray.size ≤ sizeLine := by rw [List.size_toArray, ← rv.length]; exact hz
    refine call_list_lri (s := { s1 with heap := s1.heap.push (revObj a ((its.toArray.size : Int) - 1)) }) (I1.ok.hd hc) ⟨_, Heap.get?_push_size _ rfl, rfl, rfl⟩ (hl.push _) hne hn fun h' tk acc c' hk e' hi => ?_
    have hge : s1.heap.objs.size ≤ (s1.heap.push (revObj a ((its.toArray.size : Int) - 1))).objs.size := by
      have := Heap.lt_size (Heap.get?_push_size s1.heap (show (revObj a ((its.toArray.size : Int) - 1)).isFreed = false from rfl))
      exact Nat.le_of_lt this
    refine ⟨.ref _, upd H1 _ (.lst xs.reverse), I1.laid (t' := tk) (fun c o e => hk c o (Nat.ne_of_lt (Heap.lt_size e)) (k0 c o e)) hge (show ObjOk X.prog X.w _ _ _ (.lst xs.reverse) from ⟨by rw [List.length_reverse]; exact hz, acc.toList, c', RT.vals_rev rv hi, ?_⟩), rfl, q _ (I1.hok.fresh hge)⟩
    rw [Array.toArray_toList]
    exact e'
  · obtain ⟨its, rv, p', hz⟩ := I1.tuple hq
    have hl := rv.length
    have hn := line63
    have k0 : ∀ b o, s1.heap.get? b = some o → (s1.heap.push (rtObj a ((its.toArray.size : Int) - 1))).get? b = some o := fun b o e => Heap.get?_push_of_some _ e
    have hol := p'
    obtain ⟨ol, hol, _⟩ := id hol
    have hne : a ≠ s1.heap.objs.size := Nat.ne_of_lt (Heap.lt_size hol)
    have hn2 : its.toArray.size ≤ sizeLine := by rw [List.size_toArray, ← rv.length]; exact hz
    refine call_reversed_tup p' (fun A E Q k => len_tuple p' (by simp only [List.size_toArray] <;> omega) k) (args_nil ?_)
    refine call_list_rt (s := { s1 with heap := s1.heap.push (rtObj a ((its.toArray.size : Int) - 1)), toks := s1.toks + 1 + 1 }) (I1.ok.hd hc) ⟨_, Heap.get?_push_size _ rfl, rfl, rfl⟩ (Tr.tup_at p' (k0 a)) hne hn2 fun h' tk acc c' hk e' hi => ?_
    have hge : s1.heap.objs.size ≤ (s1.heap.push (rtObj a ((its.toArray.size : Int) - 1))).objs.size := by
      have := Heap.lt_size (Heap.get?_push_size s1.heap (show (rtObj a ((its.toArray.size : Int) - 1)).isFreed = false from rfl))
      exact Nat.le_of_lt this
    refine ⟨.ref _, upd H1 _ (.lst xs.reverse), I1.laid (t' := tk) (fun c o e => hk c o (Nat.ne_of_lt (Heap.lt_size e)) (k0 c o e)) hge (show ObjOk X.prog X.w _ _ _ (.lst xs.reverse) from ⟨by rw [List.length_reverse]; exact hz, acc.toList, c', RT.vals_rev rv hi, ?_⟩), rfl, q _ (I1.hok.fresh hge)⟩
    rw [Array.toArray_toList]
    exact e'
def listRev1 (K : PySem.W.Frag) (x : V) (H : Hp) (Q : VK) : Prop := ∃ (a : Addr) (xs : List V), x = .ref a ∧ (SqL K H a xs ∨ SqT K H a xs) ∧ ∀ q, H q = none → Q (.ref q) (upd H q (.lst xs.reverse))
section
variable {te : TE} {σ : L2.St} {H H0 : Hp} {Q : VK} {K : PySem.W.Frag} {a : Addr} {xs : List V} {l : List (Addr × HO)}
theorem rd_listRev (h : te σ H fun x H1 => listRev1 K x H1 Q) : tListRev K te σ H Q := h
theorem rd_listRevL (L : Led H0 H l) (hs : SqL K H a xs) (k : ∀ p H', Led H0 H' ((p, .lst xs.reverse) :: l) → Ts H H' → Q (.ref p) H') : listRev1 K (.ref a) H Q := ⟨a, xs, rfl, .inl hs, fun p hp => k p _ (L.push hp) (Ts.of (Same.push hp))⟩
theorem rd_listRevT (L : Led H0 H l) (hs : SqT K H a xs) (k : ∀ p H', Led H0 H' ((p, .lst xs.reverse) :: l) → Ts H H' → Q (.ref p) H') : listRev1 K (.ref a) H Q := ⟨a, xs, rfl, .inr hs, fun p hp => k p _ (L.push hp) (Ts.of (Same.push hp))⟩
end
end Tr
namespace Tr
open PySem PySem.Spec PyProof.Rows L2
section
variable {H0 H : Hp} {l : List (Addr × HO)} {Q : VK} {K : PySem.W.Frag} {a : Addr} {σ : L2.St} {te : TE} {g : TG} {tt : TT} {vs : List Nat}
/-- what f tells of each item, backwards -/
theorem lc_revI {ns : List Int} (f : Int → V) (L : Led H0 H l) (hS : ∀ H1, Ts H H1 → Same H0 H1 → (∀ l1, Led H0 H1 (l1 ++ l) → SqL K H1 a (ns.map V.int)))
    (hs : ∀ i n D H1, ns.reverse[i]? = some n → Led H0 H1 ((D, .lst ((ns.reverse.take i).map f)) :: l) → Ts H H1 → g (.int n) (wipe σ vs) H1 fun σ2 H2 => wipe σ2 vs = wipe σ vs ∧ tt σ2 H2 fun b H3 => if b = true then te σ2 H3 (put1 D (mapI H0 H l ns.reverse f D (i + 1))) else mapI H0 H l ns.reverse f D (i + 1) H3)
    (hd : ∀ D H1, Led H0 H1 ((D, .lst (ns.reverse.map f)) :: l) → Ts H H1 → Q (.ref D) H1) : lc (Itv K a (ns.map V.int).length) g tt te vs σ H Q := by
  intro D hD
  have L1 := L.push (o := .lst []) hD
  have hn : (ns.map V.int).length = ns.length := List.length_map ..
  refine ⟨fun i m H2 => m = ns.length - i ∧ i ≤ ns.length ∧ mapI H0 H l ns.reverse f D i H2, ⟨ns.length, by simp, Nat.zero_le _, L1, Ts.of (Same.push hD)⟩, ?_⟩
  rintro i m H2 ⟨rfl, hi, p⟩
  have q : SqL K H2 a (ns.map V.int) := hS H2 p.2 p.1.same [_] p.1
  by_cases hlt : i < ns.length
  · have hj : ns.length - 1 - i < ns.length := by omega
    have hx : (ns.map V.int)[(ns.map V.int).length - 1 - i]? = some (.int (ns[ns.length - 1 - i]'hj)) := by
      rw [hn, List.getElem?_map, List.getElem?_eq_getElem hj]
      rfl
    have hr : ns.reverse[i]? = some (ns[ns.length - 1 - i]'hj) := by
      rw [List.getElem?_reverse hlt, List.getElem?_eq_getElem hj]
    refine .inr ⟨⟨by omega, _, _, q, hx⟩, mapI H0 H l ns.reverse f D (i + 1), fun H' p' => ⟨ns.length - (i + 1), by omega, rfl, hlt, p'⟩, fun x H' y => ?_⟩
    obtain ⟨e, y⟩ := y
    subst e
    have e2 := (hx.symm.trans (y _ q))
    cases e2
    exact hs i _ D _ hr p.1 p.2
  · have e : i = ns.length := by omega
    subst e
    exact .inl ⟨by show _ ≤ _; omega, hd D H2 (p.1.to (by rw [← List.length_reverse, List.take_length])) p.2⟩
end
end Tr
namespace Tr
open PySem PySem.Spec PyProof.Rows L2
section
variable {H0 H : Hp} {l : List (Addr × HO)} {σ : L2.St} {p : Addr} {xs : List V} {v : V}
theorem rd_gSub {to ti : TE} {t : TSet} {R : L2.St → Hp → Prop} (h : to σ H fun o H1 => ti σ H1 fun i H2 => t o i v H2 fun H3 => R σ H3) : L2.gSub to ti t v σ H R := h
theorem rd_setL {R : Hp → Prop} {j : Nat} (L : Led H0 H l) (i : Nat) (h : l[i]? = some (p, .lst xs)) (hj : j < xs.length) (k : ∀ H', Led H0 H' (l.set i (p, .lst (xs.set j v))) → Ts H H' → R H') : rSetL (.ref p) (.int j) v H R :=
  ⟨p, xs, j, j, rfl, rfl, L.get i h, by unfold ixN; rw [if_pos (by omega), if_pos (by omega)]; simp, k _ (L.put i h) (Ts.put (L.get i h))⟩
end
end Tr
namespace Tr
open PySem PySem.Spec PyProof.Rows L2
section
variable {H0 H : Hp} {l : List (Addr × HO)} {Q : VK} {K : PySem.W.Frag} {a : Addr} {σ : L2.St} {te : TE} {ta : TA} {g : TG} {tt : TT} {vs : List Nat} {R : It → Hp → Prop}
/-! ### enumerate -/
def itE (K : PySem.W.Frag) (vs : List V) (H : Hp) (R : It → Hp → Prop) : Prop := ∃ a xs, vs = [.ref a] ∧ SqL K H a xs ∧ R (Ite K a) H
theorem rd_iEnum (h : ta σ H fun vs H1 => itE K vs H1 R) : iEnum K ta σ H R := h
theorem rd_itE {xs : List V} (hs : SqL K H a xs) (h : R (Ite K a) H) : itE K [.ref a] H R := ⟨a, xs, rfl, hs, h⟩
theorem rd_gTup {n : Nat} {t : TGs} {xs : List V} {R : L2.St → Hp → Prop} (hs : SqT K H a xs) (hl : xs.length = n) (h : t xs σ H R) : gTup K n t (.ref a) σ H R := ⟨a, xs, rfl, hs, hl, h⟩
/-- what f tells of each place and item -/
def enumF (ns : List Int) (f : Nat → Int → V) (j : Nat) : V := f j (ns.getD j 0)
theorem lc_enum {ns : List Int} (f : Nat → Int → V) (L : Led H0 H l) (hS : ∀ H1, Ts H H1 → Same H0 H1 → (∀ l1, Led H0 H1 (l1 ++ l) → SqL K H1 a (ns.map V.int)))
    (hs : ∀ i n D T H1, ns[i]? = some n → Led H0 H1 ((T, .tup [.int (i : Nat), .int n]) :: (D, .lst ((List.range i).map (enumF ns f))) :: l) → Ts H H1 → g (.ref T) (wipe σ vs) H1 fun σ2 H2 => wipe σ2 vs = wipe σ vs ∧ tt σ2 H2 fun b H3 => if b = true then te σ2 H3 (put1 D (mapW H0 H l (enumF ns f) D (i + 1))) else mapW H0 H l (enumF ns f) D (i + 1) H3)
    (hd : ∀ D H1, Led H0 H1 ((D, .lst ((List.range ns.length).map (enumF ns f))) :: l) → Ts H H1 → Q (.ref D) H1) : lc (Ite K a) g tt te vs σ H Q := by
  intro D hD
  have L1 := L.push (o := .lst []) hD
  have hn : (ns.map V.int).length = ns.length := List.length_map ..
  refine ⟨fun i m H2 => m = ns.length - i ∧ i ≤ ns.length ∧ mapW H0 H l (enumF ns f) D i H2, ⟨ns.length, by simp, Nat.zero_le _, L1, Ts.of (Same.push hD)⟩, ?_⟩
  rintro i m H2 ⟨rfl, hi, p⟩
  have q : SqL K H2 a (ns.map V.int) := hS H2 p.2 p.1.same [_] p.1
  by_cases hlt : i < ns.length
  · have hx : (ns.map V.int)[i]? = some (.int (ns[i]'hlt)) := by
      rw [List.getElem?_map, List.getElem?_eq_getElem hlt]
      rfl
    refine .inr ⟨⟨_, _, q, hx⟩, mapW H0 H l (enumF ns f) D (i + 1), fun H' p' => ⟨ns.length - (i + 1), by omega, rfl, hlt, p'⟩, fun x H' y => ?_⟩
    obtain ⟨T, x', ev, hT, eH, y⟩ := y
    subst ev eH
    have e2 := hx.symm.trans (y _ q)
    cases e2
    exact hs i _ D T _ (List.getElem?_eq_getElem hlt) (p.1.push hT) (p.2.trans (Ts.of (Same.push hT)))
  · have e : i = ns.length := by omega
    subst e
    exact .inl ⟨⟨_, q, by rw [hn]; exact Nat.le_refl _⟩, hd D H2 p.1 p.2⟩
theorem rd_gTwo {R : L2.St → Hp → Prop} {i j : Nat} {x y : V} (L : Led H0 H l) (k : Nat) (hk : l[k]? = some (a, .tup [x, y])) (h : R ((σ.set i (some x)).set j (some y)) H) : gTup K 2 (gCons (gName i) (gCons (gName j) gNil)) (.ref a) σ H R :=
  rd_gTup (L.tq k hk) rfl ⟨x, [y], rfl, y, [], rfl, rfl, h⟩
end
end Tr
namespace Tr
open PySem PySem.Spec PyProof.Rows L2
/-! ### order of lists of ints -/
/-- by the first pair that differs -/
def lexI (r : Int → Int → Bool) (z : Nat → Nat → Bool) : List Int → List Int → Bool
  | [], [] => z 0 0
  | [], _ :: _ => z 0 1
  | _ :: _, [] => z 1 0
  | x :: xs, y :: ys => if x = y then lexI r z xs ys else r x y
theorem firstLt_map {e r : Nat → Bool} {fin : Bool} : ∀ l : List Nat, SeqAt.firstLt e r fin (l.map Nat.succ) = SeqAt.firstLt (fun j => e (j + 1)) (fun j => r (j + 1)) fin l
  | [] => rfl
  | j :: l => by
    simp only [List.map_cons, SeqAt.firstLt]
    rw [firstLt_map l]
theorem firstLt_lex (r : Int → Int → Bool) (z : Nat → Nat → Bool) (hz : ∀ m n, z (m + 1) (n + 1) = z m n) (h01 : ∀ n, z 0 (n + 1) = z 0 1) (h10 : ∀ n, z (n + 1) 0 = z 1 0) : ∀ ns ms : List Int,
    SeqAt.firstLt (fun j => decide (ns.getD j 0 = ms.getD j 0)) (fun j => r (ns.getD j 0) (ms.getD j 0)) (z ns.length ms.length) (List.range (min ns.length ms.length)) = lexI r z ns ms
  | [], [] => rfl
  | [], y :: ys => by
    simp only [List.length_nil, List.length_cons, Nat.zero_min, List.range_zero, SeqAt.firstLt, lexI, h01]
  | x :: xs, [] => by
    simp only [List.length_nil, List.length_cons, Nat.min_zero, List.range_zero, SeqAt.firstLt, lexI, h10]
  | x :: xs, y :: ys => by
    have e : min (x :: xs).length (y :: ys).length = min xs.length ys.length + 1 := by simp only [List.length_cons]; omega
    rw [e, List.range_succ_eq_map]
    simp only [SeqAt.firstLt, firstLt_map, List.getD_cons_zero, List.getD_cons_succ, List.length_cons, hz, lexI]
    rw [firstLt_lex r z hz h01 h10 xs ys]
    by_cases h : x = y
    · rw [if_pos (decide_eq_true h), if_pos h]
    · rw [if_neg (by rw [decide_eq_false h]; decide), if_neg h]
def ltI : List Int → List Int → Bool := lexI (fun a b => decide (a < b)) (fun a b => decide (a < b))
def leI : List Int → List Int → Bool := lexI (fun a b => decide (a ≤ b)) (fun a b => decide (a ≤ b))
def rOrd (f : List Int → List Int → Bool) (K : PySem.W.Frag) : R2 := fun x y H Q => ∃ (a b : Addr) (ns ms : List Int), x = .ref a ∧ y = .ref b ∧ SqL K H a (ns.map V.int) ∧ SqL K H b (ms.map V.int) ∧ Q (.bl (f ns ms)) H
section
variable {X : Cx}
theorem ints_at {its : List Value} {ns : List Int} (i : IntsAre its ns) : ∀ j (h : j < its.toArray.size), ∃ t, its.toArray[j] = .int (ns.getD j 0) t := fun j h => PyProof.Rows.IntsAre.int_at i _ _ (by simp at h; simp [h])
theorem beq_dec (a b : Int) : (a == b) = decide (a = b) := by
  by_cases q : a = b
  · rw [decide_eq_true q]; exact beq_iff_eq.mpr q
  · rw [decide_eq_false q]; exact beq_eq_false_iff_ne.mpr q
theorem op_ltL (hu : X.A.units < cLine) : OpR X (compareOp .Lt) (rOrd ltI X.K) := by
  intro pins s σ H x y v u Q I rx ry h
  obtain ⟨a, b, ns, ms, rfl, rfl, ha, hb, q⟩ := h
  cases rx
  cases ry
  obtain ⟨its, r1, p1, _⟩ := I.list ha
  obtain ⟨its2, r2, p2, _⟩ := I.list hb
  have i1 : IntsAre its ns := Vals.ints r1
  have i2 : IntsAre its2 ms := Vals.ints r2
  have e1 : its.toArray.size = ns.length := by rw [List.size_toArray]; exact i1.length
  have e2 : its2.toArray.size = ms.length := by rw [List.size_toArray]; exact i2.length
  have R := SeqAt.RcLt.lists (A := X.A) (s := s) (e := fun j => decide (ns.getD j 0 = ms.getD j 0)) (r := fun j => decide (ns.getD j 0 < ms.getD j 0)) p1.isList p2.isList hu (fun j h1 h2 => by
    obtain ⟨t, et⟩ := ints_at i1 j h1
    obtain ⟨t', et'⟩ := ints_at i2 j h2
    rw [et, et', ← beq_dec]
    exact SeqAt.EqAt.int_int _ _ _ _) (fun j h1 h2 _ => by
    obtain ⟨t, et⟩ := ints_at i1 j h1
    obtain ⟨t', et'⟩ := ints_at i2 j h2
    rw [et, et']
    exact fun _ _ _ _ h => PyProof.Rows.lt_int h)
  rw [e1, e2, firstLt_lex (fun a b => decide (a < b)) (fun a b => decide (a < b)) (fun m n => by simp) (fun n => by simp) (fun n => by simp)] at R
  exact R X.prog X.w X.xe (EP X pins σ Q) ⟨.bl _, H, I, rfl, q⟩
theorem op_leL (hu : X.A.units < cLine) : OpR X (compareOp .LtE) (rOrd leI X.K) := by
  intro pins s σ H x y v u Q I rx ry h
  obtain ⟨a, b, ns, ms, rfl, rfl, ha, hb, q⟩ := h
  cases rx
  cases ry
  obtain ⟨its, r1, p1, _⟩ := I.list ha
  obtain ⟨its2, r2, p2, _⟩ := I.list hb
  have i1 : IntsAre its ns := Vals.ints r1
  have i2 : IntsAre its2 ms := Vals.ints r2
  have e1 : its.toArray.size = ns.length := by rw [List.size_toArray]; exact i1.length
  have e2 : its2.toArray.size = ms.length := by rw [List.size_toArray]; exact i2.length
  have R := SeqAt.RcOp.lists_le (A := X.A) (s := s) (e := fun j => decide (ns.getD j 0 = ms.getD j 0)) (r := fun j => decide (ns.getD j 0 ≤ ms.getD j 0)) p1.isList p2.isList hu (fun j h1 h2 => by
    obtain ⟨t, et⟩ := ints_at i1 j h1
    obtain ⟨t', et'⟩ := ints_at i2 j h2
    rw [et, et', ← beq_dec]
    exact SeqAt.EqAt.int_int _ _ _ _) (fun j h1 h2 _ => by
    obtain ⟨t, et⟩ := ints_at i1 j h1
    obtain ⟨t', et'⟩ := ints_at i2 j h2
    rw [et, et']
    exact fun _ _ _ _ h => PyProof.Rows.le_int h)
  rw [e1, e2, firstLt_lex (fun a b => decide (a ≤ b)) (fun a b => decide (a ≤ b)) (fun m n => by simp) (fun n => by simp) (fun n => by simp)] at R
  exact R X.prog X.w X.xe (EP X pins σ Q) ⟨.bl _, H, I, rfl, q⟩
variable (K : PySem.W.Frag)
theorem kLtL (hu : X.A.units + 64 < cLine) (h : X.K = K := by rfl) : OpR X (compareOp .Lt) (rOrd ltI K) := h ▸ op_ltL (Nat.lt_of_le_of_lt (Nat.le_add_right _ _) hu)
theorem kLeL (hu : X.A.units + 64 < cLine) (h : X.K = K := by rfl) : OpR X (compareOp .LtE) (rOrd leI K) := h ▸ op_leL (Nat.lt_of_le_of_lt (Nat.le_add_right _ _) hu)
theorem rd_ord {f : List Int → List Int → Bool} {K : PySem.W.Frag} {H : Hp} {Q : VK} {p q : Addr} {ns ms : List Int} (h1 : SqL K H p (ns.map V.int)) (h2 : SqL K H q (ms.map V.int)) (k : Q (.bl (f ns ms)) H) : rOrd f K (.ref p) (.ref q) H Q := ⟨p, q, ns, ms, rfl, rfl, h1, h2, k⟩
end
end Tr
/-! Powers, texts repeated, cut and turned. -/
namespace Tr
open PySem PySem.Spec PyProof.Rows L2
def gPow : R2 := rI CPow fun i j => .int (i ^ j.toNat)
theorem op_gPow {X : Cx} : OpR X (binaryOp .Pow) gPow := op_pow
def gRepS : R2 := fun x y H Q => ∃ (z : Str) (n : Int), x = .str z ∧ y = .int n ∧ 1 ≤ n ∧ n ≤ 1000 ∧ z.length ≤ 1000 ∧ ∀ u : Str, (u.length : Int) ≤ z.length * n → Q (.str u) H
theorem fold_size (a : Array Nat) : ∀ (n : Nat) (acc : Array Nat), ((List.replicate n a).foldl (· ++ ·) acc).size = acc.size + n * a.size
  | 0, acc => by simp
  | n + 1, acc => by
    rw [List.replicate_succ, List.foldl_cons, fold_size a n, Array.size_append, Nat.succ_mul]
    omega
theorem op_gRepS {X : Cx} : OpR X (binaryOp .Mult) gRepS := by
  intro pins s σ H x y v u Q I rx ry h
  obtain ⟨z, n, rfl, rfl, h1, h2, h3, q⟩ := h
  obtain ⟨t, rfl⟩ := rx
  obtain ⟨t', rfl⟩ := ry
  have hm : z.length * n.toNat ≤ 1000 * 1000 := Nat.mul_le_mul h3 (by omega)
  have ok : MulOk z n := by
    refine ⟨?_, fun _ _ => ?_, fun _ _ => ?_⟩
    · rw [decide_eq_false (by omega), decide_eq_false (by omega)]
      rfl
    · have hd : (1000 : Int) ≤ (2 ^ 63 - 1) / n := by
        refine Int.le_ediv_of_mul_le (by omega) ?_
        omega
      omega
    · unfold Builtin.Str.tooLong
      rw [sizeLine_eq]
      exact decide_eq_false (by omega)
  refine SB.mul ok fun t2 k => ⟨.str (Txt.mul z n), H, I.tok _, ⟨_, rfl⟩, q _ ?_⟩
  unfold Txt.mul
  rw [if_neg (by omega)]
  have hle : ((z.length * n.toNat : Nat) : Int) = z.length * n := by
    rw [Int.natCast_mul]
    congr 1
    omega
  split
  · have : (z.length : Int) * 1 ≤ z.length * n := Int.mul_le_mul_of_nonneg_left h1 (by omega)
    omega
  · show ((((List.replicate n.toNat z.cps).foldl (· ++ ·) #[]).size : Nat) : Int) ≤ _
    rw [fold_size, ← hle, Nat.mul_comm]
    show ((0 + z.length * n.toNat : Nat) : Int) ≤ _
    omega
/-- z[::-1] -/
def tRevS (te : TE) : TE := fun σ H Q => te σ H fun x H1 => ∃ z, x = .str z ∧ z.length ≤ sizeLine ∧ ∀ u : Str, u.length = z.length → Q (.str u) H1
theorem pe_revS {X : Cx} {e : Expr} {te : TE} {k : Nat} {p1 p2 p3 pos : Pos} (he : PE X e te) : PE X (.Subscript e (.Slice none none (some (.UnaryOp .USub (.Constant (.int 1) k p1) p2)) p3) pos) (tRevS te) := by
  refine ⟨fun pins s σ H Q I h => ?_⟩
  refine Subscript_ (thn (he.run pins s σ H _ I h) fun v s1 ⟨x, H1, I1, r1, q1⟩ => ?_)
  obtain ⟨z, ex, hz, q⟩ := q1
  subst ex
  obtain ⟨t, rfl⟩ := r1
  have hst : PO X (some (.UnaryOp .USub (.Constant (.int 1) k p1) p2)) (tPart (tUn (rU fun i => .int (-i)) (tC (.int 1)))) := po_some (pe_un un_neg pe_int)
  refine wpAny_Slice (thn (po_none.run pins s1 σ H1 (fun o H2 => o = none ∧ H2 = H1) I1 ⟨rfl, rfl⟩) fun vl s2 ⟨l, H2, I2, pl, el, e2⟩ => ?_)
  subst el e2
  refine thn (po_none.run pins s2 σ H2 (fun o H3 => o = none ∧ H3 = H2) I2 ⟨rfl, rfl⟩) fun vu s3 ⟨u, H3, I3, pu, eu, e3⟩ => ?_
  subst eu e3
  refine thn (hst.run pins s3 σ H3 (fun o H4 => o = some (-1) ∧ H4 = H3) I3 ⟨1, rfl, -1, rfl, rfl, rfl⟩) fun vs s4 ⟨o, H4, I4, ps, eo, e4⟩ => ?_
  subst eo e4
  have I5 : Inv X pins σ H4 { s4 with heap := s4.heap.push { cls := .type "slice", data := .fields #[vl, vu, vs] } } := I4.kept (t' := s4.toks) fun b ob q => Heap.get?_push_of_some _ q
  obtain ⟨l', rfl, el⟩ := IsPart.raw pl
  obtain ⟨u', rfl, eu⟩ := IsPart.raw pu
  obtain ⟨st, rfl, est⟩ := IsPart.raw ps
  show wpAny (model X.prog X.w) X.A (subscriptTail e (.Slice none none (some (.UnaryOp .USub (.Constant (.int 1) k p1) p2)) p3) (.str z t) (.ref s4.heap.objs.size)) (EP X pins σ Q) X.xe { s4 with heap := s4.heap.push { cls := .type "slice", data := .fields #[partValue l', partValue u', partValue st] } }
  refine tail_any (ops := [.str z t, .ref s4.heap.objs.size]) (typeIs_str _ _ _) (PySem.F.slot_str_getitem.lookup) ?_ (by with_unfolding_all rfl)
  have hst2 : st.map (·.1) = some (-1) := est
  have hl2 : l'.map (·.1) = none := el
  have hu2 : u'.map (·.1) = none := eu
  refine wpAny_getItem_str_slice (l := l') (u := u') (st := st) ⟨_, Heap.get?_push_size _ rfl, rfl, rfl⟩ (by rw [hst2]; rfl) ?_
  have hlen : (⟨((Builtin.Str.strSliceIndices none none (-1) z.length).filterMap (z.cps[·]?)).toArray⟩ : Str).length = z.length := by
    show (((Builtin.Str.strSliceIndices none none (-1) z.length).filterMap (z.cps[·]?)).toArray).size = _
    rw [PyProof.Rows.picked_rev, PyProof.Rows.filterMap_get]
    · simp
    · intro i hi
      obtain ⟨k, hk, rfl⟩ := List.mem_map.mp hi
      have hk' : k < z.length := List.mem_range.mp hk
      show z.length - 1 - k < z.length
      omega
  unfold sliceMade slicePicked
  rw [hst2, hl2, hu2, if_neg (by simp)]
  exact ⟨by rw [Option.getD_some]; rw [hlen]; exact hz, .str _, H4, I5.tok _, ⟨_, rfl⟩, q _ hlen⟩
section
variable {σ : L2.St} {H : Hp} {Q : VK} {te : TE}
theorem rd_revS (h : te σ H fun x H1 => ∃ z, x = .str z ∧ z.length ≤ sizeLine ∧ ∀ u : Str, u.length = z.length → Q (.str u) H1) : tRevS te σ H Q := h
theorem rd_repS {z : Str} {n : Int} (h1 : 1 ≤ n) (h2 : n ≤ 1000) (h3 : z.length ≤ 1000) (k : ∀ u : Str, (u.length : Int) ≤ z.length * n → Q (.str u) H) : gRepS (.str z) (.int n) H Q := ⟨z, n, rfl, rfl, h1, h2, h3, k⟩
theorem rd_slS {z : Str} {lo hi : Option Int} (hz : z.length ≤ sizeLine) (k : ∀ u : Str, u.length ≤ z.length → Q (.str u) H) : rSlS (.str z) lo hi H Q := ⟨z, rfl, hz, k _ (cutS_length z lo hi)⟩
theorem rd_pow9 (k : Q (.int 1000000000) H) : gPow (.int 10) (.int 9) H Q := ⟨10, 9, rfl, rfl, ⟨by decide, by decide, by decide⟩, k⟩
theorem rd_ixStr {K : PySem.W.Frag} {z : Str} {n : Int} (hz : z.length ≤ sizeLine) (h0 : 0 ≤ n) (h1 : n < z.length) (k : ∀ c : Nat, Q (.str ⟨#[c]⟩) H) : rIx K (.str z) (.int n) H Q := by
  obtain ⟨j, rfl⟩ : ∃ j : Nat, n = j := ⟨n.toNat, by omega⟩
  have hj : j < z.cps.toList.length := by
    have : (j : Int) < (z.cps.size : Nat) := h1
    rw [Array.length_toList]
    omega
  exact rd_ixS hz (atI_nat (List.getElem?_eq_getElem hj)) (k _)
theorem count_S (l : List Nat) (c : Nat) : Txt.count ⟨l.toArray⟩ ⟨#[c]⟩ = (l.count c : Nat) := by
  rw [PyProof.Rows.count_cnt]
  show PyProof.Rows.cnt c l.toArray.toList = _
  rw [List.toList_toArray]
  induction l with
  | nil => rfl
  | cons n l ih =>
    rw [PyProof.Rows.cnt_cons, ih, List.count_cons]
    by_cases h : n = c
    · subst h
      simp
      omega
    · simp [h]
end
end Tr
/-! What the law's helpers read off the script. -/
namespace Tr
def cell (ns : List Int) (k : Nat) : Int := ns.getD k 0
def rowCell (way c : Int) : Int :=
  if way = 0 then 1 - c % 3 else if way = 1 then [1, 1, 1, 0, -1, -2].getD (c % 6).toNat 0
  else if way = 2 then [1, 1, 1, 1, 1, 1 - c / 8 % 62, 0, 1].getD (c % 8).toNat 0 else 1 - c % 62
theorem rowCell_le (way c : Int) : rowCell way c ≤ 1 ∧ -60 ≤ rowCell way c := by
  unfold rowCell
  split
  · omega
  · split
    · have h : (c % 6).toNat < 6 := by omega
      generalize (c % 6).toNat = j at h
      match j, h with
      | 0, _ => decide
      | 1, _ => decide
      | 2, _ => decide
      | 3, _ => decide
      | 4, _ => decide
      | 5, _ => decide
    · split
      · have h : (c % 8).toNat < 8 := by omega
        generalize (c % 8).toNat = j at h
        have e : -60 ≤ 1 - c / 8 % 62 ∧ 1 - c / 8 % 62 ≤ 1 := by omega
        generalize 1 - c / 8 % 62 = z at e
        match j, h with
        | 0, _ => exact ⟨by show (1 : Int) ≤ 1; decide, by show (-60 : Int) ≤ 1; decide⟩
        | 1, _ => exact ⟨by show (1 : Int) ≤ 1; decide, by show (-60 : Int) ≤ 1; decide⟩
        | 2, _ => exact ⟨by show (1 : Int) ≤ 1; decide, by show (-60 : Int) ≤ 1; decide⟩
        | 3, _ => exact ⟨by show (1 : Int) ≤ 1; decide, by show (-60 : Int) ≤ 1; decide⟩
        | 4, _ => exact ⟨by show (1 : Int) ≤ 1; decide, by show (-60 : Int) ≤ 1; decide⟩
        | 5, _ => exact ⟨e.2, e.1⟩
        | 6, _ => exact ⟨by show (0 : Int) ≤ 1; decide, by show (-60 : Int) ≤ 0; decide⟩
        | 7, _ => exact ⟨by show (1 : Int) ≤ 1; decide, by show (-60 : Int) ≤ 1; decide⟩
      · omega
def rowBy (ns : List Int) (first count : Nat) (way : Int) : List Int := (List.range count).map fun k => rowCell way (cell ns (first + k))
theorem rowBy_len (ns : List Int) (first count : Nat) (way : Int) : (rowBy ns first count way).length = count := by
  unfold rowBy
  rw [List.length_map, List.length_range]
theorem rowBy_mem {ns : List Int} {first count : Nat} {way n : Int} (h : n ∈ rowBy ns first count way) : n ≤ 1 ∧ -60 ≤ n := by
  unfold rowBy at h
  obtain ⟨k, _, rfl⟩ := List.mem_map.mp h
  exact rowCell_le way _
def nodesOf (ns : List Int) : Nat := if cell ns 0 / 12 % 4 = 1 then 1 + (cell ns 0 / 48 % 60).toNat else 1 + (cell ns 0 % 12).toNat
theorem nodesOf_le (ns : List Int) : 1 ≤ nodesOf ns ∧ nodesOf ns ≤ 60 := by
  unfold nodesOf
  split <;> omega
def isRow (ns : List Int) : Prop := 1 ≤ ns.length ∧ ns.length ≤ 60 ∧ ∀ n ∈ ns, n ≤ 1 ∧ -60 ≤ n
instance (ns : List Int) : Decidable (isRow ns) := by
  unfold isRow
  infer_instance
theorem rowBy_row {ns : List Int} {first count : Nat} {way : Int} (h : 1 ≤ count ∧ count ≤ 60) : isRow (rowBy ns first count way) := by
  refine ⟨?_, ?_, fun n hn => rowBy_mem hn⟩
  · rw [rowBy_len]
    exact h.1
  · rw [rowBy_len]
    exact h.2
/-- the sums of the first, the first two .. -/
def sums (ns : List Int) : List Int := (List.range ns.length).map fun k => (ns.take (k + 1)).sum
theorem sums_len (ns : List Int) : (sums ns).length = ns.length := by
  unfold sums
  rw [List.length_map, List.length_range]
/-- turned by k -/
def turn (ns : List Int) (k : Nat) : List Int := ns.drop k ++ ns.take k
theorem turn_len {ns : List Int} {k : Nat} : (turn ns k).length = ns.length := by
  unfold turn
  rw [List.length_append, List.length_drop, List.length_take]
  omega
theorem turn_mem {ns : List Int} {k : Nat} {n : Int} (h : n ∈ turn ns k) : n ∈ ns := by
  unfold turn at h
  rcases List.mem_append.mp h with h | h
  · exact List.mem_of_mem_drop h
  · exact List.mem_of_mem_take h
end Tr
namespace Tr
/-- all beginnings are above nought -/
def goodB (ns : List Int) : Bool := (sums ns).all fun t => decide (1 ≤ t)
theorem goodB_iff {ns : List Int} : goodB ns = true ↔ ∀ k, k < ns.length → 1 ≤ (ns.take (k + 1)).sum := by
  unfold goodB sums
  rw [List.all_eq_true]
  constructor
  · intro h k hk
    exact of_decide_eq_true (h _ (List.mem_map.mpr ⟨k, List.mem_range.mpr hk, rfl⟩))
  · intro h t ht
    obtain ⟨k, hk, rfl⟩ := List.mem_map.mp ht
    exact decide_eq_true (h k (List.mem_range.mp hk))
theorem goodB_no {ns : List Int} {k : Nat} (hk : k < ns.length) (h : (ns.take (k + 1)).sum < 1) : goodB ns = false := by
  cases e : goodB ns with
  | false => rfl
  | true =>
    have := goodB_iff.mp e k hk
    omega
theorem sums_at {ns : List Int} {i : Nat} {t : Int} (h : (sums ns)[i]? = some t) : i < ns.length ∧ t = (ns.take (i + 1)).sum := by
  have hi : i < ns.length := by
    have := (List.getElem?_eq_some_iff.mp h).1
    rw [sums_len] at this
    exact this
  refine ⟨hi, ?_⟩
  unfold sums at h
  rw [List.getElem?_map, List.getElem?_range hi] at h
  exact (Option.some.inj h).symm
end Tr
namespace Tr
/-- the numbers by which a row is turned into a good one -/
def startsOf (ns : List Int) : List Nat := (List.range ns.length).filter fun k => goodB (turn ns k)
theorem turn_row {ns : List Int} {j : Nat} (h : isRow ns) : isRow (turn ns j) := by
  refine ⟨?_, ?_, fun n hn => h.2.2 n (turn_mem hn)⟩
  · rw [turn_len]
    exact h.1
  · rw [turn_len]
    exact h.2.1
end Tr
/-! Forests: b are the boughs of the first tree, r the other trees. -/
namespace Tr
inductive Gr where
  | nil : Gr
  | cons (b r : Gr) : Gr
namespace Gr
def len : Gr → Nat
  | nil => 0
  | cons _ r => r.len + 1
def size : Gr → Nat
  | nil => 0
  | cons b r => b.size + r.size + 1
def depth : Gr → Nat
  | nil => 0
  | cons b r => max (b.depth + 1) r.depth
def word : Gr → List Int
  | nil => []
  | cons b r => (b.len : Int) :: (b.word ++ r.word)
def app : Gr → Gr → Gr
  | nil, g => g
  | cons b r, g => cons b (r.app g)
def rev : Gr → Gr
  | nil => nil
  | cons b r => r.rev.app (cons b nil)
def take : Nat → Gr → Gr
  | 0, _ => nil
  | _ + 1, nil => nil
  | n + 1, cons b r => cons b (take n r)
def drop : Nat → Gr → Gr
  | 0, g => g
  | _ + 1, nil => nil
  | n + 1, cons _ r => drop n r
theorem depth_le : ∀ g : Gr, g.depth ≤ g.size
  | nil => Nat.le_refl 0
  | cons b r => by
    have := depth_le b
    have := depth_le r
    simp only [depth, size]
    omega
theorem word_len : ∀ g : Gr, g.word.length = g.size
  | nil => rfl
  | cons b r => by
    simp only [word, size, List.length_cons, List.length_append, word_len b, word_len r]
theorem len_le : ∀ g : Gr, g.len ≤ g.size
  | nil => Nat.le_refl 0
  | cons b r => by
    have := len_le r
    simp only [len, size]
    omega
theorem app_nil : ∀ g : Gr, g.app nil = g
  | nil => rfl
  | cons b r => by rw [app, app_nil r]
theorem app_assoc : ∀ a b c : Gr, (a.app b).app c = a.app (b.app c)
  | nil, _, _ => rfl
  | cons x r, b, c => by simp only [app, app_assoc r b c]
theorem app_word : ∀ a b : Gr, (a.app b).word = a.word ++ b.word
  | nil, _ => rfl
  | cons x r, b => by simp only [app, word, app_word r b, List.cons_append, List.append_assoc]
theorem app_size : ∀ a b : Gr, (a.app b).size = a.size + b.size
  | nil, b => by simp [app, size]
  | cons x r, b => by
    simp only [app, size, app_size r b]
    omega
theorem app_len : ∀ a b : Gr, (a.app b).len = a.len + b.len
  | nil, b => by simp [app, len]
  | cons x r, b => by
    simp only [app, len, app_len r b]
    omega
theorem rev_size : ∀ g : Gr, g.rev.size = g.size
  | nil => rfl
  | cons b r => by
    simp only [rev, app_size, size, rev_size r]
    omega
theorem take_drop : ∀ (n : Nat) (g : Gr), (take n g).app (drop n g) = g
  | 0, _ => rfl
  | _ + 1, nil => rfl
  | n + 1, cons b r => by simp only [take, drop, app, take_drop n r]
theorem take_len : ∀ (n : Nat) (g : Gr), n ≤ g.len → (take n g).len = n
  | 0, _, _ => rfl
  | n + 1, nil, h => by simp [len] at h
  | n + 1, cons b r, h => by
    simp only [len] at h
    simp only [take, len, take_len n r (by omega)]
theorem drop_len : ∀ (n : Nat) (g : Gr), (drop n g).len = g.len - n
  | 0, _ => rfl
  | n + 1, nil => by simp [drop, len]
  | n + 1, cons b r => by
    simp only [drop, len, drop_len n r]
    omega
theorem take_app : ∀ a b : Gr, take a.len (a.app b) = a
  | nil, b => by cases b <;> rfl
  | cons x r, b => by simp only [len, app, take, take_app r b]
theorem drop_app : ∀ a b : Gr, drop a.len (a.app b) = b
  | nil, b => by cases b <;> rfl
  | cons x r, b => by simp only [len, app, drop, drop_app r b]
/-- the word's sum, and its numbers -/
theorem word_nn : ∀ (g : Gr) (n : Int), n ∈ g.word → 0 ≤ n
  | nil, _, h => by simp [word] at h
  | cons b r, n, h => by
    simp only [word, List.mem_cons, List.mem_append] at h
    rcases h with h | h | h
    · omega
    · exact word_nn b n h
    · exact word_nn r n h
/-! ### a word read from the right -/
def par : List Int → Gr
  | [] => nil
  | n :: w => cons (take n.toNat (par w)) (drop n.toNat (par w))
def okW : List Int → Prop
  | [] => True
  | n :: w => 0 ≤ n ∧ n ≤ (par w).len ∧ okW w
theorem par_app : ∀ (g : Gr) (w : List Int), par (g.word ++ w) = g.app (par w)
  | nil, _ => rfl
  | cons b r, w => by
    have e : par (b.word ++ (r.word ++ w)) = b.app (r.app (par w)) := by rw [par_app b, par_app r]
    simp only [word, List.cons_append, List.append_assoc, par, e, Int.toNat_natCast, take_app, drop_app, app]
theorem par_word (g : Gr) : par g.word = g := by
  have := par_app g []
  rw [List.append_nil, par, app_nil] at this
  exact this
theorem okW_app : ∀ (g : Gr) (w : List Int), okW w → okW (g.word ++ w)
  | nil, _, h => h
  | cons b r, w, h => by
    have h1 := okW_app b (r.word ++ w) (okW_app r w h)
    simp only [word, List.cons_append, List.append_assoc]
    refine ⟨by omega, ?_, h1⟩
    rw [par_app, app_len]
    omega
theorem okW_word (g : Gr) : okW g.word := by
  have := okW_app g [] trivial
  rwa [List.append_nil] at this
theorem word_par : ∀ w : List Int, okW w → (par w).word = w
  | [], _ => rfl
  | n :: w, h => by
    obtain ⟨h1, h2, h3⟩ := h
    have e := word_par w h3
    simp only [par, word]
    rw [take_len _ _ (by omega), ← app_word, take_drop, e]
    congr 1
    omega
theorem len_par : ∀ w : List Int, okW w → ((par w).len : Int) = (w.map fun n => 1 - n).sum
  | [], _ => rfl
  | n :: w, h => by
    obtain ⟨h1, h2, h3⟩ := h
    have e := len_par w h3
    simp only [par, len, List.map_cons, List.sum_cons, drop_len]
    rw [← e]
    omega
theorem size_par {w : List Int} (h : okW w) : (par w).size = w.length := by rw [← word_len, word_par w h]
theorem okW_tail {n : Int} {w : List Int} (h : okW (n :: w)) : okW w := h.2.2
theorem okW_drop : ∀ (k : Nat) {w : List Int}, okW w → okW (w.drop k)
  | 0, _, h => h
  | k + 1, [], _ => by simp [okW]
  | k + 1, n :: w, h => okW_drop k h.2.2
end Gr
/-- the test that the program makes -/
def rowOf (w : List Int) : List Int := w.reverse.map fun n => 1 - n
def isWB (w : List Int) : Bool := w.all (fun n => decide (0 ≤ n)) && (decide (0 < w.length) && goodB (rowOf w))
theorem goodB_snoc {l : List Int} {x : Int} : goodB (l ++ [x]) = true ↔ goodB l = true ∧ 1 ≤ l.sum + x := by
  rw [goodB_iff, goodB_iff]
  constructor
  · intro h
    refine ⟨fun k hk => ?_, ?_⟩
    · have := h k (by simp; omega)
      rwa [List.take_append_of_le_length (by omega)] at this
    · have := h l.length (by simp)
      rw [List.take_of_length_le (by simp), List.sum_append] at this
      simpa using this
  · rintro ⟨h1, h2⟩ k hk
    by_cases e : k < l.length
    · rw [List.take_append_of_le_length (by omega)]
      exact h1 k e
    · rw [List.take_of_length_le (by simp; omega), List.sum_append]
      simpa using h2
theorem rowOf_cons {n : Int} {w : List Int} : rowOf (n :: w) = rowOf w ++ [1 - n] := by simp [rowOf]
theorem rowOf_sum (w : List Int) : (rowOf w).sum = (w.map fun n => 1 - n).sum := by
  induction w with
  | nil => rfl
  | cons n w ih =>
    rw [rowOf_cons, List.sum_append, ih, List.map_cons, List.sum_cons]
    simp only [List.sum_cons, List.sum_nil]
    omega
theorem okW_iff : ∀ w : List Int, Gr.okW w ↔ (∀ n ∈ w, 0 ≤ n) ∧ goodB (rowOf w) = true
  | [] => by
    refine ⟨fun _ => ⟨by simp, ?_⟩, fun _ => trivial⟩
    rw [goodB_iff]
    intro k hk
    simp [rowOf] at hk
  | n :: w => by
    rw [rowOf_cons, goodB_snoc]
    have ih := okW_iff w
    constructor
    · rintro ⟨h1, h2, h3⟩
      obtain ⟨i1, i2⟩ := ih.mp h3
      have e := Gr.len_par w h3
      rw [← rowOf_sum] at e
      refine ⟨?_, i2, by omega⟩
      intro m hm
      rcases List.mem_cons.mp hm with rfl | hm
      · exact h1
      · exact i1 m hm
    · rintro ⟨h1, h2, h3⟩
      have hw := ih.mpr ⟨fun m hm => h1 m (List.mem_cons_of_mem _ hm), h2⟩
      have e := Gr.len_par w hw
      rw [← rowOf_sum] at e
      exact ⟨h1 n (List.mem_cons_self ..), by omega, hw⟩
theorem isWB_iff {w : List Int} : isWB w = true ↔ 0 < w.length ∧ Gr.okW w := by
  unfold isWB
  rw [okW_iff]
  simp only [Bool.and_eq_true, List.all_eq_true, decide_eq_true_eq]
  constructor
  · rintro ⟨a, b, c⟩
    exact ⟨b, a, c⟩
  · rintro ⟨b, a, c⟩
    exact ⟨a, b, c⟩
theorem isWB_word {g : Gr} (h : 0 < g.size) : isWB g.word = true := isWB_iff.mpr ⟨by rw [Gr.word_len]; exact h, Gr.okW_word g⟩
end Tr
/-! Factorials and the number of lists with given counts. -/
namespace Tr
def fac : Nat → Nat
  | 0 => 1
  | n + 1 => (n + 1) * fac n
theorem fac_pos : ∀ n, 0 < fac n
  | 0 => Nat.one_pos
  | n + 1 => Nat.mul_pos (Nat.succ_pos n) (fac_pos n)
theorem fac_mono : ∀ {m n : Nat}, m ≤ n → fac m ≤ fac n := by
  intro m n h
  induction h with
  | refl => exact Nat.le_refl _
  | step h ih => exact Nat.le_trans ih (Nat.le_mul_of_pos_left _ (Nat.succ_pos _))
/-- ways through a net -/
def net : Nat → Nat → Nat
  | 0, _ => 1
  | _ + 1, 0 => 1
  | a + 1, b + 1 => net a (b + 1) + net (a + 1) b
theorem net_fac : ∀ a b, net a b * (fac a * fac b) = fac (a + b)
  | 0, b => by simp [net, fac]
  | a + 1, 0 => by simp [net, fac]
  | a + 1, b + 1 => by
    have h1 := net_fac a (b + 1)
    have h2 := net_fac (a + 1) b
    have e1 : a + 1 + (b + 1) = (a + b + 1) + 1 := by omega
    have e2 : a + (b + 1) = a + b + 1 := by omega
    have e3 : a + 1 + b = a + b + 1 := by omega
    rw [e2] at h1
    rw [e3] at h2
    rw [e1, show fac ((a + b + 1) + 1) = (a + b + 1 + 1) * fac (a + b + 1) from rfl]
    have t1 : net a (b + 1) * (fac (a + 1) * fac (b + 1)) = (a + 1) * fac (a + b + 1) := by
      rw [← h1, show fac (a + 1) = (a + 1) * fac a from rfl]
      simp only [Nat.mul_assoc, Nat.mul_left_comm]
    have t2 : net (a + 1) b * (fac (a + 1) * fac (b + 1)) = (b + 1) * fac (a + b + 1) := by
      rw [← h2, show fac (b + 1) = (b + 1) * fac b from rfl]
      simp only [Nat.mul_assoc, Nat.mul_left_comm]
    rw [net, Nat.add_mul, t1, t2, ← Nat.add_mul]
    congr 1
def prodF (cs : List Nat) : Nat := (cs.map fac).foldr (· * ·) 1
theorem prodF_cons (c : Nat) (cs : List Nat) : prodF (c :: cs) = fac c * prodF cs := rfl
theorem prodF_pos : ∀ cs : List Nat, 0 < prodF cs
  | [] => Nat.one_pos
  | c :: cs => Nat.mul_pos (fac_pos c) (prodF_pos cs)
def mul : List Nat → Nat
  | [] => 1
  | c :: cs => net c cs.sum * mul cs
theorem mul_fac : ∀ cs : List Nat, mul cs * prodF cs = fac cs.sum
  | [] => rfl
  | c :: cs => by
    rw [mul, prodF_cons, List.sum_cons, ← net_fac, ← mul_fac cs]
    simp only [Nat.mul_assoc, Nat.mul_left_comm, Nat.mul_comm]
theorem prodF_append : ∀ as bs : List Nat, prodF (as ++ bs) = prodF as * prodF bs
  | [], bs => by simp [prodF]
  | a :: as, bs => by rw [List.cons_append, prodF_cons, prodF_cons, prodF_append as bs, Nat.mul_assoc]
theorem mul_pos (cs : List Nat) : 0 < mul cs := by
  rcases Nat.eq_zero_or_pos (mul cs) with h | h
  · have e := mul_fac cs
    rw [h, Nat.zero_mul] at e
    exact absurd e.symm (Nat.ne_of_gt (fac_pos _))
  · exact h
/-- the divisions one after the other -/
theorem fac_div : ∀ (cs : List Nat) (m : Nat), cs.foldl (fun x c => x / fac c) m = m / prodF cs
  | [], m => by simp [prodF]
  | c :: cs, m => by rw [List.foldl_cons, fac_div cs, prodF_cons, Nat.div_div_eq_div_mul]
theorem mul_div (cs : List Nat) : fac cs.sum / prodF cs = mul cs := by
  rw [← mul_fac, Nat.mul_div_cancel _ (prodF_pos cs)]
/-! ### one number less -/
def less (cs : List Nat) (l : Nat) : List Nat := cs.set l (cs.getD l 0 - 1)
theorem less_len (cs : List Nat) (l : Nat) : (less cs l).length = cs.length := List.length_set ..
theorem less_zero (c : Nat) (cs : List Nat) : less (c :: cs) 0 = (c - 1) :: cs := rfl
theorem less_succ (c : Nat) (cs : List Nat) (l : Nat) : less (c :: cs) (l + 1) = c :: less cs l := rfl
theorem less_sum : ∀ (cs : List Nat) (l : Nat), 0 < cs.getD l 0 → (less cs l).sum + 1 = cs.sum
  | [], l, h => by simp at h
  | c :: cs, 0, h => by
    rw [less_zero]
    simp only [List.getD_cons_zero] at h
    simp only [List.sum_cons]
    omega
  | c :: cs, l + 1, h => by
    have := less_sum cs l (by simpa using h)
    rw [less_succ]
    simp only [List.sum_cons]
    omega
theorem less_prod : ∀ (cs : List Nat) (l : Nat), 0 < cs.getD l 0 → cs.getD l 0 * prodF (less cs l) = prodF cs
  | [], l, h => by simp at h
  | c :: cs, 0, h => by
    simp only [List.getD_cons_zero] at h ⊢
    obtain ⟨d, rfl⟩ : ∃ d, c = d + 1 := ⟨c - 1, by omega⟩
    rw [less_zero, prodF_cons, prodF_cons, Nat.add_sub_cancel, show fac (d + 1) = (d + 1) * fac d from rfl, Nat.mul_assoc]
  | c :: cs, l + 1, h => by
    have := less_prod cs l (by simpa using h)
    rw [less_succ, prodF_cons, prodF_cons, ← this, List.getD_cons_succ]
    simp only [Nat.mul_left_comm]
/-- c M(c) = n M(c less one) -/
theorem mul_less {cs : List Nat} {l : Nat} (h : 0 < cs.getD l 0) : cs.getD l 0 * mul cs = cs.sum * mul (less cs l) := by
  have h1 := mul_fac cs
  have h2 := mul_fac (less cs l)
  have h3 := less_sum cs l h
  have h4 := less_prod cs l h
  rw [← h3, show fac ((less cs l).sum + 1) = ((less cs l).sum + 1) * fac (less cs l).sum from rfl, ← h2, ← h4] at h1
  refine Nat.eq_of_mul_eq_mul_right (prodF_pos (less cs l)) ?_
  rw [← h3]
  calc cs.getD l 0 * mul cs * prodF (less cs l) = mul cs * (cs.getD l 0 * prodF (less cs l)) := by rw [Nat.mul_left_comm (mul cs), Nat.mul_assoc]
    _ = _ := h1
    _ = _ := by simp only [Nat.mul_assoc]
/-! ### sums over places -/
def sumI (f : Nat → Int) : Nat → Int
  | 0 => 0
  | n + 1 => sumI f n + f n
theorem sumI_list (f : Nat → Int) : ∀ n, ((List.range n).map f).sum = sumI f n
  | 0 => rfl
  | n + 1 => by
    rw [List.range_succ, List.map_append, List.sum_append, sumI_list f n]
    simp [sumI]
theorem sumI_congr {f g : Nat → Int} : ∀ {n}, (∀ i, i < n → f i = g i) → sumI f n = sumI g n
  | 0, _ => rfl
  | n + 1, h => by rw [sumI, sumI, sumI_congr fun i hi => h i (by omega), h n (by omega)]
theorem sumI_mul (f : Nat → Int) (x : Int) : ∀ n, x * sumI f n = sumI (fun i => x * f i) n
  | 0 => by simp [sumI]
  | n + 1 => by rw [sumI, sumI, Int.mul_add, sumI_mul f x n]
theorem sumI_add (f g : Nat → Int) : ∀ n, sumI (fun i => f i + g i) n = sumI f n + sumI g n
  | 0 => rfl
  | n + 1 => by
    rw [sumI, sumI, sumI, sumI_add f g n]
    omega
theorem sumI_front (f : Nat → Int) : ∀ n, sumI f (n + 1) = f 0 + sumI (fun i => f (i + 1)) n
  | 0 => by simp [sumI]
  | n + 1 => by
    rw [sumI, sumI_front f n, sumI]
    omega
theorem sumI_cast : ∀ cs : List Nat, sumI (fun i => (cs.getD i 0 : Int)) cs.length = (cs.sum : Int)
  | [] => rfl
  | c :: cs => by
    rw [List.length_cons, sumI_front, List.sum_cons]
    have := sumI_cast cs
    simp only [List.getD_cons_zero, List.getD_cons_succ]
    omega
/-- how many trees there are with these counts -/
def trees (cs : List Nat) : Int := sumI (fun i => (cs.getD i 0 : Int) * (1 - (i : Int))) cs.length
/-- the number of lists with one less, or nought -/
def mulL (cs : List Nat) (i : Nat) : Int := if 0 < cs.getD i 0 then (mul (less cs i) : Int) else 0
theorem mul_lessI (cs : List Nat) (i : Nat) : (cs.getD i 0 : Int) * mul cs = cs.sum * mulL cs i := by
  unfold mulL
  split
  · rename_i h
    have := mul_less h
    exact_mod_cast this
  · rename_i h
    have : cs.getD i 0 = 0 := by omega
    rw [this]
    simp
theorem weigh (cs : List Nat) (w : Nat → Int) : sumI (fun i => (cs.getD i 0 : Int) * w i) cs.length * mul cs = cs.sum * sumI (fun i => w i * mulL cs i) cs.length := by
  rw [Int.mul_comm, sumI_mul, sumI_mul]
  apply sumI_congr
  intro i _
  have := mul_lessI cs i
  calc (mul cs : Int) * ((cs.getD i 0 : Int) * w i) = w i * ((cs.getD i 0 : Int) * mul cs) := by rw [Int.mul_comm, Int.mul_comm (cs.getD i 0 : Int) (w i), Int.mul_assoc]
    _ = w i * (cs.sum * mulL cs i) := by rw [this]
    _ = _ := by simp only [Int.mul_left_comm]
/-- how many words there are -/
def hm (cs : List Nat) : Int := if trees cs < 1 then 0 else trees cs * mul cs / cs.sum
theorem hm_exact {cs : List Nat} (h : 0 < cs.sum) : trees cs * mul cs = cs.sum * sumI (fun i => (1 - (i : Int)) * mulL cs i) cs.length := weigh cs fun i => 1 - (i : Int)
theorem hm_mul {cs : List Nat} (h : 0 < cs.sum) (ht : ¬ trees cs < 1) : hm cs * cs.sum = trees cs * mul cs := by
  unfold hm
  rw [if_neg ht, hm_exact h, Int.mul_ediv_cancel_left _ (by omega), Int.mul_comm]
theorem sumI_le {f g : Nat → Int} : ∀ {n}, (∀ i, i < n → f i ≤ g i) → sumI f n ≤ sumI g n
  | 0, _ => Int.le_refl _
  | n + 1, h => by
    have h1 := sumI_le (n := n) fun i hi => h i (by omega)
    have h2 := h n (by omega)
    rw [sumI, sumI]
    omega
theorem trees_le (cs : List Nat) : trees cs ≤ cs.sum := by
  rw [← sumI_cast cs]
  refine sumI_le fun i _ => ?_
  have h : (cs.getD i 0 : Int) * (1 - (i : Int)) ≤ (cs.getD i 0 : Int) * 1 := Int.mul_le_mul_of_nonneg_left (by omega) (by omega)
  omega
/-- as numbers of the program -/
def ci (cs : List Nat) : List Int := cs.map fun c : Nat => (c : Int)
theorem ci_len (cs : List Nat) : (ci cs).length = cs.length := List.length_map ..
theorem ci_sum : ∀ cs : List Nat, (ci cs).sum = (cs.sum : Int)
  | [] => rfl
  | c :: cs => by
    have := ci_sum cs
    show (c : Int) + (ci cs).sum = ((c + cs.sum : Nat) : Int)
    omega
theorem ci_at (cs : List Nat) (i : Nat) : (ci cs).getD i 0 = ((cs.getD i 0 : Nat) : Int) := by
  unfold ci
  rw [List.getD_eq_getElem?_getD, List.getD_eq_getElem?_getD, List.getElem?_map]
  cases cs[i]? <;> rfl
theorem ci_get {cs : List Nat} {i : Nat} {n : Int} (h : (ci cs)[i]? = some n) : ∃ c : Nat, n = c ∧ cs[i]? = some c := by
  unfold ci at h
  rw [List.getElem?_map] at h
  cases e : cs[i]? with
  | none => rw [e] at h; cases h
  | some c =>
    rw [e] at h
    exact ⟨c, by simpa using h.symm, rfl⟩
theorem le_sum : ∀ {cs : List Nat} {i c : Nat}, cs[i]? = some c → c ≤ cs.sum
  | d :: cs, 0, c, h => by
    cases h
    rw [List.sum_cons]
    omega
  | d :: cs, i + 1, c, h => by
    have := le_sum (cs := cs) (i := i) (by simpa using h)
    rw [List.sum_cons]
    omega
theorem fac_small {n : Nat} (h : n ≤ 100) : fac n < 2 ^ 600 := Nat.lt_of_le_of_lt (fac_mono h) (by decide +kernel)
end Tr
/-! How often each number stands in a list. -/
namespace Tr
def mx (ws : List Nat) : Nat := ws.foldr max 0
theorem le_mx : ∀ {ws : List Nat} {w : Nat}, w ∈ ws → w ≤ mx ws
  | v :: ws, w, h => by
    show w ≤ max v (mx ws)
    rcases List.mem_cons.mp h with h | h
    · omega
    · have := le_mx h
      omega
theorem mx_mem : ∀ {ws : List Nat}, ws ≠ [] → mx ws ∈ ws
  | [v], _ => by simp [mx]
  | v :: u :: ws, _ => by
    have ih := mx_mem (ws := u :: ws) (by simp)
    show max v (mx (u :: ws)) ∈ _
    by_cases h : mx (u :: ws) ≤ v
    · rw [Nat.max_eq_left h]
      exact List.mem_cons_self ..
    · rw [Nat.max_eq_right (by omega)]
      exact List.mem_cons_of_mem _ ih
def cntOf (ws : List Nat) : List Nat := (List.range (mx ws + 1)).map fun l => ws.count l
theorem cntOf_len (ws : List Nat) : (cntOf ws).length = mx ws + 1 := by simp [cntOf]
theorem cntOf_at (ws : List Nat) (l : Nat) : (cntOf ws).getD l 0 = ws.count l := by
  unfold cntOf
  rw [List.getD_eq_getElem?_getD, List.getElem?_map]
  by_cases h : l < mx ws + 1
  · rw [List.getElem?_range h]
    rfl
  · rw [List.getElem?_eq_none (by simpa using h)]
    symm
    show ws.count l = 0
    rw [List.count_eq_zero]
    intro hm
    have := le_mx hm
    omega
theorem ci_mem {ws : List Nat} {m : Int} : m ∈ ci ws ↔ ∃ w ∈ ws, m = (w : Int) := by
  unfold ci
  rw [List.mem_map]
  constructor
  · rintro ⟨w, h, rfl⟩
    exact ⟨w, h, rfl⟩
  · rintro ⟨w, h, rfl⟩
    exact ⟨w, h, rfl⟩
theorem mx_ci {ws : List Nat} {m : Int} (h0 : 0 < ws.length) (h1 : m ∈ ci ws) (h2 : ∀ y ∈ ci ws, y ≤ m) : m = (mx ws : Int) := by
  obtain ⟨w, hw, rfl⟩ := ci_mem.mp h1
  have a := le_mx hw
  have b := h2 _ (ci_mem.mpr ⟨mx ws, mx_mem (List.ne_nil_of_length_pos h0), rfl⟩)
  omega
theorem ci_count (ws : List Nat) (l : Nat) : (ci ws).count (l : Int) = ws.count l := by
  induction ws with
  | nil => rfl
  | cons w ws ih =>
    show ((w : Int) :: ci ws).count (l : Int) = _
    rw [List.count_cons, List.count_cons, ih]
    congr 1
    by_cases h : w = l
    · subst h
      simp
    · have h2 : ¬ ((w : Int) = (l : Int)) := by omega
      simp [h, h2]
theorem mx_perm {as bs : List Nat} (h : as.Perm bs) : mx as = mx bs := by
  induction h with
  | nil => rfl
  | cons x _ ih => exact congrArg (max x) ih
  | swap x y l => show max y (max x _) = max x (max y _); omega
  | trans _ _ i1 i2 => exact i1.trans i2
theorem cntOf_perm {as bs : List Nat} (h : as.Perm bs) : cntOf as = cntOf bs := by
  unfold cntOf
  rw [mx_perm h]
  apply List.map_congr_left
  intro l _
  exact h.count_eq l
end Tr
/-! Words by their numbers. -/
namespace Tr
/-- how many ends there are with these counts -/
def ends (cs : List Nat) : Int := if cs.sum = 0 then 1 else hm cs
theorem hm_nn (cs : List Nat) : 0 ≤ hm cs := by
  unfold hm
  split
  · exact Int.le_refl 0
  · rename_i h
    exact Int.ediv_nonneg (Int.mul_nonneg (by omega) (by omega)) (by omega)
theorem ends_nn (cs : List Nat) : 0 ≤ ends cs := by
  unfold ends
  split
  · decide
  · exact hm_nn cs
theorem less_at (cs : List Nat) (l j : Nat) : (less cs l).getD j 0 = if j = l then cs.getD l 0 - 1 else cs.getD j 0 := by
  unfold less
  rw [List.getD_eq_getElem?_getD, List.getElem?_set]
  by_cases h : l = j
  · subst h
    rw [if_pos rfl, if_pos rfl]
    by_cases h2 : l < cs.length
    · rw [if_pos h2]
      rfl
    · rw [if_neg h2, List.getD_eq_getElem?_getD, List.getElem?_eq_none (by omega)]
      rfl
  · rw [if_neg h, if_neg (Ne.symm h), List.getD_eq_getElem?_getD]
theorem getD_lt {cs : List Nat} {l : Nat} (h : 0 < cs.getD l 0) : l < cs.length := by
  by_cases h2 : l < cs.length
  · exact h2
  · rw [List.getD_eq_getElem?_getD, List.getElem?_eq_none (by omega)] at h
    exact absurd h (Nat.lt_irrefl _)
theorem sumI_one {f g : Nat → Int} {l : Nat} {d : Int} (ho : ∀ i, i ≠ l → f i = g i) (hl : f l = g l + d) : ∀ {n}, l < n → sumI f n = sumI g n + d
  | n + 1, h => by
    rw [sumI, sumI]
    by_cases e : n = l
    · subst e
      have : sumI f n = sumI g n := sumI_congr fun i hi => ho i (by omega)
      omega
    · have := sumI_one ho hl (n := n) (by omega)
      have := ho n e
      omega
theorem trees_less {cs : List Nat} {l : Nat} (h : 0 < cs.getD l 0) : trees (less cs l) = trees cs - 1 + l := by
  unfold trees
  rw [less_len]
  have := sumI_one (f := fun i => ((less cs l).getD i 0 : Int) * (1 - (i : Int))) (g := fun i => (cs.getD i 0 : Int) * (1 - (i : Int))) (l := l) (d := (l : Int) - 1) (fun i hi => by
    show ((less cs l).getD i 0 : Int) * _ = _
    rw [less_at, if_neg hi]) (by
    show ((less cs l).getD l 0 : Int) * _ = _ + _
    rw [less_at, if_pos rfl]
    have e : ((cs.getD l 0 - 1 : Nat) : Int) = (cs.getD l 0 : Int) - 1 := by omega
    rw [e, Int.sub_mul]
    omega) (getD_lt h)
  rw [this]
  omega
/-- the ends behind a number -/
def ev (cs : List Nat) (j : Nat) : Int := if 0 < cs.getD j 0 then ends (less cs j) else 0
theorem ev_nn (cs : List Nat) (j : Nat) : 0 ≤ ev cs j := by
  unfold ev
  split
  · exact ends_nn _
  · exact Int.le_refl 0
theorem sumI_mono {f : Nat → Int} (h : ∀ i, 0 ≤ f i) : ∀ {m n}, m ≤ n → sumI f m ≤ sumI f n := by
  intro m n hmn
  induction hmn with
  | refl => exact Int.le_refl _
  | step _ ih =>
    rw [sumI]
    have := h ‹_›
    omega
theorem sum_zero {cs : List Nat} (h : cs.sum = 0) (j : Nat) : cs.getD j 0 = 0 := by
  rw [List.getD_eq_getElem?_getD]
  cases e : cs[j]? with
  | none => rfl
  | some c =>
    have := le_sum e
    show c = 0
    omega
theorem sum_of_zero : ∀ {cs : List Nat}, (∀ j, cs.getD j 0 = 0) → cs.sum = 0
  | [], _ => rfl
  | c :: cs, h => by
    have h1 := h 0
    have h2 := sum_of_zero (cs := cs) fun j => by have := h (j + 1); simpa using this
    rw [List.sum_cons, h2]
    simpa using h1
theorem trees_sum_zero {cs : List Nat} (h : cs.sum = 0) : trees cs = 0 := by
  unfold trees
  have : ∀ n, sumI (fun i => (cs.getD i 0 : Int) * (1 - (i : Int))) n = 0 := fun n => by
    induction n with
    | zero => rfl
    | succ n ih =>
      rw [sumI, ih, sum_zero h]
      simp
  exact this _
theorem trees_split (cs : List Nat) : sumI (fun i => (cs.getD i 0 : Int) * (i : Int)) cs.length = cs.sum - trees cs := by
  have h : sumI (fun i => (cs.getD i 0 : Int) * (1 - (i : Int)) + (cs.getD i 0 : Int) * (i : Int)) cs.length = sumI (fun i => (cs.getD i 0 : Int)) cs.length := sumI_congr fun i _ => by
    rw [← Int.mul_add]
    have : (1 - (i : Int) + i) = 1 := by omega
    rw [this, Int.mul_one]
  rw [sumI_add, sumI_cast] at h
  unfold trees
  omega
theorem hm_less {cs : List Nat} {j : Nat} (h : 0 < cs.getD j 0) (ht : 1 ≤ trees cs) (hs : 2 ≤ cs.sum) : hm (less cs j) * ((cs.sum : Int) - 1) = (trees cs - 1 + j) * mul (less cs j) := by
  have hl := less_sum cs j h
  have e : ((less cs j).sum : Int) = (cs.sum : Int) - 1 := by omega
  have et := trees_less h
  by_cases h1 : trees (less cs j) < 1
  · have e0 : trees cs - 1 + j = 0 := by omega
    have e1 : hm (less cs j) = 0 := if_pos h1
    rw [e0, e1]
    simp
  · have := hm_mul (cs := less cs j) (by omega) h1
    rw [e, et] at this
    exact this
/-- the ends are those behind each first number -/
theorem ends_step {cs : List Nat} (hs : 0 < cs.sum) (ht : 1 ≤ trees cs) : ends cs = sumI (ev cs) cs.length := by
  have e0 : ends cs = hm cs := if_neg (by omega)
  have hx := hm_mul hs (by omega)
  by_cases h2 : 2 ≤ cs.sum
  · have hw := weigh cs fun i => trees cs - 1 + (i : Int)
    have hv : ((cs.sum : Int) - 1) * sumI (ev cs) cs.length = sumI (fun i => (trees cs - 1 + (i : Int)) * mulL cs i) cs.length := by
      rw [sumI_mul]
      apply sumI_congr
      intro i _
      unfold ev mulL
      split
      · rename_i h
        have hl := less_sum cs i h
        have := hm_less h ht h2
        unfold ends
        rw [if_neg (by omega), Int.mul_comm, this]
      · simp
    have hc : sumI (fun i => (cs.getD i 0 : Int) * (trees cs - 1 + (i : Int))) cs.length = trees cs * ((cs.sum : Int) - 1) := by
      have h3 : sumI (fun i => (cs.getD i 0 : Int) * (trees cs - 1 + (i : Int))) cs.length = sumI (fun i => (trees cs - 1) * (cs.getD i 0 : Int) + (cs.getD i 0 : Int) * (i : Int)) cs.length := sumI_congr fun i _ => by rw [Int.mul_add, Int.mul_comm (cs.getD i 0 : Int) (trees cs - 1)]
      rw [h3, sumI_add, ← sumI_mul, sumI_cast, trees_split, Int.mul_sub, Int.sub_mul]
      omega
    rw [hc, ← hv] at hw
    rw [e0]
    have hpos : ((cs.sum : Int) - 1) * cs.sum ≠ 0 := by
      apply Int.mul_ne_zero <;> omega
    refine Int.eq_of_mul_eq_mul_right hpos ?_
    calc hm cs * (((cs.sum : Int) - 1) * cs.sum) = (hm cs * cs.sum) * ((cs.sum : Int) - 1) := by rw [Int.mul_comm ((cs.sum : Int) - 1), Int.mul_assoc]
      _ = trees cs * mul cs * ((cs.sum : Int) - 1) := by rw [hx]
      _ = trees cs * ((cs.sum : Int) - 1) * mul cs := by rw [Int.mul_assoc, Int.mul_comm (mul cs : Int), ← Int.mul_assoc]
      _ = cs.sum * (((cs.sum : Int) - 1) * sumI (ev cs) cs.length) := hw
      _ = _ := by rw [← Int.mul_assoc, Int.mul_comm (cs.sum : Int), Int.mul_comm]
  · have h1 : cs.sum = 1 := by omega
    have hv : sumI (ev cs) cs.length = sumI (fun i => (cs.getD i 0 : Int)) cs.length := sumI_congr fun i _ => by
      unfold ev
      split
      · rename_i h
        have hl := less_sum cs i h
        unfold ends
        rw [if_pos (by omega)]
        have : cs.getD i 0 ≤ cs.sum := by
          rw [List.getD_eq_getElem?_getD]
          have hi := getD_lt h
          rw [List.getElem?_eq_getElem hi]
          exact le_sum (List.getElem?_eq_getElem hi)
        omega
      · rename_i h
        omega
    rw [hv, sumI_cast, h1]
    have hm1 : mul cs = 1 := by
      have := mul_fac cs
      rw [h1] at this
      exact Nat.dvd_one.mp ⟨prodF cs, this.symm⟩
    have htl := trees_le cs
    have t1 : trees cs = 1 := by omega
    rw [h1, hm1, t1] at hx
    rw [e0]
    omega
/-! ### words -/
/-- w is a word with these counts -/
def Wd : List Nat → List Nat → Prop
  | cs, [] => cs.sum = 0
  | cs, l :: w => 0 < cs.getD l 0 ∧ 1 ≤ trees cs ∧ Wd (less cs l) w
def rank : List Nat → List Nat → Int
  | _, [] => 0
  | cs, l :: w => sumI (ev cs) l + rank (less cs l) w
theorem Wd.sum {cs : List Nat} {l : Nat} {w : List Nat} (h : Wd cs (l :: w)) : 0 < cs.sum := by
  have := less_sum cs l h.1
  omega
theorem rank_lt : ∀ {w cs : List Nat}, Wd cs w → 0 ≤ rank cs w ∧ rank cs w < ends cs
  | [], cs, h => by
    have : ends cs = 1 := if_pos h
    rw [this]
    exact ⟨Int.le_refl 0, by show (0 : Int) < 1; decide⟩
  | l :: w, cs, h => by
    obtain ⟨i1, i2⟩ := rank_lt h.2.2
    have e := ends_step (Wd.sum h) h.2.1
    have e1 : ev cs l = ends (less cs l) := if_pos h.1
    have m0 := sumI_mono (f := ev cs) (ev_nn cs) (Nat.zero_le l)
    have m1 := sumI_mono (f := ev cs) (ev_nn cs) (show l + 1 ≤ cs.length from getD_lt h.1)
    rw [sumI] at m1
    have z : sumI (ev cs) 0 = 0 := rfl
    simp only [rank]
    omega
/-- which of two lists stands ahead -/
def ltN : List Nat → List Nat → Bool
  | [], [] => false
  | [], _ :: _ => true
  | _ :: _, [] => false
  | x :: xs, y :: ys => if x = y then ltN xs ys else decide (x < y)
theorem rank_ltN : ∀ {w v cs : List Nat}, Wd cs w → Wd cs v → (ltN w v = true ↔ rank cs w < rank cs v)
  | [], [], cs, _, _ => by simp [ltN, rank]
  | [], l :: v, cs, h, h2 => by
    have := Wd.sum h2
    have h' : cs.sum = 0 := h
    omega
  | l :: w, [], cs, h, h2 => by
    have := Wd.sum h
    have h' : cs.sum = 0 := h2
    omega
  | l :: w, k :: v, cs, h, h2 => by
    obtain ⟨a1, a2⟩ := rank_lt h.2.2
    obtain ⟨b1, b2⟩ := rank_lt h2.2.2
    have e1 : ev cs l = ends (less cs l) := if_pos h.1
    have e2 : ev cs k = ends (less cs k) := if_pos h2.1
    simp only [ltN, rank]
    by_cases e : l = k
    · subst e
      rw [if_pos rfl, rank_ltN h.2.2 h2.2.2]
      omega
    · rw [if_neg e, decide_eq_true_iff]
      constructor
      · intro hlt
        have m1 := sumI_mono (f := ev cs) (ev_nn cs) (show l + 1 ≤ k from hlt)
        rw [sumI] at m1
        omega
      · intro hr
        rcases Nat.lt_or_ge l k with h3 | h3
        · exact h3
        · have m1 := sumI_mono (f := ev cs) (ev_nn cs) (show k + 1 ≤ l by omega)
          rw [sumI] at m1
          omega
theorem ltN_tri : ∀ w v : List Nat, ltN w v = false → ltN v w = false → w = v
  | [], [], _, _ => rfl
  | [], _ :: _, h, _ => by simp [ltN] at h
  | _ :: _, [], _, h => by simp [ltN] at h
  | x :: xs, y :: ys, h, h2 => by
    simp only [ltN] at h h2
    by_cases e : x = y
    · subst e
      rw [if_pos rfl] at h h2
      rw [ltN_tri xs ys h h2]
    · rw [if_neg e] at h
      rw [if_neg (Ne.symm e)] at h2
      simp at h h2
      omega
theorem rank_inj {w v cs : List Nat} (h : Wd cs w) (h2 : Wd cs v) (e : rank cs w = rank cs v) : w = v := by
  refine ltN_tri w v ?_ ?_
  · cases q : ltN w v with
    | false => rfl
    | true =>
      have := (rank_ltN h h2).mp q
      omega
  · cases q : ltN v w with
    | false => rfl
    | true =>
      have := (rank_ltN h2 h).mp q
      omega
end Tr
/-! Words, counts and the reading from the right. -/
namespace Tr
def Mt (cs w : List Nat) : Prop := ∀ l, cs.getD l 0 = w.count l
theorem Mt.of_cnt (w : List Nat) : Mt (cntOf w) w := fun l => cntOf_at w l
theorem Mt.nil {cs : List Nat} (h : Mt cs []) : cs.sum = 0 := sum_of_zero fun l => by rw [h l]; rfl
theorem Mt.cons {cs : List Nat} {l : Nat} {w : List Nat} (h : Mt cs (l :: w)) : 0 < cs.getD l 0 ∧ Mt (less cs l) w := by
  have h1 := h l
  rw [List.count_cons_self] at h1
  refine ⟨by omega, fun j => ?_⟩
  rw [less_at]
  by_cases e : j = l
  · subst e
    rw [if_pos rfl]
    omega
  · rw [if_neg e, h j, List.count_cons_of_ne (Ne.symm e)]
theorem Mt.back {cs : List Nat} {l : Nat} {w : List Nat} (h0 : 0 < cs.getD l 0) (h : Mt (less cs l) w) : Mt cs (l :: w) := fun j => by
  have h1 := h j
  rw [less_at] at h1
  by_cases e : j = l
  · subst e
    rw [if_pos rfl] at h1
    rw [List.count_cons_self]
    omega
  · rw [if_neg e] at h1
    rw [h1, List.count_cons_of_ne (Ne.symm e)]
theorem Mt.of_nil {cs : List Nat} (h : cs.sum = 0) : Mt cs [] := fun l => by rw [sum_zero h l]; rfl
theorem Mt.sum : ∀ {w cs : List Nat}, Mt cs w → cs.sum = w.length
  | [], _, h => h.nil
  | l :: w, cs, h => by
    obtain ⟨h1, h2⟩ := h.cons
    have := h2.sum
    have := less_sum cs l h1
    rw [List.length_cons]
    omega
theorem Mt.trees : ∀ {w cs : List Nat}, Mt cs w → trees cs = ((ci w).map fun n => 1 - n).sum
  | [], _, h => trees_sum_zero h.nil
  | l :: w, cs, h => by
    obtain ⟨h1, h2⟩ := h.cons
    have e := h2.trees
    have := trees_less h1
    show _ = (1 - (l : Int)) + ((ci w).map fun n => 1 - n).sum
    omega
theorem wd_iff : ∀ {w cs : List Nat}, Wd cs w ↔ Mt cs w ∧ Gr.okW (ci w)
  | [], cs => ⟨fun h => ⟨Mt.of_nil h, trivial⟩, fun h => h.1.nil⟩
  | l :: w, cs => by
    constructor
    · rintro ⟨h1, h2, h3⟩
      obtain ⟨m, o⟩ := wd_iff.mp h3
      have e := m.trees
      have e2 := Gr.len_par _ o
      have e3 := trees_less h1
      refine ⟨Mt.back h1 m, ?_⟩
      show 0 ≤ (l : Int) ∧ (l : Int) ≤ (Gr.par (ci w)).len ∧ Gr.okW (ci w)
      exact ⟨by omega, by omega, o⟩
    · rintro ⟨m, o⟩
      obtain ⟨h1, h2⟩ := m.cons
      have o' : 0 ≤ (l : Int) ∧ (l : Int) ≤ (Gr.par (ci w)).len ∧ Gr.okW (ci w) := o
      have e := h2.trees
      have e2 := Gr.len_par _ o'.2.2
      have e3 := trees_less h1
      exact ⟨h1, by omega, wd_iff.mpr ⟨h2, o'.2.2⟩⟩
theorem Mt.perm {cs w v : List Nat} (h : Mt cs w) (h2 : Mt cs v) : w.Perm v := List.perm_iff_count.mpr fun l => (h l).symm.trans (h2 l)
/-! ### noughts behind -/
theorem same_sum : ∀ {as bs : List Nat}, (∀ l, as.getD l 0 = bs.getD l 0) → as.sum = bs.sum ∧ prodF as = prodF bs
  | [], [], _ => ⟨rfl, rfl⟩
  | [], b :: bs, h => by
    have h0 : b = 0 := by have := h 0; simpa using this.symm
    obtain ⟨i1, i2⟩ := same_sum (as := []) (bs := bs) fun l => by have := h (l + 1); simpa using this
    subst h0
    rw [List.sum_cons, prodF_cons, ← i1, ← i2]
    exact ⟨rfl, rfl⟩
  | a :: as, [], h => by
    have h0 : a = 0 := by have := h 0; simpa using this
    obtain ⟨i1, i2⟩ := same_sum (as := as) (bs := []) fun l => by have := h (l + 1); simpa using this
    subst h0
    rw [List.sum_cons, prodF_cons, i1, i2]
    exact ⟨rfl, rfl⟩
  | a :: as, b :: bs, h => by
    have h0 : a = b := by have := h 0; simpa using this
    obtain ⟨i1, i2⟩ := same_sum (as := as) (bs := bs) fun l => by have := h (l + 1); simpa using this
    subst h0
    rw [List.sum_cons, List.sum_cons, prodF_cons, prodF_cons, i1, i2]
    exact ⟨rfl, rfl⟩
theorem same_mul {as bs : List Nat} (h : ∀ l, as.getD l 0 = bs.getD l 0) : mul as = mul bs := by
  obtain ⟨h1, h2⟩ := same_sum h
  have a := mul_fac as
  rw [h1, h2, ← mul_fac bs] at a
  exact Nat.eq_of_mul_eq_mul_right (prodF_pos bs) a
theorem sumI_far {f : Nat → Int} {m : Nat} (h : ∀ i, m ≤ i → f i = 0) : ∀ {n}, m ≤ n → sumI f n = sumI f m := by
  intro n hn
  induction hn with
  | refl => rfl
  | step hm ih => rw [sumI, ih, h _ hm, Int.add_zero]
theorem trees_far {cs : List Nat} {n : Nat} (h : cs.length ≤ n) : trees cs = sumI (fun i => (cs.getD i 0 : Int) * (1 - (i : Int))) n := by
  refine (sumI_far (fun i hi => ?_) h).symm
  have : cs.getD i 0 = 0 := by rw [List.getD_eq_getElem?_getD, List.getElem?_eq_none hi]; rfl
  rw [this]
  simp
theorem same_trees {as bs : List Nat} (h : ∀ l, as.getD l 0 = bs.getD l 0) : trees as = trees bs := by
  rw [trees_far (n := max as.length bs.length) (Nat.le_max_left _ _), trees_far (n := max as.length bs.length) (Nat.le_max_right _ _)]
  exact sumI_congr fun i _ => by rw [h i]
theorem same_hm {as bs : List Nat} (h : ∀ l, as.getD l 0 = bs.getD l 0) : hm as = hm bs := by
  unfold hm
  rw [same_trees h, same_mul h, (same_sum h).1]
theorem same_ends {as bs : List Nat} (h : ∀ l, as.getD l 0 = bs.getD l 0) : ends as = ends bs := by
  unfold ends
  rw [same_hm h, (same_sum h).1]
theorem same_less {as bs : List Nat} (h : ∀ l, as.getD l 0 = bs.getD l 0) (j : Nat) : ∀ l, (less as j).getD l 0 = (less bs j).getD l 0 := fun l => by
  rw [less_at, less_at, h l, h j]
theorem same_ev {as bs : List Nat} (h : ∀ l, as.getD l 0 = bs.getD l 0) (j : Nat) : ev as j = ev bs j := by
  unfold ev
  rw [h j, same_ends (same_less h j)]
theorem same_rank : ∀ {w as bs : List Nat}, (∀ l, as.getD l 0 = bs.getD l 0) → rank as w = rank bs w
  | [], _, _, _ => rfl
  | l :: w, as, bs, h => by
    simp only [rank]
    rw [same_rank (w := w) (same_less h l), sumI_congr fun i _ => same_ev h i]
theorem Mt.same {as bs w : List Nat} (h : Mt as w) (h2 : Mt bs w) : ∀ l, as.getD l 0 = bs.getD l 0 := fun l => (h l).trans (h2 l).symm
/-! ### numbers of the program -/
theorem ci_word (g : Gr) : ∃ w : List Nat, g.word = ci w := by
  refine ⟨g.word.map Int.toNat, ?_⟩
  have h := Gr.word_nn g
  unfold ci
  rw [List.map_map]
  have : ∀ ns : List Int, (∀ n ∈ ns, 0 ≤ n) → ns = ns.map ((fun c : Nat => (c : Int)) ∘ Int.toNat) := fun ns hn => by
    induction ns with
    | nil => rfl
    | cons n ns ih =>
      have h0 := hn n (List.mem_cons_self ..)
      rw [List.map_cons, ← ih fun m hm => hn m (List.mem_cons_of_mem _ hm)]
      congr 1
      show n = ((n.toNat : Nat) : Int)
      omega
  exact this _ h
theorem okW_mx : ∀ {w : List Nat}, Gr.okW (ci w) → mx w ≤ w.length
  | [], _ => Nat.le_refl 0
  | l :: w, h => by
    have h' : 0 ≤ (l : Int) ∧ (l : Int) ≤ (Gr.par (ci w)).len ∧ Gr.okW (ci w) := h
    have h1 := okW_mx h'.2.2
    have h2 := Gr.len_le (Gr.par (ci w))
    rw [Gr.size_par h'.2.2, ci_len] at h2
    show max l (mx w) ≤ _
    rw [List.length_cons]
    omega
theorem okW_mx1 {w : List Nat} (h0 : 0 < w.length) (h : Gr.okW (ci w)) : mx w + 1 ≤ w.length := by
  cases w with
  | nil => simp at h0
  | cons l w =>
    have h' : 0 ≤ (l : Int) ∧ (l : Int) ≤ (Gr.par (ci w)).len ∧ Gr.okW (ci w) := h
    have h1 := okW_mx h'.2.2
    have h2 := Gr.len_le (Gr.par (ci w))
    rw [Gr.size_par h'.2.2, ci_len] at h2
    show max l (mx w) + 1 ≤ _
    rw [List.length_cons]
    omega
end Tr
/-! All lists with given counts, in order; all words. -/
namespace Tr
def ext (cs : List Nat) (one : List Nat) (j : Nat) : List (List Nat) := ((List.range j).filter fun n => decide (one.count n < cs.getD n 0)).map fun n => one ++ [n]
def lvl (cs : List Nat) : Nat → List (List Nat)
  | 0 => [[]]
  | k + 1 => (lvl cs k).flatMap fun one => ext cs one cs.length
theorem ext_succ (cs one : List Nat) (j : Nat) : ext cs one (j + 1) = ext cs one j ++ if one.count j < cs.getD j 0 then [one ++ [j]] else [] := by
  unfold ext
  rw [List.range_succ, List.filter_append, List.map_append]
  congr 1
  by_cases h : one.count j < cs.getD j 0
  · rw [if_pos h, List.filter_cons_of_pos (by simpa using h)]
    rfl
  · rw [if_neg h, List.filter_cons_of_neg (by simpa using h)]
    rfl
theorem ext_len (cs one : List Nat) (j : Nat) : (ext cs one j).length ≤ j := by
  unfold ext
  rw [List.length_map]
  exact Nat.le_trans (List.length_filter_le _ _) (by rw [List.length_range]; exact Nat.le_refl j)
theorem flat_len (cs : List Nat) : ∀ ls : List (List Nat), (ls.flatMap fun one => ext cs one cs.length).length ≤ ls.length * cs.length
  | [] => by simp
  | a :: ls => by
    have := flat_len cs ls
    have := ext_len cs a cs.length
    rw [List.flatMap_cons, List.length_append, List.length_cons, Nat.succ_mul]
    omega
theorem lvl_len {cs : List Nat} (h : cs.length ≤ 8) : ∀ k, (lvl cs k).length ≤ 8 ^ k
  | 0 => Nat.le_refl 1
  | k + 1 => by
    have h1 := flat_len cs (lvl cs k)
    have h2 := lvl_len h k
    have h3 : (lvl cs k).length * cs.length ≤ 8 ^ k * 8 := Nat.mul_le_mul h2 h
    rw [Nat.pow_succ]
    exact Nat.le_trans h1 h3
theorem mem_ext {cs one y : List Nat} {j : Nat} : y ∈ ext cs one j ↔ ∃ n, n < j ∧ one.count n < cs.getD n 0 ∧ y = one ++ [n] := by
  unfold ext
  rw [List.mem_map]
  constructor
  · rintro ⟨n, hn, rfl⟩
    rw [List.mem_filter, List.mem_range] at hn
    exact ⟨n, hn.1, by simpa using hn.2, rfl⟩
  · rintro ⟨n, h1, h2, rfl⟩
    exact ⟨n, by rw [List.mem_filter, List.mem_range]; exact ⟨h1, by simpa using h2⟩, rfl⟩
theorem mem_lvl {cs : List Nat} : ∀ {k : Nat} {y : List Nat}, y ∈ lvl cs k ↔ y.length = k ∧ ∀ n, y.count n ≤ cs.getD n 0
  | 0, y => by
    simp only [lvl, List.mem_singleton]
    constructor
    · rintro rfl
      exact ⟨rfl, fun n => Nat.zero_le _⟩
    · rintro ⟨h, _⟩
      exact List.eq_nil_of_length_eq_zero h
  | k + 1, y => by
    simp only [lvl, List.mem_flatMap]
    constructor
    · rintro ⟨one, ho, hy⟩
      obtain ⟨h1, h2⟩ := mem_lvl.mp ho
      obtain ⟨n, h3, h4, rfl⟩ := mem_ext.mp hy
      refine ⟨by rw [List.length_append, h1]; rfl, fun m => ?_⟩
      rw [List.count_append]
      by_cases e : n = m
      · subst e
        rw [List.count_singleton_self]
        omega
      · have : List.count m [n] = 0 := by simp [e]
        have := h2 m
        omega
    · rintro ⟨h1, h2⟩
      have hne : y ≠ [] := fun e => by
        rw [e] at h1
        cases h1
      obtain ⟨one, n, rfl⟩ : ∃ one n, y = one ++ [n] := ⟨y.dropLast, y.getLast hne, (List.dropLast_concat_getLast hne).symm⟩
      rw [List.length_append] at h1
      have hn := h2 n
      rw [List.count_append, List.count_singleton_self] at hn
      refine ⟨one, mem_lvl.mpr ⟨by simpa using h1, fun m => ?_⟩, mem_ext.mpr ⟨n, getD_lt (by omega), by omega, rfl⟩⟩
      have := h2 m
      rw [List.count_append] at this
      omega
theorem ltN_snoc : ∀ {a b : List Nat} {m n : Nat}, a.length = b.length → ltN a b = true → ltN (a ++ [m]) (b ++ [n]) = true
  | [], [], _, _, _, h => by simp [ltN] at h
  | x :: xs, y :: ys, m, n, hl, h => by
    simp only [ltN, List.cons_append] at h ⊢
    by_cases e : x = y
    · rw [if_pos e] at h ⊢
      exact ltN_snoc (by simpa using hl) h
    · rw [if_neg e] at h ⊢
      exact h
theorem ltN_last : ∀ {a : List Nat} {m n : Nat}, m < n → ltN (a ++ [m]) (a ++ [n]) = true
  | [], m, n, h => by
    show (if m = n then ltN [] [] else decide (m < n)) = true
    rw [if_neg (by omega)]
    exact decide_eq_true h
  | x :: xs, m, n, h => by
    show (if x = x then ltN (xs ++ [m]) (xs ++ [n]) else _) = true
    rw [if_pos rfl]
    exact ltN_last h
theorem ltN_asym : ∀ {a b : List Nat}, ltN a b = true → ltN b a = false
  | [], [], _ => rfl
  | [], _ :: _, _ => rfl
  | _ :: _, [], h => by simp [ltN] at h
  | x :: xs, y :: ys, h => by
    simp only [ltN] at h ⊢
    by_cases e : x = y
    · subst e
      rw [if_pos rfl] at h ⊢
      exact ltN_asym h
    · rw [if_neg e] at h
      rw [if_neg (Ne.symm e)]
      have := of_decide_eq_true h
      exact decide_eq_false (by omega)
theorem ext_sorted (cs one : List Nat) : ∀ j, (ext cs one j).Pairwise fun a b => ltN a b = true
  | 0 => List.Pairwise.nil
  | j + 1 => by
    rw [ext_succ, List.pairwise_append]
    refine ⟨ext_sorted cs one j, ?_, ?_⟩
    · split
      · exact List.pairwise_singleton _ _
      · exact List.Pairwise.nil
    · intro a ha b hb
      obtain ⟨n, h1, _, rfl⟩ := mem_ext.mp ha
      split at hb
      · rw [List.mem_singleton] at hb
        subst hb
        exact ltN_last h1
      · cases hb
theorem flat_sorted (cs : List Nat) (k : Nat) : ∀ ls : List (List Nat), (∀ a ∈ ls, a.length = k) → ls.Pairwise (fun a b => ltN a b = true) → (ls.flatMap fun one => ext cs one cs.length).Pairwise fun a b => ltN a b = true
  | [], _, _ => List.Pairwise.nil
  | one :: ls, hl, hp => by
    rw [List.pairwise_cons] at hp
    rw [List.flatMap_cons, List.pairwise_append]
    refine ⟨ext_sorted cs one _, flat_sorted cs k ls (fun a ha => hl a (List.mem_cons_of_mem _ ha)) hp.2, ?_⟩
    intro a ha b hb
    obtain ⟨n, _, _, rfl⟩ := mem_ext.mp ha
    obtain ⟨two, h2, hb⟩ := List.mem_flatMap.mp hb
    obtain ⟨m, _, _, rfl⟩ := mem_ext.mp hb
    exact ltN_snoc (by rw [hl one (List.mem_cons_self ..), hl two (List.mem_cons_of_mem _ h2)]) (hp.1 two h2)
theorem lvl_sorted (cs : List Nat) : ∀ k, (lvl cs k).Pairwise fun a b => ltN a b = true
  | 0 => List.pairwise_singleton _ _
  | k + 1 => flat_sorted cs k _ (fun a ha => (mem_lvl.mp ha).1) (lvl_sorted cs k)
theorem sum_count : ∀ {cs y : List Nat}, (∀ n, y.count n ≤ cs.getD n 0) → y.length = cs.sum → Mt cs y := by
  intro cs y
  induction y generalizing cs with
  | nil =>
    intro _ h
    exact Mt.of_nil h.symm
  | cons l y ih =>
    intro h1 h2
    have h0 := h1 l
    rw [List.count_cons_self] at h0
    have hls := less_sum cs l (by omega)
    refine Mt.back (by omega) (ih (fun n => ?_) (by rw [List.length_cons] at h2; omega))
    rw [less_at]
    by_cases e : n = l
    · subst e
      rw [if_pos rfl]
      omega
    · rw [if_neg e]
      have := h1 n
      rwa [List.count_cons_of_ne (Ne.symm e)] at this
theorem mem_all {cs y : List Nat} : y ∈ lvl cs cs.sum ↔ Mt cs y := by
  rw [mem_lvl]
  constructor
  · rintro ⟨h1, h2⟩
    exact sum_count h2 h1
  · intro h
    exact ⟨h.sum.symm, fun n => by rw [h n]; exact Nat.le_refl _⟩
/-- the words among them -/
def wordsOf (cs : List Nat) : List (List Nat) := (lvl cs cs.sum).filter fun w => isWB (ci w)
theorem mem_wordsOf {cs w : List Nat} (hs : 0 < cs.sum) : w ∈ wordsOf cs ↔ Wd cs w := by
  unfold wordsOf
  rw [List.mem_filter, mem_all, wd_iff, isWB_iff]
  constructor
  · rintro ⟨h1, _, h2⟩
    exact ⟨h1, h2⟩
  · rintro ⟨h1, h2⟩
    have := h1.sum
    exact ⟨h1, by rw [ci_len]; omega, h2⟩
/-- a list of all words by their numbers is the list of the words -/
theorem words_eq {cs : List Nat} (hs : 0 < cs.sum) {W : List (List Nat)} (hl : (W.length : Int) = hm cs) (hW : ∀ i w, W[i]? = some w → Wd cs w ∧ rank cs w = (i : Nat)) : W = wordsOf cs := by
  have s1 : W.Pairwise fun a b => ltN a b = true := by
    rw [List.pairwise_iff_getElem]
    intro i j hi hj hij
    obtain ⟨a1, a2⟩ := hW i _ (List.getElem?_eq_getElem hi)
    obtain ⟨b1, b2⟩ := hW j _ (List.getElem?_eq_getElem hj)
    exact (rank_ltN a1 b1).mpr (by omega)
  have s2 : (wordsOf cs).Pairwise fun a b => ltN a b = true := (lvl_sorted cs _).filter _
  have nd : ∀ {l : List (List Nat)}, (l.Pairwise fun a b => ltN a b = true) → l.Nodup := fun h => h.imp fun {a b} hab e => by
    subst e
    have := ltN_asym hab
    rw [hab] at this
    cases this
  have pm : W.Perm (wordsOf cs) := by
    rw [List.perm_ext_iff_of_nodup (nd s1) (nd s2)]
    intro w
    rw [mem_wordsOf hs]
    constructor
    · intro h
      obtain ⟨i, hi⟩ := List.mem_iff_getElem?.mp h
      exact (hW i w hi).1
    · intro h
      obtain ⟨r0, r1⟩ := rank_lt h
      have e : ends cs = hm cs := if_neg (by omega)
      rw [e, ← hl] at r1
      have hlt : (rank cs w).toNat < W.length := by omega
      obtain ⟨b1, b2⟩ := hW _ _ (List.getElem?_eq_getElem hlt)
      have : W[(rank cs w).toNat] = w := rank_inj b1 h (by omega)
      rw [← this]
      exact List.getElem_mem hlt
  exact pm.eq_of_pairwise (le := fun a b => ltN a b = true) (fun a b _ _ h1 h2 => by
    have := ltN_asym h1
    rw [h2] at this
    cases this) s1 s2
theorem hm_le {cs : List Nat} (h : cs.sum ≤ 8) : hm cs ≤ 40320 := by
  by_cases ht : trees cs < 1
  · have : hm cs = 0 := if_pos ht
    omega
  · have hs : 0 < cs.sum := by
      have := trees_le cs
      omega
    have e := hm_mul hs ht
    have hmul : mul cs ≤ fac cs.sum := by
      rw [← mul_fac]
      exact Nat.le_mul_of_pos_right _ (prodF_pos cs)
    have hf : fac cs.sum ≤ 40320 := Nat.le_trans (fac_mono h) (by decide)
    have h1 : trees cs * mul cs ≤ (cs.sum : Int) * mul cs := Int.mul_le_mul_of_nonneg_right (trees_le cs) (by omega)
    rw [← e] at h1
    have h2 : hm cs ≤ mul cs := by
      rw [Int.mul_comm] at h1
      exact Int.le_of_mul_le_mul_left h1 (by omega)
    omega
theorem wordsOf_same {as bs : List Nat} (hs : 0 < as.sum) (h : ∀ l, as.getD l 0 = bs.getD l 0) : wordsOf as = wordsOf bs := by
  have hb : 0 < bs.sum := by rw [← (same_sum h).1]; exact hs
  have s2 : ∀ cs, (wordsOf cs).Pairwise fun a b => ltN a b = true := fun cs => (lvl_sorted cs _).filter _
  have nd : ∀ {l : List (List Nat)}, (l.Pairwise fun a b => ltN a b = true) → l.Nodup := fun h => h.imp fun {a b} hab e => by
    subst e
    have := ltN_asym hab
    rw [hab] at this
    cases this
  have pm : (wordsOf as).Perm (wordsOf bs) := by
    rw [List.perm_ext_iff_of_nodup (nd (s2 _)) (nd (s2 _))]
    intro w
    rw [mem_wordsOf hs, mem_wordsOf hb, wd_iff, wd_iff]
    constructor
    · rintro ⟨m, o⟩
      exact ⟨fun l => (h l).symm.trans (m l), o⟩
    · rintro ⟨m, o⟩
      exact ⟨fun l => (h l).trans (m l), o⟩
  exact pm.eq_of_pairwise (le := fun a b => ltN a b = true) (fun a b _ _ h1 h2 => by
    have := ltN_asym h1
    rw [h2] at this
    cases this) (s2 _) (s2 _)
end Tr
namespace Tr
theorem find_l {f : Nat → Int} : ∀ {n : Nat} {x : Int}, 0 ≤ x → x < sumI f n → ∃ l, l < n ∧ sumI f l ≤ x ∧ x < sumI f (l + 1)
  | 0, x, h0, h => by
    have : sumI f 0 = 0 := rfl
    omega
  | n + 1, x, h0, h => by
    by_cases c : x < sumI f n
    · obtain ⟨l, h1, h2, h3⟩ := find_l h0 c
      exact ⟨l, by omega, h2, h3⟩
    · exact ⟨n, Nat.lt_succ_self n, by omega, h⟩
theorem rank_sur : ∀ (n : Nat) {cs : List Nat} {x : Int}, cs.sum = n → 0 ≤ x → x < ends cs → ∃ w, Wd cs w ∧ rank cs w = x
  | 0, cs, x, hs, h0, h => by
    have e : ends cs = 1 := if_pos hs
    exact ⟨[], hs, by show (0 : Int) = x; omega⟩
  | n + 1, cs, x, hs, h0, h => by
    have e : ends cs = hm cs := if_neg (by omega)
    have ht : 1 ≤ trees cs := by
      rcases Int.lt_or_le (trees cs) 1 with h1 | h1
      · have : hm cs = 0 := if_pos h1
        omega
      · exact h1
    rw [ends_step (by omega) ht] at h
    obtain ⟨l, h1, h2, h3⟩ := find_l h0 h
    rw [sumI] at h3
    have hc : 0 < cs.getD l 0 := by
      rcases Nat.eq_zero_or_pos (cs.getD l 0) with hz | hz
      · have : ev cs l = 0 := if_neg (by omega)
        omega
      · exact hz
    have e1 : ev cs l = ends (less cs l) := if_pos hc
    have hl := less_sum cs l hc
    obtain ⟨w, w1, w2⟩ := rank_sur n (cs := less cs l) (x := x - sumI (ev cs) l) (by omega) (by omega) (by omega)
    exact ⟨l :: w, ⟨hc, ht, w1⟩, by simp only [rank]; omega⟩
theorem wordsOf_len {cs : List Nat} (hs : 0 < cs.sum) : ((wordsOf cs).length : Int) = hm cs := by
  have e : ends cs = hm cs := if_neg (by omega)
  have h0 := hm_nn cs
  have hx : ∀ i : Nat, i < (hm cs).toNat → ∃ w, Wd cs w ∧ rank cs w = (i : Nat) := fun i hi => rank_sur _ rfl (by omega) (by omega)
  have hch : ∀ i : Nat, ∃ w : List Nat, i < (hm cs).toNat → Wd cs w ∧ rank cs w = (i : Nat) := fun i => by
    by_cases hi : i < (hm cs).toNat
    · obtain ⟨w, hw⟩ := hx i hi
      exact ⟨w, fun _ => hw⟩
    · exact ⟨[], fun h => absurd h hi⟩
  have hW := words_eq hs (W := (List.range (hm cs).toNat).map fun i => Classical.choose (hch i)) (by rw [List.length_map, List.length_range]; omega) (fun i w hw => by
    rw [List.getElem?_map] at hw
    by_cases hi : i < (hm cs).toNat
    · rw [List.getElem?_range hi] at hw
      have ew : w = Classical.choose (hch i) := (Option.some.inj hw).symm
      rw [ew]
      exact Classical.choose_spec (hch i) hi
    · rw [List.getElem?_eq_none (by simpa using hi)] at hw
      cases hw)
  rw [← hW, List.length_map, List.length_range]
  omega
end Tr
/-! Lists of lists on the heap. -/
namespace Tr
open PySem PySem.Spec PyProof.Rows L2
def fdL (fs : List (Addr × List Nat)) : List (Addr × HO) := fs.map fun f => (f.1, HO.lst ((ci f.2).map V.int))
def refs (fs : List (Addr × List Nat)) : List V := fs.map fun f => V.ref f.1
theorem fdL_snoc (fs : List (Addr × List Nat)) (f : Addr × List Nat) : fdL (fs ++ [f]) = fdL fs ++ [(f.1, HO.lst ((ci f.2).map V.int))] := by
  unfold fdL
  rw [List.map_append]
  rfl
theorem refs_snoc (fs : List (Addr × List Nat)) (f : Addr × List Nat) : refs (fs ++ [f]) = refs fs ++ [.ref f.1] := by
  unfold refs
  rw [List.map_append]
  rfl
theorem fdL_mem {fs : List (Addr × List Nat)} {f : Addr × List Nat} (h : f ∈ fs) : (f.1, HO.lst ((ci f.2).map V.int)) ∈ fdL fs := List.mem_map.mpr ⟨f, h, rfl⟩
theorem refs_at {fs : List (Addr × List Nat)} {i : Nat} {x : V} (h : (refs fs)[i]? = some x) : ∃ f, fs[i]? = some f ∧ x = .ref f.1 := by
  unfold refs at h
  rw [List.getElem?_map] at h
  cases e : fs[i]? with
  | none => rw [e] at h; cases h
  | some f =>
    rw [e] at h
    exact ⟨f, rfl, by simpa using h.symm⟩
theorem refs_len (fs : List (Addr × List Nat)) : (refs fs).length = fs.length := List.length_map ..
/-- the new list goes behind the others -/
theorem fds_perm {p : Addr} {o : HO} {f : Addr × List Nat} {fs : List (Addr × List Nat)} {B : List (Addr × HO)} : ((p, o) :: (fdL (fs ++ [f]) ++ B)).Perm ((f.1, HO.lst ((ci f.2).map V.int)) :: (p, o) :: (fdL fs ++ B)) := by
  rw [fdL_snoc, List.append_assoc]
  exact (List.Perm.cons _ List.perm_middle).trans (List.Perm.swap _ _ _)
/-! ### as data -/
def dataW (ws : List (List Nat)) : List PyData := ws.map fun w => PyData.list ((ci w).map PyData.int)
theorem fds_dp {K : PySem.W.Frag} {H : Hp} : ∀ {fs : List (Addr × List Nat)}, (∀ f ∈ fs, SqL K H f.1 ((ci f.2).map V.int)) → DpAll K H (refs fs) (dataW (fs.map (·.2)))
  | [], _ => .nil
  | f :: fs, h => .cons (dp_ints (h f (List.mem_cons_self ..))) (fds_dp fun g hg => h g (List.mem_cons_of_mem _ hg))
theorem depth_W : ∀ ws : List (List Nat), PyData.depthAll (dataW ws) ≤ 1
  | [] => by simp [dataW, PyData.depthAll]
  | w :: ws => by
    have := depth_W ws
    show max (PyData.depth (PyData.list ((ci w).map PyData.int))) (PyData.depthAll (dataW ws)) ≤ 1
    simp only [PyData.depth, depth_ints]
    omega
theorem canLay_W : ∀ ws : List (List Nat), PyData.canLayAll0 (dataW ws) = true
  | [] => by simp [dataW, PyData.canLayAll0]
  | w :: ws => by
    have := canLay_W ws
    show PyData.canLayAll0 (PyData.list ((ci w).map PyData.int) :: dataW ws) = true
    simp only [PyData.canLayAll0, PyData.canLay0, canLay_ints, this, Bool.and_self]
theorem shaped_W (ws : List (List Nat)) : SeqAt.shaped (.list (dataW ws)) = true := by
  have := depth_W ws
  unfold SeqAt.shaped
  simp only [PyData.canLay0, canLay_W, PyData.depth, Bool.true_and]
  exact decide_eq_true (by omega)
theorem eqv_W : ∀ ws : List (List Nat), PyData.eqvAll (dataW ws) (dataW ws) = true
  | [] => by simp [dataW, PyData.eqvAll]
  | w :: ws => by
    have := eqv_W ws
    show PyData.eqvAll (PyData.list ((ci w).map PyData.int) :: dataW ws) (PyData.list ((ci w).map PyData.int) :: dataW ws) = true
    rw [PyData.eqvAll, this, eqv_ints]
    simp
section
variable {K : PySem.W.Frag} {H H0 : Hp} {Q : VK} {p q : Addr} {fs gs : List (Addr × List Nat)} {l : List (Addr × HO)}
theorem fds_sq (L : Led H0 H l) (h : ∀ x ∈ fdL fs, x ∈ l) : ∀ f ∈ fs, SqL K H f.1 ((ci f.2).map V.int) := fun f hf => SqL.of (L.has _ (h _ (fdL_mem hf)))
theorem rd_eqW (h1 : SqL K H p (refs fs)) (g1 : ∀ f ∈ fs, SqL K H f.1 ((ci f.2).map V.int)) (h2 : SqL K H q (refs gs)) (g2 : ∀ f ∈ gs, SqL K H f.1 ((ci f.2).map V.int)) (e : fs.map (·.2) = gs.map (·.2)) (k : Q (.bl true) H) : gEq K (.ref p) (.ref q) H Q :=
  rd_eqD (.lst h1 (fds_dp g1)) (.lst h2 (fds_dp g2)) (shaped_W _) (shaped_W _) (by rw [PyData.eqv, e, eqv_W]; exact k)
theorem rd_neW (h1 : SqL K H p (refs fs)) (g1 : ∀ f ∈ fs, SqL K H f.1 ((ci f.2).map V.int)) (h2 : SqL K H q (refs gs)) (g2 : ∀ f ∈ gs, SqL K H f.1 ((ci f.2).map V.int)) (e : fs.map (·.2) = gs.map (·.2)) (k : Q (.bl false) H) : gNe K (.ref p) (.ref q) H Q :=
  rd_neD (.lst h1 (fds_dp g1)) (.lst h2 (fds_dp g2)) (shaped_W _) (shaped_W _) (by rw [PyData.eqv, e, eqv_W]; exact k)
end
end Tr
namespace Tr
open PySem PySem.Spec PyProof.Rows L2
/-- a list of lists with its lists -/
def blk (p : Addr) (fs : List (Addr × List Nat)) : List (Addr × HO) := (p, HO.lst (refs fs)) :: fdL fs
theorem blk_sq {K : PySem.W.Frag} {H0 H : Hp} {m r : List (Addr × HO)} {p : Addr} {fs : List (Addr × List Nat)} (L : Led H0 H (m ++ (blk p fs ++ r))) : SqL K H p (refs fs) ∧ ∀ f ∈ fs, SqL K H f.1 ((ci f.2).map V.int) :=
  ⟨SqL.of (L.has _ (List.mem_append_right _ (List.mem_append_left _ (List.mem_cons_self ..)))), fun _ hf => SqL.of (L.has _ (List.mem_append_right _ (List.mem_append_left _ (List.mem_cons_of_mem _ (fdL_mem hf)))))⟩
theorem blk_get {H0 H : Hp} {m r : List (Addr × HO)} {p : Addr} {fs : List (Addr × List Nat)} {f : Addr × List Nat} (L : Led H0 H (m ++ (blk p fs ++ r))) (hf : f ∈ fs) : H f.1 = some (.lst ((ci f.2).map V.int)) :=
  L.has _ (List.mem_append_right _ (List.mem_append_left _ (List.mem_cons_of_mem _ (fdL_mem hf))))
/-- a block that has come in front goes behind X -/
theorem blk_move {H0 H : Hp} {X r : List (Addr × HO)} {p : Addr} {fs : List (Addr × List Nat)} (L : Led H0 H (((p, HO.lst (refs fs)) :: fdL fs) ++ (X ++ r))) : Led H0 H (X ++ (blk p fs ++ r)) := L.perm (by
  rw [← List.append_assoc, ← List.append_assoc]
  exact List.Perm.append_right r List.perm_append_comm)
/-- only those that P picks -/
theorem blk_pick {H0 H : Hp} {X r : List (Addr × HO)} {p q : Addr} {fs : List (Addr × List Nat)} (P : Addr × List Nat → Bool) (L : Led H0 H ((q, HO.lst (refs (fs.filter P))) :: ((p, HO.lst (refs fs)) :: fdL fs ++ (X ++ r)))) : Led H0 H (X ++ (blk q (fs.filter P) ++ r)) := by
  refine blk_move (L.sub ?_)
  refine List.Sublist.cons_cons _ (List.Sublist.cons _ ?_)
  exact List.Sublist.append ((List.filter_sublist).map _) (List.Sublist.refl _)
theorem words_filter {cs : List Nat} {fs : List (Addr × List Nat)} (h : fs.map (·.2) = lvl cs cs.sum) : (fs.filter fun f => isWB (ci f.2)).map (·.2) = wordsOf cs := by
  unfold wordsOf
  rw [← h, List.filter_map]
  rfl
end Tr
/-! Forests on the heap: tuples of tuples. -/
namespace Tr
open PySem PySem.Spec PyProof.Rows L2
def GAt (H : Hp) : Gr → List V → Prop
  | .nil, xs => xs = []
  | .cons b r, xs => ∃ a ys zs, xs = .ref a :: zs ∧ H a = some (.tup ys) ∧ GAt H b ys ∧ GAt H r zs
theorem GAt.mono {H H' : Hp} (t : Ts H H') : ∀ {g : Gr} {xs : List V}, GAt H g xs → GAt H' g xs
  | .nil, _, h => h
  | .cons b r, _, ⟨a, ys, zs, e, h, h1, h2⟩ => ⟨a, ys, zs, e, t _ _ h, h1.mono t, h2.mono t⟩
theorem GAt.len {H : Hp} : ∀ {g : Gr} {xs : List V}, GAt H g xs → xs.length = g.len
  | .nil, _, h => by
    cases h
    rfl
  | .cons b r, _, ⟨a, ys, zs, e, h, h1, h2⟩ => by rw [e, List.length_cons, h2.len, Gr.len]
theorem GAt.app {H : Hp} : ∀ {g k : Gr} {xs ys : List V}, GAt H g xs → GAt H k ys → GAt H (g.app k) (xs ++ ys)
  | .nil, _, _, _, h, hk => by
    cases h
    exact hk
  | .cons b r, _, _, _, ⟨a, us, zs, e, h, h1, h2⟩, hk => ⟨a, us, zs ++ _, by rw [e]; rfl, h, h1, h2.app hk⟩
theorem GAt.one {H : Hp} {a : Addr} {b : Gr} {ys : List V} (h : H a = some (.tup ys)) (hb : GAt H b ys) : GAt H (.cons b .nil) [.ref a] := ⟨a, ys, [], rfl, h, hb, rfl⟩
theorem GAt.rev {H : Hp} : ∀ {g : Gr} {xs : List V}, GAt H g xs → GAt H g.rev xs.reverse
  | .nil, _, h => by
    cases h
    rfl
  | .cons b r, _, ⟨a, ys, zs, e, h, h1, h2⟩ => by
    rw [e, List.reverse_cons]
    exact h2.rev.app (GAt.one h h1)
theorem GAt.take {H : Hp} : ∀ (n : Nat) {g : Gr} {xs : List V}, GAt H g xs → GAt H (g.take n) (xs.take n)
  | 0, _, _, _ => rfl
  | _ + 1, .nil, _, h => by
    cases h
    rfl
  | n + 1, .cons b r, _, ⟨a, ys, zs, e, h, h1, h2⟩ => ⟨a, ys, zs.take n, by rw [e]; rfl, h, h1, h2.take n⟩
theorem GAt.drop {H : Hp} : ∀ (n : Nat) {g : Gr} {xs : List V}, GAt H g xs → GAt H (g.drop n) (xs.drop n)
  | 0, _, _, h => h
  | _ + 1, .nil, _, h => by
    cases h
    rfl
  | n + 1, .cons b r, _, ⟨a, ys, zs, e, h, h1, h2⟩ => by
    rw [e]
    exact h2.drop n
/-! ### as data -/
def Gr.data : Gr → List PyData
  | .nil => []
  | .cons b r => .tuple b.data :: r.data
theorem GAt.dp {K : PySem.W.Frag} {H : Hp} : ∀ {g : Gr} {xs : List V}, GAt H g xs → DpAll K H xs g.data
  | .nil, _, h => by
    cases h
    exact .nil
  | .cons b r, _, ⟨a, ys, zs, e, h, h1, h2⟩ => by
    rw [e]
    exact .cons (.tup (SqT.of h) h1.dp) h2.dp
theorem depth_gr : ∀ g : Gr, PyData.depthAll g.data = g.depth
  | .nil => by simp only [Gr.data, PyData.depthAll, Gr.depth]
  | .cons b r => by simp only [Gr.data, PyData.depthAll, PyData.depth, Gr.depth, depth_gr b, depth_gr r]
theorem canLay_gr : ∀ g : Gr, PyData.canLayAll0 g.data = true
  | .nil => by simp only [Gr.data, PyData.canLayAll0]
  | .cons b r => by simp only [Gr.data, PyData.canLayAll0, PyData.canLay0, canLay_gr b, canLay_gr r, Bool.and_self]
theorem shaped_gr {g : Gr} (h : g.size ≤ 62) : SeqAt.shaped (.list g.data) = true := by
  have := g.depth_le
  unfold SeqAt.shaped
  simp only [PyData.canLay0, canLay_gr, PyData.depth, depth_gr, Bool.true_and]
  exact decide_eq_true (by omega)
theorem eqv_gr : ∀ g : Gr, PyData.eqvAll g.data g.data = true
  | .nil => by simp only [Gr.data, PyData.eqvAll]
  | .cons b r => by simp only [Gr.data, PyData.eqvAll, PyData.eqv, eqv_gr b, eqv_gr r, Bool.and_self]
theorem eqv_nil : ∀ g : Gr, PyData.eqvAll g.data [] = decide (g.len = 0)
  | .nil => by simp [Gr.data, PyData.eqvAll, Gr.len]
  | .cons b r => by simp [Gr.data, PyData.eqvAll, Gr.len]
theorem eqvAll_self_ints (ns : List Int) : PyData.eqvAll (ns.map PyData.int) (ns.map PyData.int) = true := by
  rw [eqvAll_ints]
  simp
section
variable {K : PySem.W.Frag} {H : Hp} {Q : VK} {p q : Addr} {g : Gr} {xs ys : List V}
theorem dp_gr (h : SqL K H p xs) (hg : GAt H g xs) : Dp K H (.ref p) (.list g.data) := .lst h hg.dp
/-- two lists of the same forest -/
theorem rd_eqG (h1 : SqL K H p xs) (g1 : GAt H g xs) (h2 : SqL K H q ys) (g2 : GAt H g ys) (hz : g.size ≤ 62) (k : Q (.bl true) H) : gEq K (.ref p) (.ref q) H Q :=
  rd_eqD (dp_gr h1 g1) (dp_gr h2 g2) (shaped_gr hz) (shaped_gr hz) (by rw [PyData.eqv, eqv_gr]; exact k)
theorem rd_neG (h1 : SqL K H p xs) (g1 : GAt H g xs) (h2 : SqL K H q ys) (g2 : GAt H g ys) (hz : g.size ≤ 62) (k : Q (.bl false) H) : gNe K (.ref p) (.ref q) H Q :=
  rd_neD (dp_gr h1 g1) (dp_gr h2 g2) (shaped_gr hz) (shaped_gr hz) (by rw [PyData.eqv, eqv_gr]; exact k)
/-- a list of trees and an empty one -/
theorem rd_neNil (h1 : SqL K H p xs) (g1 : GAt H g xs) (h2 : SqL K H q []) (hz : g.size ≤ 62) (k : Q (.bl (!decide (g.len = 0))) H) : gNe K (.ref p) (.ref q) H Q :=
  rd_neD (dp_gr h1 g1) (.lst h2 .nil) (shaped_gr hz) (shaped_gr (g := .nil) (Nat.zero_le _)) (by rw [PyData.eqv, eqv_nil]; exact k)
/-- lists of data -/
theorem shaped_two {d e : PyData} (h1 : SeqAt.shaped d = true) (h2 : SeqAt.shaped e = true) (d1 : d.depth ≤ 63) (e1 : e.depth ≤ 63) : SeqAt.shaped (.list [d, e]) = true := by
  have a := SeqAt.canLay_of_shaped h1
  have b := SeqAt.canLay_of_shaped h2
  unfold SeqAt.shaped
  simp only [PyData.canLay0, PyData.canLayAll0, PyData.depth, PyData.depthAll, a, b, Bool.true_and, Bool.and_true]
  exact decide_eq_true (by omega)
theorem eqv_two {d e : PyData} (h1 : PyData.eqv d d = true) (h2 : PyData.eqv e e = true) : PyData.eqv (.list [d, e]) (.list [d, e]) = true := by simp only [PyData.eqv, PyData.eqvAll, h1, h2, Bool.and_self]
end
/-! ### what a list of numbers picks -/
def ofl (T : Nat → Gr) : List Nat → Gr
  | [] => .nil
  | j :: js => .cons (T j) (ofl T js)
theorem ofl_size (T : Nat → Gr) : ∀ js : List Nat, (ofl T js).size = (js.map fun j => (T j).size + 1).sum
  | [] => rfl
  | j :: js => by
    simp only [ofl, Gr.size, List.map_cons, List.sum_cons, ofl_size T js]
    omega
theorem ofl_len (T : Nat → Gr) : ∀ js : List Nat, (ofl T js).len = js.length
  | [] => rfl
  | j :: js => by simp only [ofl, Gr.len, ofl_len T js, List.length_cons]
theorem ofl_congr {T U : Nat → Gr} : ∀ {js : List Nat}, (∀ j ∈ js, T j = U j) → ofl T js = ofl U js
  | [], _ => rfl
  | j :: js, h => by simp only [ofl, h j (List.mem_cons_self ..), ofl_congr fun i hi => h i (List.mem_cons_of_mem _ hi)]
theorem GAt.ofl {H : Hp} {T : Nat → Gr} {v : Nat → V} : ∀ {js : List Nat}, (∀ j ∈ js, GAt H (.cons (T j) .nil) [v j]) → GAt H (ofl T js) (js.map v)
  | [], _ => rfl
  | j :: js, h => by
    obtain ⟨a, ys, zs, e, h1, h2, h3⟩ := h j (List.mem_cons_self ..)
    have e2 : v j = .ref a := (List.cons.inj e).1
    exact ⟨a, ys, js.map v, by rw [List.map_cons, e2], h1, h2, GAt.ofl fun i hi => h i (List.mem_cons_of_mem _ hi)⟩
/-- each node is counted once -/
theorem count_once {n : Nat} (P : Nat → Option Nat) (S : Nat → Nat) : ∀ (l : List Nat), (∀ c ∈ l, ∀ p, P c = some p → p < n) →
    (l.map S).sum = ((l.filter fun c => (P c).isNone).map S).sum + ((List.range n).map fun p => ((l.filter fun c => P c == some p).map S).sum).sum
  | [], _ => by
    simp only [List.map_nil, List.filter_nil, List.sum_nil]
    have : ∀ m : Nat, ((List.range m).map fun _ => 0).sum = 0 := fun m => by
      induction m with
      | zero => rfl
      | succ m ih => rw [List.range_succ, List.map_append, List.sum_append, ih]; rfl
    rw [this, Nat.add_zero]
  | c :: l, h => by
    have ih := count_once P S l fun d hd => h d (List.mem_cons_of_mem _ hd)
    have add : ∀ (m : Nat) (f g : Nat → Nat), ((List.range m).map fun p => f p + g p).sum = ((List.range m).map f).sum + ((List.range m).map g).sum := fun m f g => by
      induction m with
      | zero => rfl
      | succ m ih =>
        rw [List.range_succ]
        simp only [List.map_append, List.sum_append, ih, List.map_cons, List.map_nil, List.sum_cons, List.sum_nil]
        omega
    have one : ∀ (m q x : Nat), ((List.range m).map fun p => if q = p then x else 0).sum = if q < m then x else 0 := fun m q x => by
      induction m with
      | zero => simp
      | succ m ih =>
        rw [List.range_succ]
        simp only [List.map_append, List.sum_append, ih, List.map_cons, List.map_nil, List.sum_cons, List.sum_nil]
        by_cases h1 : q < m
        · rw [if_pos h1, if_neg (by omega), if_pos (by omega)]
          omega
        · by_cases h2 : q = m
          · rw [if_neg h1, if_pos h2, if_pos (by omega)]
            omega
          · rw [if_neg h1, if_neg h2, if_neg (by omega)]
            omega
    cases e : P c with
    | none =>
      have e1 : ∀ p, ((c :: l).filter fun c => P c == some p) = l.filter fun c => P c == some p := fun p => by simp [e]
      simp only [e1]
      rw [List.filter_cons_of_pos (by simp [e])]
      simp only [List.map_cons, List.sum_cons, ih]
      omega
    | some q =>
      have hq := h c (List.mem_cons_self ..) q e
      have e1 : ∀ p, (((c :: l).filter fun c => P c == some p).map S).sum = (if q = p then S c else 0) + ((l.filter fun c => P c == some p).map S).sum := fun p => by
        by_cases hp : q = p
        · rw [List.filter_cons_of_pos (by simp [e, hp]), if_pos hp]
          rfl
        · rw [List.filter_cons_of_neg (by simp [e, hp]), if_neg hp]
          omega
      simp only [e1]
      rw [add, one, if_pos hq, List.filter_cons_of_neg (by simp [e])]
      simp only [List.map_cons, List.sum_cons, ih]
      omega
/-- the whole forest's size -/
theorem grove_size {n : Nat} (P : Nat → Option Nat) (T : Nat → Gr) (hP : ∀ c, c < n → ∀ p, P c = some p → p < n) (hT : ∀ j, j < n → T j = Tr.ofl T ((List.range n).filter fun c => P c == some j)) :
    (Tr.ofl T ((List.range n).filter fun c => (P c).isNone)).size = n := by
  have h := count_once (n := n) P (fun j => (T j).size + 1) (List.range n) fun c hc => hP c (List.mem_range.mp hc)
  rw [ofl_size]
  have e : ((List.range n).map fun j => (T j).size + 1) = (List.range n).map fun p => (((List.range n).filter fun c => P c == some p).map fun j => (T j).size + 1).sum + 1 := by
    apply List.map_congr_left
    intro j hj
    have e1 := hT j (List.mem_range.mp hj)
    have e2 := congrArg Gr.size e1
    rw [ofl_size] at e2
    omega
  have inc : ∀ (m : Nat) (f : Nat → Nat), ((List.range m).map fun p => f p + 1).sum = ((List.range m).map f).sum + m := fun m f => by
    induction m with
    | zero => rfl
    | succ m ih =>
      rw [List.range_succ]
      simp only [List.map_append, List.sum_append, ih, List.map_cons, List.map_nil, List.sum_cons, List.sum_nil]
      omega
  rw [e, inc] at h
  omega
end Tr
namespace Tr
open PySem PySem.Spec PyProof.Rows L2
/-- a new list of trees -/
def newG (H : Hp) (Q : VK) (g : Gr) : Prop := ∀ p xs H', Led H H' [(p, .lst xs)] → GAt H' g xs → Q (.ref p) H'
end Tr
namespace Tr
open PySem PySem.Spec PyProof.Rows L2
/-! ### a row of lists -/
def rows (n : Nat) (A : Nat → Addr) (B : Nat → List Nat) : List (Addr × HO) := (List.range n).map fun i => (A i, .lst ((B i).map fun (j : Nat) => V.int j))
theorem rows_at {n i : Nat} {A : Nat → Addr} {B : Nat → List Nat} (h : i < n) : (rows n A B)[i]? = some (A i, .lst ((B i).map fun (j : Nat) => V.int j)) := by
  unfold rows
  rw [List.getElem?_map, List.getElem?_range h]
  rfl
theorem rows_set {n i k : Nat} {A : Nat → Addr} {B C : Nat → List Nat} (h : i < n) (hi : C i = B i ++ [k]) (ho : ∀ j, j ≠ i → C j = B j) : (rows n A B).set i (A i, .lst ((B i).map (fun (j : Nat) => V.int j) ++ [.int k])) = rows n A C := by
  apply List.ext_getElem?
  intro j
  rw [List.getElem?_set]
  by_cases hj : i = j
  · subst hj
    rw [if_pos rfl, rows_at h, hi, if_pos (by unfold rows; simpa using h), List.map_append]
    rfl
  · rw [if_neg hj]
    by_cases hn : j < n
    · rw [rows_at hn, rows_at hn, ho j (Ne.symm hj)]
    · unfold rows
      rw [List.getElem?_eq_none (by simpa using hn), List.getElem?_eq_none (by simpa using hn)]
theorem rows_congr {n : Nat} {A : Nat → Addr} {B C : Nat → List Nat} (h : ∀ j, j < n → B j = C j) : rows n A B = rows n A C := by
  unfold rows
  apply List.map_congr_left
  intro j hj
  rw [h j (List.mem_range.mp hj)]
/-! ### whose bough a node is -/
def parOf (ns : List Int) (first : Nat) (roots : Int) (k : Nat) : Option Nat :=
  if k = 0 ∨ cell ns (first + k) % roots = 1 then none else if roots = 99 ∧ cell ns (first + k) % 16 > 0 then some 0 else if cell ns (first + k) / 64 % 3 = 0 then some (k - 1) else some (cell ns (first + k) / 192 % k).toNat
theorem parOf_lt {ns : List Int} {first : Nat} {roots : Int} {k p : Nat} (h : parOf ns first roots k = some p) : p < k := by
  unfold parOf at h
  split at h
  · cases h
  · rename_i h0
    have hk : k ≠ 0 := fun z => h0 (.inl z)
    split at h
    · cases h
      omega
    · split at h
      · cases h
        omega
      · cases h
        have h1 := Int.emod_nonneg (cell ns (first + k) / 192) (b := k) (by omega)
        have h2 := Int.emod_lt_of_pos (cell ns (first + k) / 192) (b := k) (by omega)
        omega
def chl (P : Nat → Option Nat) (m p : Nat) : List Nat := (List.range m).filter fun c => P c == some p
def tops (P : Nat → Option Nat) (m : Nat) : List Nat := (List.range m).filter fun c => (P c).isNone
theorem chl_same {P : Nat → Option Nat} {m p : Nat} (h : P m = some p) : chl P (m + 1) p = chl P m p ++ [m] := by
  unfold chl
  rw [List.range_succ, List.filter_append]
  simp [h]
theorem chl_other {P : Nat → Option Nat} {m p : Nat} (h : P m ≠ some p) : chl P (m + 1) p = chl P m p := by
  unfold chl
  rw [List.range_succ, List.filter_append]
  simp [h]
theorem tops_same {P : Nat → Option Nat} {m : Nat} (h : P m = none) : tops P (m + 1) = tops P m ++ [m] := by
  unfold tops
  rw [List.range_succ, List.filter_append]
  simp [h]
theorem tops_other {P : Nat → Option Nat} {m p : Nat} (h : P m = some p) : tops P (m + 1) = tops P m := by
  unfold tops
  rw [List.range_succ, List.filter_append]
  simp [h]
theorem chl_len (P : Nat → Option Nat) (m p : Nat) : (chl P m p).length ≤ m := Nat.le_trans (List.length_filter_le _ _) (by rw [List.length_range]; exact Nat.le_refl m)
theorem tops_len (P : Nat → Option Nat) (m : Nat) : (tops P m).length ≤ m := Nat.le_trans (List.length_filter_le _ _) (by rw [List.length_range]; exact Nat.le_refl m)
theorem chl_mem {P : Nat → Option Nat} {m p c : Nat} (h : c ∈ chl P m p) : c < m ∧ P c = some p := by
  unfold chl at h
  rw [List.mem_filter] at h
  exact ⟨List.mem_range.mp h.1, by simpa using h.2⟩
end Tr
namespace Tr
open PySem PySem.Spec PyProof.Rows L2
theorem two_ok {g : Gr} (ns : List Int) (h : g.size ≤ 61) : SeqAt.shaped (.list [.list g.data, .list (ns.map PyData.int)]) = true ∧ PyData.eqv (.list [.list g.data, .list (ns.map PyData.int)]) (.list [.list g.data, .list (ns.map PyData.int)]) = true := by
  have := g.depth_le
  constructor
  · refine shaped_two (shaped_gr (by omega)) (shaped_ints ns) ?_ ?_
    · simp only [PyData.depth, depth_gr]
      omega
    · simp only [PyData.depth, depth_ints]
      omega
  · refine eqv_two ?_ ?_
    · rw [PyData.eqv, eqv_gr]
    · rw [PyData.eqv, eqvAll_self_ints]
end Tr
/-! A word read from the left, by how many trees are pending. -/
namespace Tr
def pendR : List Int → Int
  | [] => 0
  | n :: l => max (pendR l - 1) 0 + n
theorem pendR_le : ∀ (l : List Int) (c : Int), 0 ≤ c → (pendR l ≤ c ↔ ∀ k, k < l.length → 1 - c ≤ ((l.map fun n => 1 - n).take (k + 1)).sum)
  | [], c, h => ⟨fun _ k hk => absurd hk (Nat.not_lt_zero _), fun _ => h⟩
  | n :: l, c, h => by
    have key : pendR (n :: l) ≤ c ↔ n ≤ c ∧ pendR l ≤ c - n + 1 := by
      simp only [pendR]
      omega
    rw [key]
    constructor
    · rintro ⟨h1, h2⟩ k hk
      cases k with
      | zero =>
        simp only [List.map_cons, List.take_succ_cons, List.take_zero, List.sum_cons, List.sum_nil]
        omega
      | succ k =>
        have h3 := (pendR_le l (c - n + 1) (by omega)).mp h2 k (by simpa using hk)
        simp only [List.map_cons, List.take_succ_cons, List.sum_cons] at h3 ⊢
        omega
    · intro h1
      have h2 := h1 0 (by simp)
      simp only [List.map_cons, List.take_succ_cons, List.take_zero, List.sum_cons, List.sum_nil] at h2
      refine ⟨by omega, (pendR_le l (c - n + 1) (by omega)).mpr fun k hk => ?_⟩
      have h3 := h1 (k + 1) (by simpa using hk)
      simp only [List.map_cons, List.take_succ_cons, List.sum_cons] at h3 ⊢
      omega
theorem pendR_nn : ∀ {l : List Int}, (∀ n ∈ l, 0 ≤ n) → 0 ≤ pendR l
  | [], _ => Int.le_refl 0
  | n :: l, h => by
    have := h n (List.mem_cons_self ..)
    simp only [pendR]
    omega
theorem isWB_pend {w : List Int} (h : ∀ n ∈ w, 0 ≤ n) : isWB w = (decide (0 < w.length) && decide (pendR w.reverse = 0)) := by
  have hall : w.all (fun n => decide (0 ≤ n)) = true := List.all_eq_true.mpr fun n hn => decide_eq_true (h n hn)
  have h0 := pendR_nn (l := w.reverse) fun n hn => h n (List.mem_reverse.mp hn)
  have h1 := pendR_le w.reverse 0 (Int.le_refl 0)
  have e : goodB (rowOf w) = decide (pendR w.reverse = 0) := by
    rw [Bool.eq_iff_iff, goodB_iff, decide_eq_true_iff]
    unfold rowOf
    rw [List.length_map]
    constructor
    · intro h2
      have := h1.mpr fun k hk => by
        have := h2 k hk
        omega
      omega
    · intro h2 k hk
      have := h1.mp (by omega) k hk
      omega
  unfold isWB
  rw [hall, e]
  rfl
end Tr
/-! The third argument of grove_by. -/
namespace Tr
open PySem PySem.Spec PyProof.Rows L2
theorem roots_at (c : Int) : ∃ r : Int, atI [V.int 3, V.int 8, V.int 99] (c % 3) = some (.int r) ∧ 1 ≤ r := by
  have h := at_int (ls := [3, 8, 99]) (k := c % 3) (by omega) (by show _ < (3 : Int); omega)
  refine ⟨_, h, ?_⟩
  have : c % 3 = 0 ∨ c % 3 = 1 ∨ c % 3 = 2 := by omega
  rcases this with e | e | e <;> rw [e] <;> decide
end Tr
namespace Tr
open PySem PySem.Spec PyProof.Rows L2
theorem ltI_ci : ∀ w v : List Nat, ltI (ci w) (ci v) = ltN w v
  | [], [] => rfl
  | [], _ :: _ => rfl
  | _ :: _, [] => rfl
  | x :: xs, y :: ys => by
    show (if (x : Int) = (y : Int) then ltI (ci xs) (ci ys) else decide ((x : Int) < (y : Int))) = if x = y then ltN xs ys else decide (x < y)
    rw [ltI_ci xs ys]
    by_cases h : x = y
    · rw [if_pos (by omega), if_pos h]
    · rw [if_neg (by omega), if_neg h]
      congr 1
      simp
theorem leI_ci : ∀ w v : List Nat, leI (ci w) (ci v) = !ltN v w
  | [], [] => rfl
  | [], _ :: _ => rfl
  | _ :: _, [] => rfl
  | x :: xs, y :: ys => by
    show (if (x : Int) = (y : Int) then leI (ci xs) (ci ys) else decide ((x : Int) ≤ (y : Int))) = !(if y = x then ltN ys xs else decide (y < x))
    rw [leI_ci xs ys]
    by_cases h : x = y
    · rw [if_pos (by omega), if_pos h.symm]
    · rw [if_neg (by omega), if_neg (Ne.symm h)]
      by_cases h2 : y < x
      · rw [decide_eq_true h2, decide_eq_false (by omega)]
        rfl
      · rw [decide_eq_false h2, decide_eq_true (by omega)]
        rfl
theorem ltN_irrefl : ∀ w : List Nat, ltN w w = false
  | [] => rfl
  | x :: xs => by
    show (if x = x then ltN xs xs else _) = false
    rw [if_pos rfl, ltN_irrefl xs]
/-- what a word tells -/
theorem wd_facts {cs w : List Nat} (h : Wd cs w) (h0 : 0 < cs.sum) : w.length = cs.sum ∧ isWB (ci w) = true ∧ mx w + 1 ≤ w.length ∧ cntOf w = cntOf w ∧ Mt cs w ∧ rank (cntOf w) w = rank cs w := by
  obtain ⟨m, o⟩ := wd_iff.mp h
  have hs := m.sum
  have hp : 0 < w.length := by omega
  exact ⟨hs.symm, isWB_iff.mpr ⟨by rw [ci_len]; exact hp, o⟩, okW_mx1 hp o, rfl, m, same_rank (Mt.same (Mt.of_cnt w) m)⟩
end Tr
/-! The starts of a row: as many as its sum. -/
namespace Tr
/-- the least of f at k, k + 1, .. k + m -/
def mn (f : Nat → Int) (k : Nat) : Nat → Int
  | 0 => f k
  | m + 1 => min (mn f k m) (f (k + (m + 1)))
theorem mn_le (f : Nat → Int) (k : Nat) : ∀ m, mn f k m ≤ f k
  | 0 => Int.le_refl _
  | m + 1 => Int.le_trans (Int.min_le_left _ _) (mn_le f k m)
theorem mn_cons (f : Nat → Int) (k : Nat) : ∀ m, mn f k (m + 1) = min (f k) (mn f (k + 1) m)
  | 0 => rfl
  | m + 1 => by
    have ih := mn_cons f k m
    have e : k + 1 + (m + 1) = k + (m + 1 + 1) := by omega
    show min (mn f k (m + 1)) (f (k + (m + 1 + 1))) = min (f k) (min (mn f (k + 1) m) (f (k + 1 + (m + 1))))
    rw [ih, e]
    omega
theorem mn_lt {f : Nat → Int} {k : Nat} {v : Int} : ∀ {m}, v < mn f k m ↔ ∀ j, j ≤ m → v < f (k + j)
  | 0 => by
    constructor
    · intro h j hj
      have e : j = 0 := by omega
      subst e
      exact h
    · intro h
      exact h 0 (Nat.le_refl _)
  | m + 1 => by
    have ih := mn_lt (f := f) (k := k) (v := v) (m := m)
    have e : mn f k (m + 1) = min (mn f k m) (f (k + (m + 1))) := rfl
    constructor
    · intro h j hj
      rw [e] at h
      by_cases hm : j ≤ m
      · exact ih.mp (by omega) j hm
      · have e2 : j = m + 1 := by omega
        subst e2
        omega
    · intro h
      rw [e]
      have h1 := ih.mpr fun j hj => h j (by omega)
      have h2 := h (m + 1) (Nat.le_refl _)
      omega
theorem mn_shift {f : Nat → Int} {k n : Nat} {s : Int} : ∀ m, (∀ j, j ≤ m → f (k + n + j) = f (k + j) + s) → mn f (k + n) m = mn f k m + s
  | 0, h => h 0 (Nat.le_refl _)
  | m + 1, h => by
    have ih := mn_shift m fun j hj => h j (by omega)
    have e := h (m + 1) (Nat.le_refl _)
    show min (mn f (k + n) m) (f (k + n + (m + 1))) = min (mn f k m) (f (k + (m + 1))) + s
    rw [ih, e]
    omega
theorem mn_congr {f g : Nat → Int} {k : Nat} : ∀ m, (∀ j, j ≤ m → f (k + j) = g (k + j)) → mn f k m = mn g k m
  | 0, h => h 0 (Nat.le_refl _)
  | m + 1, h => by
    show min _ _ = min _ _
    rw [mn_congr m fun j hj => h j (by omega), h (m + 1) (Nat.le_refl _)]
/-! ### the beginnings of the row written twice -/
def pre2 (ns : List Int) (i : Nat) : Int := ((ns ++ ns).take i).sum
theorem pre2_succ {ns : List Int} {i : Nat} {x : Int} (h : (ns ++ ns)[i]? = some x) : pre2 ns (i + 1) = pre2 ns i + x := by
  unfold pre2
  rw [List.take_add_one, h, List.sum_append]
  simp
theorem pre2_period {ns : List Int} {i : Nat} (h : i ≤ ns.length) : pre2 ns (i + ns.length) = pre2 ns i + ns.sum := by
  unfold pre2
  rw [List.take_append, List.take_append, List.take_of_length_le (by omega : ns.length ≤ i + ns.length), List.sum_append, List.sum_append]
  have e1 : i + ns.length - ns.length = i := by omega
  have e2 : i - ns.length = 0 := by omega
  rw [e1, e2]
  simp
  omega
theorem turn_pre2 {ns : List Int} {k j : Nat} (hk : k ≤ ns.length) (hj : j ≤ ns.length) : ((turn ns k).take j).sum = pre2 ns (k + j) - pre2 ns k := by
  have e : (ns ++ ns).take (k + j) = (ns ++ ns).take k ++ ((ns ++ ns).drop k).take j := List.take_add
  have e2 : ((ns ++ ns).drop k).take j = (turn ns k).take j := by
    unfold turn
    rw [List.drop_append_of_le_length hk]
    rw [List.take_append, List.take_append, List.take_take]
    have e3 : min (j - (ns.drop k).length) k = j - (ns.drop k).length := by
      rw [List.length_drop]
      omega
    rw [e3]
  unfold pre2
  rw [e, List.sum_append, e2]
  omega
theorem good_pre2 {ns : List Int} {k : Nat} (hk : k < ns.length) : goodB (turn ns k) = decide (pre2 ns k < mn (pre2 ns) (k + 1) (ns.length - 1)) := by
  have e : goodB (turn ns k) = true ↔ pre2 ns k < mn (pre2 ns) (k + 1) (ns.length - 1) := by
    rw [goodB_iff, mn_lt, turn_len]
    constructor
    · intro h j hj
      have := h j (by omega)
      rw [turn_pre2 (by omega) (by omega)] at this
      have e : k + (j + 1) = k + 1 + j := by omega
      rw [e] at this
      omega
    · intro h j hj
      rw [turn_pre2 (by omega) (by omega)]
      have := h j (by omega)
      have e : k + (j + 1) = k + 1 + j := by omega
      rw [e]
      omega
  by_cases h : pre2 ns k < mn (pre2 ns) (k + 1) (ns.length - 1)
  · rw [decide_eq_true h]
    exact e.mpr h
  · rw [decide_eq_false h]
    cases g : goodB (turn ns k) with
    | false => rfl
    | true => exact absurd (e.mp g) h
/-- the step: behind a start the least of what follows is one more -/
theorem mn_step {ns : List Int} {k : Nat} (hk : k < ns.length) (hs : 0 < ns.sum) (h1 : ∀ x ∈ ns, x ≤ 1) :
    mn (pre2 ns) (k + 1) (ns.length - 1) = mn (pre2 ns) k (ns.length - 1) + (if goodB (turn ns k) = true then 1 else 0) := by
  have hn : 1 ≤ ns.length := by omega
  have e1 : ns.length = ns.length - 1 + 1 := by omega
  have c1 : mn (pre2 ns) k (ns.length - 1 + 1) = min (pre2 ns k) (mn (pre2 ns) (k + 1) (ns.length - 1)) := mn_cons _ _ _
  have c2 : mn (pre2 ns) k (ns.length - 1 + 1) = min (mn (pre2 ns) k (ns.length - 1)) (pre2 ns (k + (ns.length - 1 + 1))) := rfl
  have p1 := pre2_period (ns := ns) (i := k) (by omega)
  rw [← e1, p1] at c2
  rw [← e1] at c1
  have l1 := mn_le (pre2 ns) k (ns.length - 1)
  have l2 := mn_le (pre2 ns) (k + 1) (ns.length - 1)
  have hx : k < (ns ++ ns).length := by
    rw [List.length_append]
    omega
  have st := pre2_succ (ns := ns) (List.getElem?_eq_getElem hx)
  have hm : (ns ++ ns)[k] ≤ 1 := by
    have hmem := List.getElem_mem hx
    rcases List.mem_append.mp hmem with h | h <;> exact h1 _ h
  rw [good_pre2 hk]
  by_cases c : pre2 ns k < mn (pre2 ns) (k + 1) (ns.length - 1)
  · rw [if_pos (decide_eq_true c)]
    omega
  · rw [if_neg (by rw [decide_eq_false c]; decide)]
    omega
theorem count_starts {ns : List Int} (hs : 0 < ns.sum) (h1 : ∀ x ∈ ns, x ≤ 1) : ∀ i, i ≤ ns.length → (((List.range i).filter fun k => goodB (turn ns k)).length : Int) = mn (pre2 ns) i (ns.length - 1) - mn (pre2 ns) 0 (ns.length - 1)
  | 0, _ => by simp
  | i + 1, hi => by
    have ih := count_starts hs h1 i (by omega)
    have st := mn_step (ns := ns) (k := i) (by omega) hs h1
    rw [List.range_succ, List.filter_append, List.length_append, st]
    by_cases g : goodB (turn ns i) = true
    · simp [g]
      omega
    · simp [g]
      omega
theorem starts_many {ns : List Int} (h1 : ∀ x ∈ ns, x ≤ 1) : ((startsOf ns).length : Int) = max 0 ns.sum := by
  by_cases hs : 0 < ns.sum
  · have c := count_starts hs h1 ns.length (Nat.le_refl _)
    have e : mn (pre2 ns) (0 + ns.length) (ns.length - 1) = mn (pre2 ns) 0 (ns.length - 1) + ns.sum := mn_shift _ fun j hj => by
      have e2 : 0 + ns.length + j = j + ns.length := by omega
      have e3 : 0 + j = j := by omega
      rw [e2, e3]
      exact pre2_period (by omega)
    rw [Nat.zero_add] at e
    unfold startsOf
    rw [c, e]
    omega
  · have e : startsOf ns = [] := by
      unfold startsOf
      rw [List.filter_eq_nil_iff]
      intro k hk hg
      have hk' := List.mem_range.mp hk
      have g := goodB_iff.mp hg (ns.length - 1) (by rw [turn_len]; omega)
      have e2 : ns.length - 1 + 1 = ns.length := by omega
      rw [e2, turn_pre2 (by omega) (Nat.le_refl _), pre2_period (by omega)] at g
      omega
    rw [e]
    show (0 : Int) = _
    omega
/-! ### turned by k, and by j -/
theorem turn_at {ns : List Int} {k i : Nat} (hk : k ≤ ns.length) (hi : i < ns.length) : (turn ns k)[i]? = ns[if i + k < ns.length then i + k else i + k - ns.length]? := by
  unfold turn
  rw [List.getElem?_append, List.length_drop]
  by_cases h : i + k < ns.length
  · rw [if_pos h, if_pos (by omega), List.getElem?_drop, Nat.add_comm]
  · rw [if_neg h, if_neg (by omega), List.getElem?_take, if_pos (by omega)]
    congr 1
    omega
theorem turn_turn {ns : List Int} {k j : Nat} (hk : k < ns.length) (hj : j < ns.length) : turn (turn ns k) j = turn ns (if j + k < ns.length then j + k else j + k - ns.length) := by
  apply List.ext_getElem?
  intro i
  by_cases hi : i < ns.length
  · rw [turn_at (by rw [turn_len]; omega) (by rw [turn_len]; exact hi), turn_len, turn_at (by omega) (by split <;> omega), turn_at (by split <;> omega) hi]
    congr 1
    split <;> split <;> split <;> (try split) <;> omega
  · rw [List.getElem?_eq_none (by rw [turn_len, turn_len]; omega), List.getElem?_eq_none (by rw [turn_len]; omega)]
theorem mem_starts {ns : List Int} {k : Nat} : k ∈ startsOf ns ↔ k < ns.length ∧ goodB (turn ns k) = true := by
  unfold startsOf
  rw [List.mem_filter, List.mem_range]
theorem starts_pairwise (ns : List Int) : (startsOf ns).Pairwise (· < ·) := List.pairwise_lt_range.filter _
/-- the starts of the turned row -/
theorem starts_turn {ns : List Int} {k : Nat} (hk : k < ns.length) {ms : List Int} (hp : ms.Perm ((startsOf ns).map fun one : Nat => ((one : Int) - k) % ns.length)) (hs : ms.Pairwise (· ≤ ·)) : (startsOf (turn ns k)).map (fun one : Nat => (one : Int)) = ms := by
  have n1 : ((startsOf (turn ns k)).map (fun one : Nat => (one : Int))).Pairwise (· < ·) := by
    rw [List.pairwise_map]
    exact (starts_pairwise _).imp fun h => by omega
  have n2 : ((startsOf ns).map fun one : Nat => ((one : Int) - k) % ns.length).Nodup := by
    unfold List.Nodup
    rw [List.pairwise_map]
    have := starts_pairwise ns
    refine List.Pairwise.imp_of_mem ?_ this
    intro a b ha hb hab e
    have ha' := (mem_starts.mp ha).1
    have hb' := (mem_starts.mp hb).1
    have ea : ((a : Int) - k) % ns.length = if k ≤ a then (a : Int) - k else (a : Int) - k + ns.length := by
      split
      · exact Int.emod_eq_of_lt (by omega) (by omega)
      · rw [← Int.add_emod_right, Int.emod_eq_of_lt (by omega) (by omega)]
    have eb : ((b : Int) - k) % ns.length = if k ≤ b then (b : Int) - k else (b : Int) - k + ns.length := by
      split
      · exact Int.emod_eq_of_lt (by omega) (by omega)
      · rw [← Int.add_emod_right, Int.emod_eq_of_lt (by omega) (by omega)]
    rw [ea, eb] at e
    split at e <;> split at e <;> omega
  have pm : ((startsOf (turn ns k)).map (fun one : Nat => (one : Int))).Perm ms := by
    refine List.Perm.trans ?_ hp.symm
    rw [List.perm_ext_iff_of_nodup (n1.imp fun h => by omega) n2]
    intro z
    rw [List.mem_map, List.mem_map]
    constructor
    · rintro ⟨j, hj, rfl⟩
      obtain ⟨h1, h2⟩ := mem_starts.mp hj
      rw [turn_len] at h1
      rw [turn_turn hk h1] at h2
      refine ⟨if j + k < ns.length then j + k else j + k - ns.length, mem_starts.mpr ⟨by split <;> omega, h2⟩, ?_⟩
      split
      · rw [Int.emod_eq_of_lt (by omega) (by omega)]
        omega
      · rw [← Int.add_emod_right, Int.emod_eq_of_lt (by omega) (by omega)]
        omega
    · rintro ⟨a, ha, rfl⟩
      obtain ⟨h1, h2⟩ := mem_starts.mp ha
      refine ⟨if k ≤ a then a - k else a + ns.length - k, mem_starts.mpr ⟨by rw [turn_len]; split <;> omega, ?_⟩, ?_⟩
      · rw [turn_turn hk (by split <;> omega)]
        have e : (if (if k ≤ a then a - k else a + ns.length - k) + k < ns.length then (if k ≤ a then a - k else a + ns.length - k) + k else (if k ≤ a then a - k else a + ns.length - k) + k - ns.length) = a := by
          split <;> split <;> omega
        rw [e]
        exact h2
      · split
        · rw [Int.emod_eq_of_lt (by omega) (by omega)]
          omega
        · rw [← Int.add_emod_right, Int.emod_eq_of_lt (by omega) (by omega)]
          omega
  exact pm.eq_of_pairwise (le := (· ≤ ·)) (fun a b _ _ h1 h2 => by omega) (n1.imp fun h => by omega) hs
end Tr
/-! Which turns of a list are words. -/
namespace Tr
def wordsAt (ms : List Int) : List Nat := (List.range ms.length).filter fun k => isWB (turn ms k)
theorem rowOf_len (ms : List Int) : (rowOf ms).length = ms.length := by simp [rowOf]
theorem rowOf_turn {ms : List Int} {k : Nat} (hk : k ≤ ms.length) : rowOf (turn ms k) = turn (rowOf ms) (ms.length - k) := by
  unfold rowOf turn
  rw [List.reverse_append, List.map_append, ← List.map_drop, ← List.map_take, List.drop_reverse, List.take_reverse]
  have e : ms.length - (ms.length - k) = k := by omega
  rw [e]
theorem turn_full (r : List Int) : turn r r.length = turn r 0 := by simp [turn]
theorem isWB_turn {ms : List Int} {k : Nat} (hn : ∀ n ∈ ms, 0 ≤ n) (hk : k < ms.length) : isWB (turn ms k) = goodB (turn (rowOf ms) (if k = 0 then 0 else ms.length - k)) := by
  have h1 : (turn ms k).all (fun n => decide (0 ≤ n)) = true := List.all_eq_true.mpr fun n h => decide_eq_true (hn n (turn_mem h))
  unfold isWB
  rw [h1, turn_len, decide_eq_true (show 0 < ms.length by omega), rowOf_turn (by omega)]
  split
  · rename_i h
    subst h
    have := turn_full (rowOf ms)
    rw [rowOf_len] at this
    rw [Nat.sub_zero, this]
    rfl
  · rfl
theorem mem_words {ms : List Int} {k : Nat} : k ∈ wordsAt ms ↔ k < ms.length ∧ isWB (turn ms k) = true := by
  unfold wordsAt
  rw [List.mem_filter, List.mem_range]
theorem words_pairwise (ms : List Int) : (wordsAt ms).Pairwise (· < ·) := List.pairwise_lt_range.filter _
theorem words_perm {ms : List Int} (hn : ∀ n ∈ ms, 0 ≤ n) : ((wordsAt ms).map fun k : Nat => (k : Int)).Perm ((startsOf (rowOf ms)).map fun k : Nat => ((ms.length : Int) - k) % ms.length) := by
  have n1 : ((wordsAt ms).map (fun one : Nat => (one : Int))).Pairwise (· < ·) := by
    rw [List.pairwise_map]
    exact (words_pairwise _).imp fun h => by omega
  have md : ∀ k : Nat, k < ms.length → ((ms.length : Int) - k) % ms.length = ((if k = 0 then 0 else ms.length - k : Nat) : Int) := fun k hk => by
    split
    · rename_i h
      subst h
      simp
    · rw [Int.emod_eq_of_lt (by omega) (by omega)]
      omega
  have n2 : ((startsOf (rowOf ms)).map fun k : Nat => ((ms.length : Int) - k) % ms.length).Nodup := by
    unfold List.Nodup
    rw [List.pairwise_map]
    refine List.Pairwise.imp_of_mem ?_ (starts_pairwise (rowOf ms))
    intro a b ha hb hab e
    have ha' := (mem_starts.mp ha).1
    have hb' := (mem_starts.mp hb).1
    rw [rowOf_len] at ha' hb'
    rw [md a ha', md b hb'] at e
    split at e <;> split at e <;> omega
  rw [List.perm_ext_iff_of_nodup (n1.imp fun h => by omega) n2]
  intro z
  rw [List.mem_map, List.mem_map]
  constructor
  · rintro ⟨k, hk, rfl⟩
    obtain ⟨h1, h2⟩ := mem_words.mp hk
    rw [isWB_turn hn h1] at h2
    refine ⟨_, mem_starts.mpr ⟨by rw [rowOf_len]; split <;> omega, h2⟩, ?_⟩
    rw [md _ (by split <;> omega)]
    by_cases h0 : k = 0
    · subst h0
      rfl
    · rw [if_neg h0, if_neg (by omega)]
      omega
  · rintro ⟨k, hk, rfl⟩
    obtain ⟨h1, h2⟩ := mem_starts.mp hk
    rw [rowOf_len] at h1
    refine ⟨if k = 0 then 0 else ms.length - k, mem_words.mpr ⟨by split <;> omega, ?_⟩, (md k h1).symm⟩
    rw [isWB_turn hn (by split <;> omega)]
    have e : (if (if k = 0 then 0 else ms.length - k) = 0 then 0 else ms.length - (if k = 0 then 0 else ms.length - k)) = k := by
      by_cases h0 : k = 0
      · rw [if_pos h0, if_pos rfl, h0]
      · rw [if_neg h0, if_neg (by omega)]
        omega
    rw [e]
    exact h2
theorem map_sum_one (ms : List Int) : (ms.map fun n => 1 - n).sum = ms.length - ms.sum := by
  induction ms with
  | nil => rfl
  | cons n ms ih =>
    rw [List.map_cons, List.sum_cons, ih, List.sum_cons, List.length_cons]
    omega
theorem words_many {ms : List Int} (hn : ∀ n ∈ ms, 0 ≤ n) : ((wordsAt ms).length : Int) = max 0 ((ms.length : Int) - ms.sum) := by
  have h := (words_perm hn).length_eq
  rw [List.length_map, List.length_map] at h
  rw [h, starts_many (fun x hx => ?_), rowOf_sum, map_sum_one]
  unfold rowOf at hx
  obtain ⟨n, h1, rfl⟩ := List.mem_map.mp hx
  have := hn n (List.mem_reverse.mp h1)
  omega
theorem words_sorted {ms : List Int} (hn : ∀ n ∈ ms, 0 ≤ n) {ks : List Int} (hp : ks.Perm ((startsOf (rowOf ms)).map fun k : Nat => ((ms.length : Int) - k) % ms.length)) (hs : ks.Pairwise (· ≤ ·)) : ks = (wordsAt ms).map fun k : Nat => (k : Int) := by
  have n1 : ((wordsAt ms).map (fun one : Nat => (one : Int))).Pairwise (· < ·) := by
    rw [List.pairwise_map]
    exact (words_pairwise _).imp fun h => by omega
  exact (hp.trans (words_perm hn).symm).eq_of_pairwise (le := (· ≤ ·)) (fun a b _ _ h1 h2 => by omega) hs (n1.imp fun h => by omega)
theorem turn_sum {ms : List Int} {k : Nat} : (turn ms k).sum = ms.sum := by
  unfold turn
  rw [List.sum_append, Int.add_comm, ← List.sum_append, List.take_append_drop]
end Tr
namespace Tr
open PySem PySem.Spec PyProof.Rows L2
/-! the text of the row, by places -/
def topS (i : Nat) : Stmt := PySem.Challenge.pw_turnrow_k08_counts_and_few_words.main.body.getD i (.Pass ⟨0, 0, 0, 0⟩)
abbrev s_sums_of : Stmt := topS 5
abbrev n_sums_of : List Str := ["row", "found", "total", "number"]
theorem sc_sums_of : FnScope n_sums_of ["row"] (defScope s_sums_of) := ⟨rfl, rfl, rfl, by decide +kernel, rfl, by decide +kernel, by decide +kernel⟩
abbrev s_is_good : Stmt := topS 6
abbrev n_is_good : List Str := ["row", "total"]
theorem sc_is_good : FnScope n_is_good ["row"] (defScope s_is_good) := ⟨rfl, rfl, rfl, by decide +kernel, rfl, by decide +kernel, by decide +kernel⟩
abbrev s_is_word : Stmt := topS 8
abbrev n_is_word : List Str := ["numbers", "number"]
theorem sc_is_word : FnScope n_is_word ["numbers"] (defScope s_is_word) := ⟨rfl, rfl, rfl, by decide +kernel, rfl, by decide +kernel, by decide +kernel⟩
abbrev s_see_word : Stmt := topS 9
abbrev n_see_word : List Str := ["word"]
theorem sc_see_word : FnScope n_see_word ["word"] (defScope s_see_word) := ⟨rfl, rfl, rfl, by decide +kernel, rfl, by decide +kernel, by decide +kernel⟩
abbrev s_counts_of : Stmt := topS 11
abbrev n_counts_of : List Str := ["word", "number"]
theorem sc_counts_of : FnScope n_counts_of ["word"] (defScope s_counts_of) := ⟨rfl, rfl, rfl, by decide +kernel, rfl, by decide +kernel, by decide +kernel⟩
abbrev s_factorial : Stmt := topS 12
abbrev n_factorial : List Str := ["number", "found", "factor"]
theorem sc_factorial : FnScope n_factorial ["number"] (defScope s_factorial) := ⟨rfl, rfl, rfl, by decide +kernel, rfl, by decide +kernel, by decide +kernel⟩
abbrev s_lists_with : Stmt := topS 13
abbrev n_lists_with : List Str := ["counts", "found", "count"]
theorem sc_lists_with : FnScope n_lists_with ["counts"] (defScope s_lists_with) := ⟨rfl, rfl, rfl, by decide +kernel, rfl, by decide +kernel, by decide +kernel⟩
abbrev s_trees_of : Stmt := topS 14
abbrev n_trees_of : List Str := ["counts", "place", "count"]
theorem sc_trees_of : FnScope n_trees_of ["counts"] (defScope s_trees_of) := ⟨rfl, rfl, rfl, by decide +kernel, rfl, by decide +kernel, by decide +kernel⟩
abbrev s_how_many : Stmt := topS 15
abbrev n_how_many : List Str := ["counts", "many"]
theorem sc_how_many : FnScope n_how_many ["counts"] (defScope s_how_many) := ⟨rfl, rfl, rfl, by decide +kernel, rfl, by decide +kernel, by decide +kernel⟩
abbrev s_without : Stmt := topS 16
abbrev n_without : List Str := ["counts", "place", "left"]
theorem sc_without : FnScope n_without ["counts", "place"] (defScope s_without) := ⟨rfl, rfl, rfl, by decide +kernel, rfl, by decide +kernel, by decide +kernel⟩
abbrev s_ends_of : Stmt := topS 17
abbrev n_ends_of : List Str := ["counts", "pending"]
theorem sc_ends_of : FnScope n_ends_of ["counts", "pending"] (defScope s_ends_of) := ⟨rfl, rfl, rfl, by decide +kernel, rfl, by decide +kernel, by decide +kernel⟩
abbrev s_word_at : Stmt := topS 18
abbrev n_word_at : List Str := ["counts", "number", "left", "pending", "word", "place", "ends"]
theorem sc_word_at : FnScope n_word_at ["counts", "number"] (defScope s_word_at) := ⟨rfl, rfl, rfl, by decide +kernel, rfl, by decide +kernel, by decide +kernel⟩
abbrev s_all_words : Stmt := topS 19
abbrev n_all_words : List Str := ["counts", "number"]
theorem sc_all_words : FnScope n_all_words ["counts"] (defScope s_all_words) := ⟨rfl, rfl, rfl, by decide +kernel, rfl, by decide +kernel, by decide +kernel⟩
abbrev s_law_cell_at : Stmt := topS 21
abbrev n_law_cell_at : List Str := ["script", "k"]
theorem sc_law_cell_at : FnScope n_law_cell_at ["script", "k"] (defScope s_law_cell_at) := ⟨rfl, rfl, rfl, by decide +kernel, rfl, by decide +kernel, by decide +kernel⟩
abbrev s_law_whole : Stmt := topS 22
abbrev n_law_whole : List Str := ["found"]
theorem sc_law_whole : FnScope n_law_whole ["found"] (defScope s_law_whole) := ⟨rfl, rfl, rfl, by decide +kernel, rfl, by decide +kernel, by decide +kernel⟩
abbrev s_law_grove_by : Stmt := topS 23
abbrev n_law_grove_by : List Str := ["script", "first", "nodes", "roots", "boughs", "firsts", "k", "cell", "trees", "j"]
theorem sc_law_grove_by : FnScope n_law_grove_by ["script", "first", "nodes", "roots"] (defScope s_law_grove_by) := ⟨rfl, rfl, rfl, by decide +kernel, rfl, by decide +kernel, by decide +kernel⟩
abbrev s_law_word : Stmt := topS 24
abbrev n_law_word : List Str := ["tree", "found", "bough"]
theorem sc_law_word : FnScope n_law_word ["tree"] (defScope s_law_word) := ⟨rfl, rfl, rfl, by decide +kernel, rfl, by decide +kernel, by decide +kernel⟩
abbrev s_law_words : Stmt := topS 25
abbrev n_law_words : List Str := ["grove", "found", "tree"]
theorem sc_law_words : FnScope n_law_words ["grove"] (defScope s_law_words) := ⟨rfl, rfl, rfl, by decide +kernel, rfl, by decide +kernel, by decide +kernel⟩
abbrev s_law_is_word : Stmt := topS 26
abbrev n_law_is_word : List Str := ["numbers", "pending", "number"]
theorem sc_law_is_word : FnScope n_law_is_word ["numbers"] (defScope s_law_is_word) := ⟨rfl, rfl, rfl, by decide +kernel, rfl, by decide +kernel, by decide +kernel⟩
abbrev s_law_numbers : Stmt := topS 27
abbrev n_law_numbers : List Str := ["found", "due", "number"]
theorem sc_law_numbers : FnScope n_law_numbers ["found", "due"] (defScope s_law_numbers) := ⟨rfl, rfl, rfl, by decide +kernel, rfl, by decide +kernel, by decide +kernel⟩
abbrev s_law_counts : Stmt := topS 28
abbrev n_law_counts : List Str := ["word", "found", "number"]
theorem sc_law_counts : FnScope n_law_counts ["word"] (defScope s_law_counts) := ⟨rfl, rfl, rfl, by decide +kernel, rfl, by decide +kernel, by decide +kernel⟩
abbrev s_law_multiples : Stmt := topS 29
abbrev n_law_multiples : List Str := ["counts", "found", "nodes", "count", "k"]
theorem sc_law_multiples : FnScope n_law_multiples ["counts"] (defScope s_law_multiples) := ⟨rfl, rfl, rfl, by decide +kernel, rfl, by decide +kernel, by decide +kernel⟩
abbrev s_law_lists : Stmt := topS 30
abbrev n_law_lists : List Str := ["counts", "lists", "turn", "longer", "one", "number"]
theorem sc_law_lists : FnScope n_law_lists ["counts"] (defScope s_law_lists) := ⟨rfl, rfl, rfl, by decide +kernel, rfl, by decide +kernel, by decide +kernel⟩
abbrev s_law : Stmt := topS 31
abbrev n_law : List Str := ["script", "roots", "word", "counts", "handed", "found", "pending", "due", "longer", "many", "told", "one", "cell", "odd", "few", "k"]
theorem sc_law : FnScope n_law ["script"] (defScope s_law) := ⟨rfl, rfl, rfl, by decide +kernel, rfl, by decide +kernel, by decide +kernel⟩
structure Txt (K : PySem.W.Frag) (mg : Str → Option Value) : Prop where
  f_sums_of : Txt1 K mg "sums_of" s_sums_of ["row"]
  f_is_good : Txt1 K mg "is_good" s_is_good ["row"]
  f_is_word : Txt1 K mg "is_word" s_is_word ["numbers"]
  f_see_word : Txt1 K mg "see_word" s_see_word ["word"]
  f_counts_of : Txt1 K mg "counts_of" s_counts_of ["word"]
  f_factorial : Txt1 K mg "factorial" s_factorial ["number"]
  f_lists_with : Txt1 K mg "lists_with" s_lists_with ["counts"]
  f_trees_of : Txt1 K mg "trees_of" s_trees_of ["counts"]
  f_how_many : Txt1 K mg "how_many" s_how_many ["counts"]
  f_without : Txt1 K mg "without" s_without ["counts", "place"]
  f_ends_of : Txt1 K mg "ends_of" s_ends_of ["counts", "pending"]
  f_word_at : Txt1 K mg "word_at" s_word_at ["counts", "number"]
  f_all_words : Txt1 K mg "all_words" s_all_words ["counts"]
  f_law_cell_at : Txt1 K mg "_law_cell_at" s_law_cell_at ["script", "k"]
  f_law_whole : Txt1 K mg "_law_whole" s_law_whole ["found"]
  f_law_grove_by : Txt1 K mg "_law_grove_by" s_law_grove_by ["script", "first", "nodes", "roots"]
  f_law_word : Txt1 K mg "_law_word" s_law_word ["tree"]
  f_law_words : Txt1 K mg "_law_words" s_law_words ["grove"]
  f_law_is_word : Txt1 K mg "_law_is_word" s_law_is_word ["numbers"]
  f_law_numbers : Txt1 K mg "_law_numbers" s_law_numbers ["found", "due"]
  f_law_counts : Txt1 K mg "_law_counts" s_law_counts ["word"]
  f_law_multiples : Txt1 K mg "_law_multiples" s_law_multiples ["counts"]
  f_law_lists : Txt1 K mg "_law_lists" s_law_lists ["counts"]
  f_law : Txt1 K mg "law" s_law ["script"]
  m_bool : mg "bool" = none
  m_enumerate : mg "enumerate" = none
  m_int : mg "int" = none
  m_isinstance : mg "isinstance" = none
  m_len : mg "len" = none
  m_list : mg "list" = none
  m_max : mg "max" = none
  m_range : mg "range" = none
  m_reversed : mg "reversed" = none
  m_sum : mg "sum" = none
  m_tuple : mg "tuple" = none
  e_TurnError : ExcT K mg "TurnError"
  e_NoWord : ExcT K mg "NoWord"
  e_NoSuch : ExcT K mg "NoSuch"
end Tr
local macro_rules | `(tactic| walk_at "sq") => `(tactic| first
  | assumption
  | (refine Tr.Led.sq (H0 := ?hH) (l := ?hl) ?L 0 ?h; (case L => assumption); (case h => rfl))
  | (refine Tr.Led.sq (H0 := ?hH) (l := ?hl) ?L 1 ?h; (case L => assumption); (case h => rfl))
  | (refine Tr.Led.sq (H0 := ?hH) (l := ?hl) ?L 2 ?h; (case L => assumption); (case h => rfl))
  | (refine Tr.Led.sq (H0 := ?hH) (l := ?hl) ?L 3 ?h; (case L => assumption); (case h => rfl))
  | (refine Tr.Led.sq (H0 := ?hH) (l := ?hl) ?L 4 ?h; (case L => assumption); (case h => rfl))
  | (refine Tr.Led.sq (H0 := ?hH) (l := ?hl) ?L 5 ?h; (case L => assumption); (case h => rfl))
  | (refine Tr.Led.sq (H0 := ?hH) (l := ?hl) ?L 6 ?h; (case L => assumption); (case h => rfl))
  | (refine Tr.Led.sq (H0 := ?hH) (l := ?hl) ?L 7 ?h; (case L => assumption); (case h => rfl))
  | (refine Tr.Led.seq (H0 := ?hH) (l := ?hl) ?L ?h; (case L => assumption); (case h => assumption)))
local macro_rules | `(tactic| walk_at "s1") => `(tactic| first
  | with_reducible refine Tr.rd_seq ?_
  | with_reducible refine Tr.rd_asg ?_
  | with_reducible refine Tr.rd_name ?_
  | with_reducible refine Tr.rd_c ?_
  | ((with_reducible refine Tr.rd_var (v := ?hvv) ?hvr ?_); (case hvr => exact rfl))
  | with_reducible refine Tr.rd_op ?_
  | with_reducible refine Tr.rd_cons ?_
  | with_reducible refine Tr.rd_nil ?_
  | with_reducible refine Tr.rd_addI ?_
  | with_reducible refine Tr.rd_sub ?_
  | with_reducible refine Tr.rd_neg ?_
  | with_reducible refine Tr.rd_drop ?_
  | with_reducible refine Tr.rd_ret ?_
  | with_reducible refine Tr.rd_ifS ?_
  | with_reducible refine Tr.rd_test ?_
  | with_reducible refine Tr.rd_testB ?_
  | with_reducible refine Tr.rd_isB ?_
  | with_reducible refine Tr.rd_isI ?_
  | with_reducible refine Tr.rd_and ?_
  | with_reducible refine Tr.rd_or ?_
  | with_reducible refine Tr.rd_not ?_
  | with_reducible refine Tr.rd_andV ?_
  | with_reducible refine Tr.rd_orV ?_
  | with_reducible refine Tr.rd_notV ?_
  | with_reducible refine Tr.rd_un ?_
  | with_reducible refine Tr.rd_call ?_
  | with_reducible refine Tr.rd_callG ?_
  | with_reducible refine Tr.rd_CB ?_
  | with_reducible refine Tr.rd_BM ?_
  | with_reducible refine Tr.rd_BM0 ?_
  | ((with_reducible refine Tr.rd_ty (xs := ?hxs) ?hsq ?_); (case hsq => walk_at "sq"))
  | with_reducible refine Tr.rd_sl ?_
  | with_reducible refine Tr.rd_noP ?_
  | with_reducible refine Tr.rd_part ?_
  | with_reducible refine Tr.rd_lst ?_
  | with_reducible refine Tr.rd_tup ?_
  | with_reducible refine Tr.rd_lt ?_
  | with_reducible refine Tr.rd_le ?_
  | with_reducible refine Tr.rd_gt ?_
  | with_reducible refine Tr.rd_ge ?_
  | with_reducible refine Tr.rd_eqI ?_
  | with_reducible refine Tr.rd_neI ?_
  | with_reducible refine Tr.rd_eqS ?_
  | with_reducible refine Tr.rd_neS ?_
  | with_reducible refine Tr.rd_eqB ?_
  | with_reducible refine Tr.rd_neB ?_
  | with_reducible refine Tr.rd_isN ?_
  | with_reducible refine Tr.rd_rz ?_
  | with_reducible refine Tr.rd_retN ?_
  | with_reducible refine Tr.rd_next ?_
  | with_reducible refine Tr.rd_brk ?_
  | with_reducible refine Tr.rd_yes ?_
  | with_reducible refine L2.iteT ?_
  | with_reducible refine L2.iteF ?_
  | with_reducible refine Tr.iteNT ?_
  | with_reducible refine Tr.iteNF ?_
  | with_reducible refine Tr.rd_for ?_
  | with_reducible refine Tr.rd_lc ?_
  | with_reducible refine Tr.rd_iList ?_
  | with_reducible refine Tr.rd_iTup ?_
  | with_reducible refine Tr.rd_iStr ?_
  | with_reducible refine Tr.rd_iRng1 ?_
  | with_reducible refine Tr.rd_iRng2 ?_
  | with_reducible refine Tr.rd_iRng3 ?_
  | with_reducible refine Tr.rd_iRev ?_
  | with_reducible refine Tr.rd_itS ?_
  | ((with_reducible refine Tr.rd_itL (xs := ?hxs) ?hsq ?_); (case hsq => walk_at "sq"))
  | ((with_reducible refine Tr.rd_itV (xs := ?hxs) ?hsq ?_); (case hsq => walk_at "sq"))
  | ((with_reducible refine Tr.rd_mod ?hlt ?_); (case hlt => first | omega | assumption))
  | ((with_reducible refine Tr.rd_divK ?hlt ?hl2 ?_); (case hlt => first | omega | assumption); (case hl2 => first | omega | assumption))
  | ((with_reducible refine Tr.rd_lenL (xs := ?hxs) ?hsq ?_); (case hsq => walk_at "sq"))
  | with_reducible refine Tr.rd_intB ?_
  | with_reducible refine Tr.rd_revL ?_
  | with_reducible refine Tr.rd_listRev ?_
  | with_reducible refine Tr.rd_gSub ?_
  | with_reducible refine Tr.rd_iEnum ?_
  | with_reducible refine Tr.rd_gMax2 ?_
  | with_reducible refine Tr.rd_gMin2 ?_)
local macro_rules | `(tactic| walk_at "s") => `(tactic| (repeat walk_at "s1"))
namespace Tr
open PySem PySem.Spec PyProof.Rows L2
def sp_word (d : Nat) (_ : PySem.W.Frag) : Sp := fun vs H Q _ => ∃ (a : Addr) (ys : List V) (b : Gr), vs = [.ref a] ∧ H a = some (.tup ys) ∧ GAt H b ys ∧ b.depth < d ∧ b.size ≤ 1000 ∧ newL H Q (((b.len : Int) :: b.word).map V.int)
def sp_law_word (K : PySem.W.Frag) : Sp := sp_word 69 K
/-- the words of the first trees -/
theorem GAt.atW {H : Hp} : ∀ {g : Gr} {xs : List V} {i : Nat} {x : V}, GAt H g xs → xs[i]? = some x → ∃ (a : Addr) (ys : List V) (b : Gr), x = .ref a ∧ H a = some (.tup ys) ∧ GAt H b ys ∧ b.depth + 1 ≤ g.depth ∧ b.size + 1 ≤ g.size ∧ (g.take (i + 1)).word = (g.take i).word ++ (b.len : Int) :: b.word ∧ (g.take i).size ≤ g.size
  | .nil, _, i, x, h, hx => by
    cases h
    simp at hx
  | .cons b r, _, 0, x, ⟨a, ys, zs, e, h, h1, h2⟩, hx => by
    subst e
    cases hx
    exact ⟨a, ys, b, rfl, h, h1, by simp only [Gr.depth]; omega, by simp only [Gr.size]; omega, by simp [Gr.take, Gr.word], by simp [Gr.take, Gr.size]⟩
  | .cons b r, _, i + 1, x, ⟨a, ys, zs, e, h, h1, h2⟩, hx => by
    subst e
    obtain ⟨a2, ys2, b2, q1, q2, q3, q4, q5, q6, q7⟩ := GAt.atW h2 (i := i) (by simpa using hx)
    refine ⟨a2, ys2, b2, q1, q2, q3, by simp only [Gr.depth]; omega, by simp only [Gr.size]; omega, ?_, by simp only [Gr.take, Gr.size]; omega⟩
    simp only [Gr.take, Gr.word] at q6 ⊢
    rw [q6]
    simp
theorem Gr.take_all : ∀ g : Gr, g.take g.len = g
  | .nil => rfl
  | .cons b r => by simp only [Gr.len, Gr.take, take_all r]
theorem ok_lword_at {P : Program} {w : World} {K : PySem.W.Frag} {mg : Str → Option Value} {base : Heap} (T : Txt K mg) : ∀ d : Nat, Fn P w K mg base (L2.CX P w) (d + 1) "_law_word" ["tree"] (sp_word d K)
  | 0 => fnOf1 T.f_law_word sc_law_word (fun vs H Q E h => by obtain ⟨a, ys, b, rfl, _⟩ := h; rfl) (fun f cdv A outer s H vs Q E hr h => by
    obtain ⟨a, ys, b, _, _, _, hd, _⟩ := h
    exact absurd hd (Nat.not_lt_zero _))
  | d + 1 => by
    have IH := ok_lword_at (P := P) (w := w) (base := base) T d
    refine fnOf1 T.f_law_word sc_law_word (fun vs H Q E h => ?_) (fun f cdv A outer s H vs Q E hr h => ⟨_, (pss_cons (ps_set (i := 1) sc_law_word.nd rfl (Or.inl rfl) (pe_lst (pa_cons (pe_callB (kLen K) (by rfl) T.m_len (by decide +kernel) (pa_cons (pv 0) pa_nil)) pa_nil)))
      (pss_cons (ps_for (passes_of rfl) rfl (kiTup K (pv 0)) (pg_name (i := 2) sc_law_word.nd rfl (Or.inl rfl)) (pss_one (ps_set (i := 1) sc_law_word.nd rfl (Or.inl rfl) (pe_op op_gAdd (pv 1) (pe_callF IH hr rfl passL (pa_cons (pv 2) pa_nil))))))
      (pss_one (ps_ret (pv 1))))), ?_⟩)
    · obtain ⟨a, ys, b, rfl, _⟩ := h
      rfl
    obtain ⟨a, ys, b, rfl, ha, hb, hd, hz, hq⟩ := h
    try dsimp only [L2.cxOf]
    have hT : SqT K H a ys := SqT.of ha
    walk_at "s"
    refine rd_lenT hT ?_
    walk_at "s"
    refine rd_mkL (Led.start H) (sz (m := 1) (Nat.le_refl 1)) fun p H1 L1 t1 => ?_
    walk_at "s"
    refine rd_itT (SqT.of (L1.same _ _ ha)) ?_
    refine lp_tup (fun i σ H' => ∃ y p2, σ = [some (.ref a), some (.ref p2), y] ∧ Led H H' [(p2, .lst (((b.len : Int) :: (b.take i).word).map V.int))]) ⟨none, p, rfl, L1.to (by rw [hb.len]; rfl)⟩ (fun i σ H' _ ⟨_, _, _, L⟩ => SqT.of (L.same _ _ ha)) ?_ ?_
    · rintro i x σ H' hx ⟨y, p2, rfl, L⟩
      obtain ⟨a2, ys2, b2, rfl, q2, q3, q4, q5, q6, q7⟩ := hb.atW hx
      walk_at "s"
      refine ⟨a2, ys2, b2, rfl, L.same _ _ q2, q3.mono L.ts, by omega, by omega, fun p3 H2 L2 => ?_⟩
      have L3 := L.call L2
      refine rd_addL L3 (L3.get 1) (L3.get 0) (by
        simp only [List.length_map, List.length_cons, Gr.word_len]
        exact sz (m := 5000) (by omega)) fun p4 H4 L4 t4 => ?_
      refine ⟨_, p4, rfl, L4.only.to ?_⟩
      rw [q6, ← List.map_append]
      rfl
    · rintro σ H' ⟨y, p2, rfl, L⟩
      rw [hb.len, Gr.take_all] at L
      walk_at "s"
      exact hq _ _ L
theorem ok_law_word {P : Program} {w : World} {K : PySem.W.Frag} {mg : Str → Option Value} {base : Heap} (T : Txt K mg) : Fn P w K mg base (L2.CX P w) 70 "_law_word" ["tree"] (sp_law_word K) := (ok_lword_at T 69).mono (by decide)
end Tr
namespace Tr
open PySem PySem.Spec PyProof.Rows L2
def sp_law_words (K : PySem.W.Frag) : Sp := fun vs H Q _ => ∃ a xs g, vs = [.ref a] ∧ SqL K H a xs ∧ GAt H g xs ∧ g.size ≤ 62 ∧ newL H Q (g.word.map V.int)
theorem ok_law_words {P : Program} {w : World} {K : PySem.W.Frag} {mg : Str → Option Value} {base : Heap} (T : Txt K mg) : Fn P w K mg base (L2.CX P w) 71 "_law_words" ["grove"] (sp_law_words K) := by
  refine fnOf1 T.f_law_words sc_law_words (fun vs H Q E h => ?_) (fun f cdv A outer s H vs Q E hr h => ⟨_, (pss_cons (ps_set (i := 1) sc_law_words.nd rfl (Or.inl rfl) (pe_lst pa_nil))
      (pss_cons (ps_for (passes_of rfl) rfl (kiList K (pv 0)) (pg_name (i := 2) sc_law_words.nd rfl (Or.inl rfl)) (pss_one (ps_set (i := 1) sc_law_words.nd rfl (Or.inl rfl) (pe_op op_gAdd (pv 1) (pe_callF (ok_law_word T) (hr.mono (by decide)) rfl passL (pa_cons (pv 2) pa_nil))))))
      (pss_one (ps_ret (pv 1))))), ?_⟩)
  · obtain ⟨a, xs, g, rfl, _⟩ := h
    rfl
  obtain ⟨a, xs, g, rfl, hS, hg, hz, hq⟩ := h
  try dsimp only [L2.cxOf]
  walk_at "s"
  refine rd_mkL (Led.start H) (sz (Nat.zero_le 0)) fun p H1 L1 t1 => ?_
  walk_at "s"
  refine lp_list (xs := xs) (fun i σ H' => ∃ y p2, σ = [some (.ref a), some (.ref p2), y] ∧ Led H H' [(p2, .lst ((g.take i).word.map V.int))]) ⟨none, p, rfl, L1.to (by cases g <;> rfl)⟩ (fun i σ H' _ ⟨_, _, _, L⟩ => L.seq hS) ?_ ?_
  · rintro i x σ H' hx ⟨y, p2, rfl, L⟩
    obtain ⟨a2, ys2, b2, rfl, q2, q3, q4, q5, q6, q7⟩ := hg.atW hx
    have hd := g.depth_le
    walk_at "s"
    refine ⟨a2, ys2, b2, rfl, L.same _ _ q2, q3.mono L.ts, by omega, by omega, fun p3 H2 L2 => ?_⟩
    have L3 := L.call L2
    refine rd_addL L3 (L3.get 1) (L3.get 0) (by
      simp only [List.length_map, List.length_cons, Gr.word_len]
      exact sz (m := 5000) (by omega)) fun p4 H4 L4 t4 => ?_
    refine ⟨_, p4, rfl, L4.only.to ?_⟩
    rw [q6, ← List.map_append]
  · rintro σ H' ⟨y, p2, rfl, L⟩
    rw [hg.len, Gr.take_all] at L
    walk_at "s"
    exact hq _ _ L
end Tr
namespace Tr
open PySem PySem.Spec PyProof.Rows L2
def sp_law_counts (K : PySem.W.Frag) : Sp := fun vs H Q _ => ∃ (a : Addr) (ws : List Nat), vs = [.ref a] ∧ SqL K H a ((ci ws).map V.int) ∧ 0 < ws.length ∧ mx ws ≤ 1000 ∧ newL H Q ((ci (cntOf ws)).map V.int)
theorem ok_law_counts {P : Program} {w : World} {K : PySem.W.Frag} {mg : Str → Option Value} {base : Heap} (T : Txt K mg) : Fn P w K mg base (L2.CX P w) 1 "_law_counts" ["word"] (sp_law_counts K) := by
  refine fnOf1 T.f_law_counts sc_law_counts (fun vs H Q E h => ?_) (fun f cdv A outer s H vs Q E hr h => ⟨_, (pss_cons (ps_setLc (i := 1) (own := [("number", 2)]) (g := gName 2) rfl sc_law_counts.nd rfl rfl (sw_true rfl rfl rfl (by decide +kernel)) (pi_range1 rfl T.m_range (pa_cons (pe_op op_gAdd (pe_callB (kMax K rfl) (by rfl) T.m_max (by decide +kernel) (pa_cons (pv 0) pa_nil)) pe_int) pa_nil)) (blkOk_by (N := n_law_counts) (sc := defScope s_law_counts) (by decide +kernel)) (fun _ _ _ _ _ => pg_name (i := 2) sc_law_counts.nd rfl (Or.inl rfl)) (fun _ _ _ _ _ => pts_nil) (fun _ _ _ _ _ => pe_int))
      (pss_cons (ps_for (passes_of rfl) rfl (kiList K (pv 0)) (pg_name (i := 2) sc_law_counts.nd rfl (Or.inl rfl)) (pss_one (ps_asg (pe_op op_gAdd (pe_ix (kIx K) (pv 1) (pv 2) (fun _ _ => rfl)) pe_int) (pg_sub (pv 1) (pv 2) set_list))))
      (pss_one (ps_ret (pv 1))))), ?_⟩)
  · obtain ⟨a, ws, rfl, _⟩ := h
    rfl
  obtain ⟨a, ws, rfl, hS, h0, hm, hq⟩ := h
  try dsimp only [L2.cxOf]
  walk_at "s"
  refine rd_gMaxL hS (by rw [ci_len]; exact h0) fun m m1 m2 => ?_
  rw [mx_ci h0 m1 m2]
  walk_at "s"
  refine rd_itR1 (mx ws + 1) (by omega) (by omega) (by omega) ?_
  refine lc_map (fun _ => .int 0) (Led.start H) ?_ ?_
  · intro i D H1 hi L1 t1
    walk_at "s"
    refine ⟨rfl, ?_⟩
    walk_at "s"
    exact rd_mapEnd [] L1 t1 (by omega) rfl
  intro p H1 L1 _
  walk_at "s"
  refine lp_ints (ns := ci ws) (fun i σ H' => ∃ y, σ = [some (.ref a), some (.ref p), y] ∧ Led H H' [(p, .lst ((List.range (mx ws + 1)).map fun l => V.int ((ws.take i).count l : Nat)))]) ⟨none, rfl, L1⟩ (fun i σ H' _ ⟨_, _, L⟩ => L.seq hS) ?_ ?_
  · rintro i n σ H2 hi ⟨y, rfl, L2⟩
    obtain ⟨c, rfl, hc⟩ := ci_get hi
    have hcm := le_mx (List.mem_of_getElem? hc)
    have hat : ((List.range (mx ws + 1)).map fun l => V.int ((ws.take i).count l : Nat))[c]? = some (.int ((ws.take i).count c : Nat)) := by
      rw [List.getElem?_map, List.getElem?_range (by omega)]
      rfl
    walk_at "s"
    refine rd_ixL (L2.sq 0) (atI_nat hat) ?_
    walk_at "s"
    refine rd_setL L2 0 rfl (by rw [List.length_map, List.length_range]; omega) fun H3 L3 _ => ?_
    refine ⟨_, rfl, L3.to ?_⟩
    have e : ((List.range (mx ws + 1)).map fun l => V.int ((ws.take i).count l : Nat)).set c (V.int (((ws.take i).count c : Nat) + 1)) = (List.range (mx ws + 1)).map fun l => V.int ((ws.take (i + 1)).count l : Nat) := by
      apply List.ext_getElem?
      intro j
      rw [List.getElem?_set, List.getElem?_map, List.getElem?_map, List.take_add_one, hc, Option.toList_some]
      simp only [List.count_append, List.length_map, List.length_range]
      by_cases hj : c = j
      · subst hj
        rw [if_pos rfl, if_pos (by omega), List.getElem?_range (by omega)]
        simp
      · rw [if_neg hj]
        by_cases hr : j < mx ws + 1
        · rw [List.getElem?_range hr]
          have : List.count j [c] = 0 := by simp [hj]
          show some (V.int _) = some (V.int _)
          rw [this, Nat.add_zero]
        · rw [List.getElem?_eq_none (by simpa using hr)]
          rfl
    rw [← e]
    rfl
  · rintro σ H2 ⟨y, rfl, L2⟩
    rw [ci_len, List.take_length] at L2
    walk_at "s"
    refine hq p H2 (L2.to ?_)
    unfold ci cntOf
    rw [List.map_map, List.map_map]
    rfl
end Tr
namespace Tr
open PySem PySem.Spec PyProof.Rows L2
def sp_sums_of (K : PySem.W.Frag) : Sp := fun vs H Q _ => ∃ a ns, vs = [.ref a] ∧ SqL K H a (ns.map V.int) ∧ ns.length ≤ 1000 ∧ newL H Q ((sums ns).map V.int)
theorem ok_sums_of {P : Program} {w : World} {K : PySem.W.Frag} {mg : Str → Option Value} {base : Heap} (T : Txt K mg) : Fn P w K mg base (L2.CX P w) 1 "sums_of" ["row"] (sp_sums_of K) := by
  refine fnOf1 T.f_sums_of sc_sums_of (fun vs H Q E h => ?_) (fun f cdv A outer s H vs Q E hr h => ⟨_, (pss_cons (ps_set (i := 1) sc_sums_of.nd rfl (Or.inl rfl) (pe_lst pa_nil))
      (pss_cons (ps_set (i := 2) sc_sums_of.nd rfl (Or.inl rfl) pe_int)
      (pss_cons (ps_for (passes_of rfl) rfl (kiList K (pv 0)) (pg_name (i := 3) sc_sums_of.nd rfl (Or.inl rfl)) (pss_cons (ps_set (i := 2) sc_sums_of.nd rfl (Or.inl rfl) (pe_op op_gAdd (pv 2) (pv 3)))
      (pss_one (ps_expr (kbm K PySem.F.plainAttrs_list PySem.F.slot_list_append PySem.F.type_list_append mt_append (pv 1) (pa_cons (pv 2) pa_nil))))))
      (pss_one (ps_ret (pv 1)))))), ?_⟩)
  · obtain ⟨a, ns, rfl, _⟩ := h
    rfl
  obtain ⟨a, ns, rfl, hS, hl, hq⟩ := h
  try dsimp only [L2.cxOf]
  walk_at "s"
  refine rd_mkL (Led.start H) (sz (Nat.zero_le 0)) fun p H1 L1 _ => ?_
  walk_at "s"
  refine lp_ints (ns := ns) (fun i σ H' => ∃ y, σ = [some (.ref a), some (.ref p), some (.int (ns.take i).sum), y] ∧ Led H H' [(p, .lst (((List.range i).map fun k => (ns.take (k + 1)).sum).map V.int))]) ⟨none, rfl, L1⟩ (fun i σ H' _ ⟨_, _, L⟩ => L.seq hS) ?_ ?_
  · rintro i n σ H' hi ⟨y, rfl, L⟩
    have hlt := (List.getElem?_eq_some_iff.mp hi).1
    walk_at "s"
    refine rd_append L 0 rfl (by rw [List.length_map, List.length_map, List.length_range]; exact szl (m := 1000) (by omega)) fun H2 L2 _ => ?_
    rw [← take_sum hi] at L2 ⊢
    refine ⟨some (.int n), rfl, L2.to ?_⟩
    rw [List.range_succ, List.map_append, List.map_append]
    rfl
  · rintro σ H' ⟨y, rfl, L⟩
    walk_at "s"
    exact hq p H' L
end Tr
namespace Tr
open PySem PySem.Spec PyProof.Rows L2
def sp_is_good (K : PySem.W.Frag) : Sp := fun vs H Q _ => ∃ (a : Addr) (ns : List Int), vs = [.ref a] ∧ SqL K H a (ns.map V.int) ∧ ns.length ≤ 1000 ∧ newV H Q (.bl (goodB ns))
theorem ok_is_good {P : Program} {w : World} {K : PySem.W.Frag} {mg : Str → Option Value} {base : Heap} (T : Txt K mg) : Fn P w K mg base (L2.CX P w) 2 "is_good" ["row"] (sp_is_good K) := by
  refine fnOf1 T.f_is_good sc_is_good (fun vs H Q E h => ?_) (fun f cdv A outer s H vs Q E hr h => ⟨_, (pss_cons (ps_for (passes_of rfl) rfl (kiList K (pe_callF (ok_sums_of T) (hr.mono (by decide)) rfl passL (pa_cons (pv 0) pa_nil))) (pg_name (i := 1) sc_is_good.nd rfl (Or.inl rfl)) (pss_one (ps_if (pt_cmpR op_gLt (pv 1) pe_int (nomark _)) (pss_one (ps_ret pe_bl)) pss_nil)))
      (pss_one (ps_ret pe_bl))), ?_⟩)
  · obtain ⟨a, ns, rfl, _⟩ := h
    rfl
  obtain ⟨a, ns, rfl, hS, hl, hq⟩ := h
  try dsimp only [L2.cxOf]
  walk_at "s"
  refine ⟨a, ns, rfl, hS, hl, fun p H1 L1 => ?_⟩
  walk_at "s"
  refine lp_ints (ns := sums ns) (fun i σ H' => ∃ y, σ = [some (.ref a), y] ∧ H' = H1 ∧ ∀ k, k < i → 1 ≤ (ns.take (k + 1)).sum) ⟨none, rfl, rfl, fun _ h => absurd h (Nat.not_lt_zero _)⟩ (fun i σ H' _ ⟨_, _, e, _⟩ => e ▸ L1.sq 0) ?_ ?_
  · rintro i n σ H' hi ⟨y, rfl, rfl, hk⟩
    obtain ⟨h1, h2⟩ := sums_at hi
    walk_at "s"
    refine ited (fun c => ?_) (fun c => ?_)
    · walk_at "s"
      rw [goodB_no h1 (by omega)] at hq
      exact hq H' L1.none
    · walk_at "s"
      refine ⟨_, rfl, rfl, fun k hk' => ?_⟩
      by_cases e : k = i
      · subst e
        omega
      · exact hk k (by omega)
  · rintro σ H' ⟨y, rfl, rfl, hk⟩
    walk_at "s"
    rw [goodB_iff.mpr fun k h => hk k (by rw [sums_len]; exact h)] at hq
    exact hq H' L1.none
end Tr
namespace Tr
open PySem PySem.Spec PyProof.Rows L2
def sp_is_word (K : PySem.W.Frag) : Sp := fun vs H Q _ => ∃ (a : Addr) (ns : List Int), vs = [.ref a] ∧ SqL K H a (ns.map V.int) ∧ ns.length ≤ 1000 ∧ newV H Q (.bl (isWB ns))
theorem ok_is_word {P : Program} {w : World} {K : PySem.W.Frag} {mg : Str → Option Value} {base : Heap} (T : Txt K mg) : Fn P w K mg base (L2.CX P w) 3 "is_word" ["numbers"] (sp_is_word K) := by
  refine fnOf1 T.f_is_word sc_is_word (fun vs H Q E h => ?_) (fun f cdv A outer s H vs Q E hr h => ⟨_, (pss_cons (ps_for (passes_of rfl) rfl (kiList K (pv 0)) (pg_name (i := 1) sc_is_word.nd rfl (Or.inl rfl)) (pss_one (ps_if (pt_cmpR op_gLt (pv 1) pe_int (nomark _)) (pss_one (ps_ret pe_bl)) pss_nil)))
      (pss_one (ps_ret (pe_and (pe_cmpR op_gGt (pe_callB (kLen K) (by rfl) T.m_len (by decide +kernel) (pa_cons (pv 0) pa_nil)) pe_int (nomark _)) (pe_one (pe_callF (ok_is_good T) (hr.mono (by decide)) rfl passL (pa_cons (pe_lc (own := [("number", 1)]) (g := gName 1) rfl sc_is_word.nd (RT.pi_revA rfl T.m_reversed (pv 0)) (blkOk_by (N := n_is_word) (sc := defScope s_is_word) (by decide +kernel)) (fun _ _ _ _ _ => pg_name (i := 1) sc_is_word.nd rfl (Or.inl rfl)) (fun _ _ _ _ _ => pts_nil) (fun _ _ _ _ _ => (pe_op op_gSub pe_int (pv 1)))) pa_nil))))))), ?_⟩)
  · obtain ⟨a, ns, rfl, _⟩ := h
    rfl
  obtain ⟨a, ns, rfl, hS, hl, hq⟩ := h
  try dsimp only [L2.cxOf]
  walk_at "s"
  refine lp_ints (ns := ns) (fun i σ H' => ∃ y, σ = [some (.ref a), y] ∧ H' = H ∧ ∀ n ∈ ns.take i, 0 ≤ n) ⟨none, rfl, rfl, by simp⟩ (fun i σ H' _ ⟨_, _, e, _⟩ => e ▸ hS) ?_ ?_
  · rintro i n σ H' hi ⟨y, rfl, rfl, hk⟩
    walk_at "s"
    refine ited (fun c => ?_) (fun c => ?_)
    · walk_at "s"
      have e : isWB ns = false := by
        cases h : isWB ns with
        | false => rfl
        | true =>
          have := ((okW_iff ns).mp (isWB_iff.mp h).2).1 n (mem_take hi)
          omega
      rw [e] at hq
      exact hq _ (Led.start _)
    · walk_at "s"
      refine ⟨some (.int n), rfl, rfl, fun m hm => ?_⟩
      rw [List.take_add_one, hi] at hm
      rcases List.mem_append.mp hm with hm | hm
      · exact hk m hm
      · have e : m = n := by simpa using hm
        subst e
        omega
  · rintro σ H' ⟨y, rfl, rfl, hk⟩
    rw [List.take_length] at hk
    walk_at "s"
    rw [List.length_map]
    have hall : ns.all (fun n => decide (0 ≤ n)) = true := List.all_eq_true.mpr fun n hn => decide_eq_true (hk n hn)
    refine ited (fun c => ?_) (fun c => ?_)
    · walk_at "s"
      refine lc_revI (fun n => .int (1 - n)) (Led.start _) (fun H1 t1 s1 _ _ => s1.seq hS) ?_ ?_
      · intro i n D H1 hi L t
        walk_at "s"
        refine ⟨rfl, ?_⟩
        walk_at "s"
        refine rd_mapIEnd [] L t hi (by have := (List.getElem?_eq_some_iff.mp hi).1; rw [List.length_reverse] at this; omega) rfl
      · intro D H1 L t
        walk_at "s"
        have L' : Led _ H1 [(D, .lst ((rowOf ns).map V.int))] := L.to (by unfold rowOf; rw [List.map_map]; rfl)
        refine ⟨D, rowOf ns, rfl, L'.sq 0, by unfold rowOf; rw [List.length_map, List.length_reverse]; exact hl, fun H2 L2 => ?_⟩
        have e : isWB ns = goodB (rowOf ns) := by
          unfold isWB
          rw [hall, decide_eq_true (show 0 < ns.length by omega)]
          rfl
        rw [e] at hq
        exact hq _ (L'.call L2).none
    · walk_at "s"
      have e : isWB ns = false := by
        unfold isWB
        rw [decide_eq_false (show ¬ 0 < ns.length by omega)]
        simp
      rw [e] at hq
      exact hq _ (Led.start _)
end Tr
namespace Tr
open PySem PySem.Spec PyProof.Rows L2
def sp_see_word (K : PySem.W.Frag) : Sp := fun vs H Q E => ∃ (a : Addr) (ns : List Int), vs = [.ref a] ∧ SqL K H a (ns.map V.int) ∧ ns.length ≤ 1000 ∧ (isWB ns = true → newV H Q .non) ∧ (isWB ns = false → newE K H E "NoWord")
theorem ok_see_word {P : Program} {w : World} {K : PySem.W.Frag} {mg : Str → Option Value} {base : Heap} (T : Txt K mg) : Fn P w K mg base (L2.CX P w) 4 "see_word" ["word"] (sp_see_word K) := by
  refine fnOf1 T.f_see_word sc_see_word (fun vs H Q E h => ?_) (fun f cdv A outer s H vs Q E hr h => ⟨_, (pss_one (ps_if (pt_not (pt_val (pe_callF (ok_is_word T) (hr.mono (by decide)) rfl passL (pa_cons (pv 0) pa_nil)))) (pss_one (ps_rz T.e_NoWord rfl (takes_of rfl rfl rfl rfl) rfl)) pss_nil)), ?_⟩)
  · obtain ⟨a, ns, rfl, _⟩ := h
    rfl
  obtain ⟨a, ns, rfl, hS, hl, hq, he⟩ := h
  try dsimp only [L2.cxOf]
  walk_at "s"
  refine ⟨a, ns, rfl, hS, hl, fun H1 L1 => ?_⟩
  walk_at "s"
  refine iteBN (fun c => ?_) (fun c => ?_)
  · walk_at "s"
    exact he c _ L1
  · walk_at "s"
    exact hq c _ L1
end Tr
namespace Tr
open PySem PySem.Spec PyProof.Rows L2
def sp_counts_of (K : PySem.W.Frag) : Sp := fun vs H Q E => ∃ (a : Addr) (ws : List Nat), vs = [.ref a] ∧ SqL K H a ((ci ws).map V.int) ∧ ws.length ≤ 1000 ∧ (isWB (ci ws) = true → newL H Q ((ci (cntOf ws)).map V.int)) ∧ (isWB (ci ws) = false → newE K H E "NoWord")
theorem ok_counts_of {P : Program} {w : World} {K : PySem.W.Frag} {mg : Str → Option Value} {base : Heap} (T : Txt K mg) : Fn P w K mg base (L2.CX P w) 5 "counts_of" ["word"] (sp_counts_of K) := by
  refine fnOf1 T.f_counts_of sc_counts_of (fun vs H Q E h => ?_) (fun f cdv A outer s H vs Q E hr h => ⟨_, (pss_cons (ps_expr (pe_callF (ok_see_word T) (hr.mono (by decide)) rfl (passes_call (E := E) (takes_of rfl rfl rfl rfl) (fun _ _ _ _ h => h)) (pa_cons (pv 0) pa_nil)))
      (pss_one (ps_ret (pe_lc (own := [("number", 1)]) (g := gName 1) rfl sc_counts_of.nd (pi_range1 rfl T.m_range (pa_cons (pe_op op_gAdd (pe_callB (kMax K rfl) (by rfl) T.m_max (by decide +kernel) (pa_cons (pv 0) pa_nil)) pe_int) pa_nil)) (blkOk_by (N := n_counts_of) (sc := defScope s_counts_of) (by decide +kernel)) (fun _ _ _ _ _ => pg_name (i := 1) sc_counts_of.nd rfl (Or.inl rfl)) (fun _ _ _ _ _ => pts_nil) (fun _ _ _ _ _ => (kbm K PySem.F.plainAttrs_list PySem.F.slot_list_count PySem.F.type_list_count (kCount K) (pv 0) (pa_cons (pv 1) pa_nil))))))), ?_⟩)
  · obtain ⟨a, ws, rfl, _⟩ := h
    rfl
  obtain ⟨a, ws, rfl, hS, hl, hq, he⟩ := h
  try dsimp only [L2.cxOf]
  walk_at "s"
  refine ⟨a, ci ws, rfl, hS, by rw [ci_len]; exact hl, fun hw H1 L1 => ?_, fun hw H1 L1 => he hw H1 L1⟩
  obtain ⟨h0, hok⟩ := isWB_iff.mp hw
  rw [ci_len] at h0
  have hmx := okW_mx hok
  walk_at "s"
  refine rd_gMaxL (L1.seq hS) (by rw [ci_len]; exact h0) fun m m1 m2 => ?_
  rw [mx_ci h0 m1 m2]
  walk_at "s"
  refine rd_itR1 (mx ws + 1) (by omega) (by omega) (by omega) ?_
  refine lc_map (fun l => .int (ws.count l : Nat)) L1 ?_ ?_
  · intro i D H2 hi L2 t2
    walk_at "s"
    refine ⟨rfl, ?_⟩
    walk_at "s"
    refine rd_count (L2.seq hS) ?_
    rw [ci_count]
    exact rd_mapEnd [] L2 t2 (by omega) rfl
  · intro D H2 L2 _
    refine hq hw D H2 (L2.to ?_)
    unfold ci cntOf
    rw [List.map_map, List.map_map]
    rfl
end Tr
namespace Tr
open PySem PySem.Spec PyProof.Rows L2
def sp_trees_of (K : PySem.W.Frag) : Sp := fun vs H Q _ => ∃ (a : Addr) (cs : List Nat), vs = [.ref a] ∧ SqL K H a ((ci cs).map V.int) ∧ cs.length ≤ 1000 ∧ newV H Q (.int (trees cs))
theorem ok_trees_of {P : Program} {w : World} {K : PySem.W.Frag} {mg : Str → Option Value} {base : Heap} (T : Txt K mg) : Fn P w K mg base (L2.CX P w) 1 "trees_of" ["counts"] (sp_trees_of K) := by
  refine fnOf1 T.f_trees_of sc_trees_of (fun vs H Q E h => ?_) (fun f cdv A outer s H vs Q E hr h => ⟨_, (pss_one (ps_ret (pe_callB (kSum K rfl) (by rfl) T.m_sum (by decide +kernel) (pa_cons (pe_lc (own := [("place", 1), ("count", 2)]) (g := gTup K 2 (gCons (gName 1) (gCons (gName 2) gNil))) rfl sc_trees_of.nd (pi_enum rfl T.m_enumerate (pa_cons (pv 0) pa_nil)) (blkOk_by (N := n_trees_of) (sc := defScope s_trees_of) (by decide +kernel)) (fun _ _ _ _ _ => pg_tup rfl (pgs_cons (pg_name (i := 1) sc_trees_of.nd rfl (Or.inl rfl)) (pgs_cons (pg_name (i := 2) sc_trees_of.nd rfl (Or.inl rfl)) pgs_nil))) (fun _ _ _ _ _ => pts_nil) (fun _ _ _ _ _ => (pe_op op_gMul (pv 2) (pe_op op_gSub pe_int (pv 1))))) pa_nil)))), ?_⟩)
  · obtain ⟨a, cs, rfl, _⟩ := h
    rfl
  obtain ⟨a, cs, rfl, hS, hl, hq⟩ := h
  try dsimp only [L2.cxOf]
  walk_at "s"
  refine rd_itE hS ?_
  refine lc_enum (ns := ci cs) (fun j n => .int (n * (1 - (j : Nat)))) (Led.start H) (fun H1 t1 s1 _ _ => s1.seq hS) ?_ ?_
  · intro i n D T H1 hi L t
    have hlt := (List.getElem?_eq_some_iff.mp hi).1
    rw [ci_len] at hlt
    walk_at "s"
    refine rd_gTwo L 0 rfl ⟨rfl, ?_⟩
    walk_at "s"
    refine rd_mulR (by omega) (by omega) ?_
    refine rd_mapEnd [_] L t (by omega) ?_
    unfold enumF
    rw [List.getD_eq_getElem?_getD, hi]
    rfl
  · intro D H1 L t
    walk_at "s"
    have e : (List.range (ci cs).length).map (enumF (ci cs) fun j n => .int (n * (1 - (j : Nat)))) = ((List.range cs.length).map fun i => (cs.getD i 0 : Int) * (1 - (i : Int))).map V.int := by
      rw [ci_len, List.map_map]
      apply List.map_congr_left
      intro i _
      unfold enumF
      rw [ci_at]
      rfl
    rw [e] at L
    refine rd_sum (L.sq 0) ?_
    rw [sumI_list]
    exact hq _ L.none
end Tr
namespace Tr
open PySem PySem.Spec PyProof.Rows L2
def sp_factorial (_ : PySem.W.Frag) : Sp := fun vs H Q _ => ∃ n : Nat, vs = [.int n] ∧ n ≤ 100 ∧ Q (.int (fac n : Nat)) H
theorem ok_factorial {P : Program} {w : World} {K : PySem.W.Frag} {mg : Str → Option Value} {base : Heap} (T : Txt K mg) : Fn P w K mg base (L2.CX P w) 1 "factorial" ["number"] (sp_factorial K) := by
  refine fnOf1 T.f_factorial sc_factorial (fun vs H Q E h => ?_) (fun f cdv A outer s H vs Q E hr h => ⟨_, (pss_cons (ps_set (i := 1) sc_factorial.nd rfl (Or.inl rfl) pe_int)
      (pss_cons (ps_for (passes_of rfl) rfl (pi_range2 rfl T.m_range (pa_cons pe_int (pa_cons (pe_op op_gAdd (pv 0) pe_int) pa_nil))) (pg_name (i := 2) sc_factorial.nd rfl (Or.inl rfl)) (pss_one (ps_set (i := 1) sc_factorial.nd rfl (Or.inl rfl) (pe_op op_gMul (pv 1) (pv 2)))))
      (pss_one (ps_ret (pv 1))))), ?_⟩)
  · obtain ⟨n, rfl, _⟩ := h
    rfl
  obtain ⟨n, rfl, hn, hq⟩ := h
  try dsimp only [L2.cxOf]
  walk_at "s"
  refine rd_itR2 (n - 1) (by omega) (by omega) ?_
  refine lp_rng (fun i σ H' => ∃ y, σ = [some (.int n), some (.int (fac (i + 1) : Nat)), y] ∧ H' = H) ⟨none, rfl, rfl⟩ ?_ ?_
  · rintro i σ H' hi ⟨y, rfl, rfl⟩
    walk_at "s"
    refine rd_mulR (by omega) (by omega) ?_
    refine ⟨some (.int (2 + (i : Nat))), ?_, rfl⟩
    have e : ((fac (i + 1) : Nat) : Int) * (2 + (i : Nat)) = ((fac (i + 1 + 1) : Nat) : Int) := by
      rw [show fac (i + 1 + 1) = (i + 1 + 1) * fac (i + 1) from rfl, Int.natCast_mul, Int.mul_comm]
      congr 1
      omega
    rw [e]
    rfl
  · rintro σ H' ⟨y, rfl, rfl⟩
    walk_at "s"
    have e : fac (n - 1 + 1) = fac n := by
      cases n with
      | zero => rfl
      | succ m => rfl
    rw [e]
    exact hq
end Tr
namespace Tr
open PySem PySem.Spec PyProof.Rows L2
def sp_lists_with (K : PySem.W.Frag) : Sp := fun vs H Q _ => ∃ (a : Addr) (cs : List Nat), vs = [.ref a] ∧ SqL K H a ((ci cs).map V.int) ∧ cs.sum ≤ 100 ∧ Q (.int (mul cs : Nat)) H
theorem ok_lists_with {P : Program} {w : World} {K : PySem.W.Frag} {mg : Str → Option Value} {base : Heap} (T : Txt K mg) : Fn P w K mg base (L2.CX P w) 2 "lists_with" ["counts"] (sp_lists_with K) := by
  refine fnOf1 T.f_lists_with sc_lists_with (fun vs H Q E h => ?_) (fun f cdv A outer s H vs Q E hr h => ⟨_, (pss_cons (ps_set (i := 1) sc_lists_with.nd rfl (Or.inl rfl) (pe_callF (ok_factorial T) (hr.mono (by decide)) rfl passL (pa_cons (pe_callB (kSum K rfl) (by rfl) T.m_sum (by decide +kernel) (pa_cons (pv 0) pa_nil)) pa_nil)))
      (pss_cons (ps_for (passes_of rfl) rfl (kiList K (pv 0)) (pg_name (i := 2) sc_lists_with.nd rfl (Or.inl rfl)) (pss_one (ps_set (i := 1) sc_lists_with.nd rfl (Or.inl rfl) (pe_op op_gDiv (pv 1) (pe_callF (ok_factorial T) (hr.mono (by decide)) rfl passL (pa_cons (pv 2) pa_nil))))))
      (pss_one (ps_ret (pv 1))))), ?_⟩)
  · obtain ⟨a, cs, rfl, _⟩ := h
    rfl
  obtain ⟨a, cs, rfl, hS, hs, hq⟩ := h
  try dsimp only [L2.cxOf]
  walk_at "s"
  refine rd_sum hS ?_
  rw [ci_sum]
  walk_at "s"
  refine ⟨cs.sum, rfl, hs, ?_⟩
  walk_at "s"
  refine lp_ints (ns := ci cs) (fun i σ H' => ∃ y, σ = [some (.ref a), some (.int ((cs.take i).foldl (fun x c => x / fac c) (fac cs.sum) : Nat)), y] ∧ H' = H) ⟨none, rfl, rfl⟩ (fun i σ H' _ ⟨_, _, e⟩ => e ▸ hS) ?_ ?_
  · rintro i n σ H' hi ⟨y, rfl, rfl⟩
    obtain ⟨c, rfl, hc⟩ := ci_get hi
    have hcs := le_sum hc
    walk_at "s"
    refine ⟨c, rfl, by omega, ?_⟩
    have hf := fac_pos c
    refine rd_div (wide_div (b := 600) (by omega) (by rw [Int.natAbs_natCast]; exact fac_small (by omega)) (by decide) (by decide)) ?_
    refine ⟨some (.int c), ?_, rfl⟩
    rw [← Int.natCast_ediv, List.take_add_one, hc, List.foldl_append]
    rfl
  · rintro σ H' ⟨y, rfl, rfl⟩
    rw [ci_len, List.take_length, fac_div, mul_div]
    walk_at "s"
    exact hq
end Tr
namespace Tr
open PySem PySem.Spec PyProof.Rows L2
def sp_how_many (K : PySem.W.Frag) : Sp := fun vs H Q _ => ∃ (a : Addr) (cs : List Nat), vs = [.ref a] ∧ SqL K H a ((ci cs).map V.int) ∧ cs.length ≤ 1000 ∧ cs.sum ≤ 100 ∧ newV H Q (.int (hm cs))
theorem ok_how_many {P : Program} {w : World} {K : PySem.W.Frag} {mg : Str → Option Value} {base : Heap} (T : Txt K mg) : Fn P w K mg base (L2.CX P w) 3 "how_many" ["counts"] (sp_how_many K) := by
  refine fnOf1 T.f_how_many sc_how_many (fun vs H Q E h => ?_) (fun f cdv A outer s H vs Q E hr h => ⟨_, (pss_cons (ps_set (i := 1) sc_how_many.nd rfl (Or.inl rfl) (pe_callF (ok_trees_of T) (hr.mono (by decide)) rfl passL (pa_cons (pv 0) pa_nil)))
      (pss_cons (ps_if (pt_cmpR op_gLt (pv 1) pe_int (nomark _)) (pss_one (ps_ret pe_int)) pss_nil)
      (pss_one (ps_ret (pe_op op_gDiv (pe_op op_gMul (pv 1) (pe_callF (ok_lists_with T) (hr.mono (by decide)) rfl passL (pa_cons (pv 0) pa_nil))) (pe_callB (kSum K rfl) (by rfl) T.m_sum (by decide +kernel) (pa_cons (pv 0) pa_nil))))))), ?_⟩)
  · obtain ⟨a, cs, rfl, _⟩ := h
    rfl
  obtain ⟨a, cs, rfl, hS, hl, hs, hq⟩ := h
  try dsimp only [L2.cxOf]
  walk_at "s"
  refine ⟨a, cs, rfl, hS, hl, fun H1 L1 => ?_⟩
  have ht := trees_le cs
  walk_at "s"
  refine ited (fun c => ?_) (fun c => ?_)
  · walk_at "s"
    unfold hm at hq
    rw [if_pos c] at hq
    exact hq _ L1
  · walk_at "s"
    refine ⟨a, cs, rfl, L1.seq hS, hs, ?_⟩
    refine rd_mulL (by omega) (by omega) ?_
    walk_at "s"
    refine rd_sum (L1.seq hS) ?_
    rw [ci_sum]
    refine rd_divK (by omega) (by omega) ?_
    walk_at "s"
    unfold hm at hq
    rw [if_neg c] at hq
    exact hq _ L1
end Tr
namespace Tr
open PySem PySem.Spec PyProof.Rows L2
def sp_without (K : PySem.W.Frag) : Sp := fun vs H Q _ => ∃ (a : Addr) (cs : List Nat) (l : Nat), vs = [.ref a, .int l] ∧ SqL K H a ((ci cs).map V.int) ∧ 0 < cs.getD l 0 ∧ newL H Q ((ci (less cs l)).map V.int)
theorem ci_ix {cs : List Nat} {l : Nat} (h : l < cs.length) : atI ((ci cs).map V.int) (l : Int) = some (.int (cs.getD l 0 : Nat)) := by
  have := at_int (ls := ci cs) (k := (l : Int)) (by omega) (by rw [ci_len]; omega)
  rw [Int.toNat_natCast, ci_at] at this
  exact this
theorem ok_without {P : Program} {w : World} {K : PySem.W.Frag} {mg : Str → Option Value} {base : Heap} (T : Txt K mg) : Fn P w K mg base (L2.CX P w) 1 "without" ["counts", "place"] (sp_without K) := by
  refine fnOf1 T.f_without sc_without (fun vs H Q E h => ?_) (fun f cdv A outer s H vs Q E hr h => ⟨_, (pss_cons (ps_set (i := 2) sc_without.nd rfl (Or.inl rfl) (pe_callTy (kList K) (by rfl) T.m_list (by decide +kernel) (pa_cons (pv 0) pa_nil)))
      (pss_cons (ps_asg (pe_op op_gSub (pe_ix (kIx K) (pv 2) (pv 1) (fun _ _ => rfl)) pe_int) (pg_sub (pv 2) (pv 1) set_list))
      (pss_one (ps_ret (pv 2))))), ?_⟩)
  · obtain ⟨a, cs, l, rfl, _⟩ := h
    rfl
  obtain ⟨a, cs, l, rfl, hS, h0, hq⟩ := h
  have hl := getD_lt h0
  try dsimp only [L2.cxOf]
  walk_at "s"
  refine rd_list (Led.start H) hS fun p H1 L1 _ => ?_
  walk_at "s"
  refine rd_ixL (L1.sq 0) (ci_ix hl) ?_
  walk_at "s"
  refine rd_setL L1 0 rfl (by rw [List.length_map, ci_len]; exact hl) fun H2 L2 _ => ?_
  walk_at "s"
  refine hq p H2 (L2.to ?_)
  have e : ((cs.getD l 0 : Nat) : Int) - 1 = ((cs.getD l 0 - 1 : Nat) : Int) := by omega
  rw [e]
  unfold less ci
  rw [List.map_set, List.map_set]
  rfl
end Tr
namespace Tr
open PySem PySem.Spec PyProof.Rows L2
def sp_ends_of (K : PySem.W.Frag) : Sp := fun vs H Q _ => ∃ (a : Addr) (cs : List Nat), vs = [.ref a, .int (trees cs)] ∧ SqL K H a ((ci cs).map V.int) ∧ cs.length ≤ 1000 ∧ cs.sum ≤ 100 ∧ newV H Q (.int (ends cs))
theorem ok_ends_of {P : Program} {w : World} {K : PySem.W.Frag} {mg : Str → Option Value} {base : Heap} (T : Txt K mg) : Fn P w K mg base (L2.CX P w) 4 "ends_of" ["counts", "pending"] (sp_ends_of K) := by
  refine fnOf1 T.f_ends_of sc_ends_of (fun vs H Q E h => ?_) (fun f cdv A outer s H vs Q E hr h => ⟨_, (pss_cons (ps_if (pt_cmpR (kEq K hr.units) (pe_callB (kSum K rfl) (by rfl) T.m_sum (by decide +kernel) (pa_cons (pv 0) pa_nil)) pe_int (nomark _)) (pss_one (ps_ret (pe_callTy cr_int (by rfl) T.m_int (by decide +kernel) (pa_cons (pe_cmpR (kEq K hr.units) (pv 1) pe_int (nomark _)) pa_nil)))) pss_nil)
      (pss_cons (ps_if (pt_cmpR (kNe K hr.units) (pv 1) (pe_callF (ok_trees_of T) (hr.mono (by decide)) rfl passL (pa_cons (pv 0) pa_nil)) (nomark _)) (pss_one (ps_ret pe_int)) pss_nil)
      (pss_one (ps_ret (pe_callF (ok_how_many T) (hr.mono (by decide)) rfl passL (pa_cons (pv 0) pa_nil)))))), ?_⟩)
  · obtain ⟨a, cs, rfl, _⟩ := h
    rfl
  obtain ⟨a, cs, rfl, hS, hl, hs, hq⟩ := h
  generalize ht : trees cs = t
  try dsimp only [L2.cxOf]
  walk_at "s"
  refine rd_sum hS ?_
  rw [ci_sum]
  walk_at "s"
  unfold ends at hq
  refine ited (fun c => ?_) (fun c => ?_)
  · walk_at "s"
    have c' : cs.sum = 0 := by omega
    rw [if_pos c'] at hq
    have t0 := trees_sum_zero c'
    rw [decide_eq_true (show t = 0 by omega)]
    exact hq _ (Led.start _)
  · walk_at "s"
    refine ⟨a, cs, rfl, hS, hl, fun H1 L1 => ?_⟩
    rw [if_neg (by omega)] at hq
    walk_at "s"
    rw [ht, decide_eq_true rfl]
    walk_at "s"
    refine ⟨a, cs, rfl, L1.seq hS, hl, hs, fun H2 L2 => ?_⟩
    exact hq _ (L1.call L2)
end Tr
namespace Tr
open PySem PySem.Spec PyProof.Rows L2
def sp_word_at (K : PySem.W.Frag) : Sp := fun vs H Q E => ∃ (a : Addr) (cs : List Nat) (x : Int), vs = [.ref a, .int x] ∧ SqL K H a ((ci cs).map V.int) ∧ cs.length ≤ 1000 ∧ cs.sum ≤ 100 ∧
  (0 ≤ x → x < hm cs → ∀ (p : Addr) (w : List Nat) (H' : Hp), Led H H' [(p, .lst ((ci w).map V.int))] → Wd cs w → rank cs w = x → Q (.ref p) H') ∧ ((x < 0 ∨ hm cs ≤ x) → newE K H E "NoSuch")
theorem hm_pos {cs : List Nat} (h : 0 < hm cs) : 0 < cs.sum ∧ 1 ≤ trees cs ∧ ends cs = hm cs := by
  have ht : 1 ≤ trees cs := by
    rcases Int.lt_or_le (trees cs) 1 with h1 | h1
    · have : hm cs = 0 := if_pos h1
      omega
    · exact h1
  have hs : 0 < cs.sum := by
    rcases Nat.eq_zero_or_pos cs.sum with h1 | h1
    · have := trees_sum_zero h1
      omega
    · exact h1
  exact ⟨hs, ht, if_neg (by omega)⟩
theorem ev_pos {cs : List Nat} {l : Nat} (h : 0 < ev cs l) : 0 < cs.getD l 0 ∧ ev cs l = ends (less cs l) := by
  by_cases h2 : 0 < cs.getD l 0
  · exact ⟨h2, if_pos h2⟩
  · have : ev cs l = 0 := if_neg h2
    omega
theorem ok_word_at {P : Program} {w : World} {K : PySem.W.Frag} {mg : Str → Option Value} {base : Heap} (T : Txt K mg) : Fn P w K mg base (L2.CX P w) 5 "word_at" ["counts", "number"] (sp_word_at K) := by
  refine fnOf1 T.f_word_at sc_word_at (fun vs H Q E h => ?_) (fun f cdv A outer s H vs Q E hr h => ⟨_, (pss_cons (ps_if (PW.pt (pw_or (pt_cmpR op_gLt (pv 1) pe_int (nomark _)) (pw_or1 (pt_cmpR op_gGe (pv 1) (pe_callF (ok_how_many T) (hr.mono (by decide)) rfl passL (pa_cons (pv 0) pa_nil)) (nomark _))))) (pss_one (ps_rz T.e_NoSuch rfl (takes_of rfl rfl rfl rfl) rfl)) pss_nil)
      (pss_cons (ps_set (i := 2) sc_word_at.nd rfl (Or.inl rfl) (pe_callTy (kList K) (by rfl) T.m_list (by decide +kernel) (pa_cons (pv 0) pa_nil)))
      (pss_cons (ps_set (i := 3) sc_word_at.nd rfl (Or.inl rfl) (pe_callF (ok_trees_of T) (hr.mono (by decide)) rfl passL (pa_cons (pv 0) pa_nil)))
      (pss_cons (ps_set (i := 4) sc_word_at.nd rfl (Or.inl rfl) (pe_lst pa_nil))
      (pss_cons (ps_while (passes_of rfl) (pt_cmpR op_gGt (pe_callB (kSum K rfl) (by rfl) T.m_sum (by decide +kernel) (pa_cons (pv 2) pa_nil)) pe_int (nomark _)) (pss_cons (ps_set (i := 5) sc_word_at.nd rfl (Or.inl rfl) pe_int)
      (pss_cons (ps_set (i := 6) sc_word_at.nd rfl (Or.inl rfl) pe_int)
      (pss_cons (ps_if (pt_cmpR op_gGt (pe_ix (kIx K) (pv 2) pe_int (fun _ _ => rfl)) pe_int (nomark _)) (pss_one (ps_set (i := 6) sc_word_at.nd rfl (Or.inl rfl) (pe_callF (ok_ends_of T) (hr.mono (by decide)) rfl passL (pa_cons (pe_callF (ok_without T) (hr.mono (by decide)) rfl passL (pa_cons (pv 2) (pa_cons pe_int pa_nil))) (pa_cons (pe_op op_gSub (pv 3) pe_int) pa_nil))))) pss_nil)
      (pss_cons (ps_while (passes_of rfl) (pt_cmpR op_gGe (pv 1) (pv 6) (nomark _)) (pss_cons (ps_set (i := 1) sc_word_at.nd rfl (Or.inl rfl) (pe_op op_gSub (pv 1) (pv 6)))
      (pss_cons (ps_set (i := 5) sc_word_at.nd rfl (Or.inl rfl) (pe_op op_gAdd (pv 5) pe_int))
      (pss_cons (ps_set (i := 6) sc_word_at.nd rfl (Or.inl rfl) pe_int)
      (pss_one (ps_if (pt_cmpR op_gGt (pe_ix (kIx K) (pv 2) (pv 5) (fun _ _ => rfl)) pe_int (nomark _)) (pss_one (ps_set (i := 6) sc_word_at.nd rfl (Or.inl rfl) (pe_callF (ok_ends_of T) (hr.mono (by decide)) rfl passL (pa_cons (pe_callF (ok_without T) (hr.mono (by decide)) rfl passL (pa_cons (pv 2) (pa_cons (pv 5) pa_nil))) (pa_cons (pe_op op_gAdd (pe_op op_gSub (pv 3) pe_int) (pv 5)) pa_nil))))) pss_nil))))))
      (pss_cons (ps_expr (kbm K PySem.F.plainAttrs_list PySem.F.slot_list_append PySem.F.type_list_append mt_append (pv 4) (pa_cons (pv 5) pa_nil)))
      (pss_cons (ps_set (i := 2) sc_word_at.nd rfl (Or.inl rfl) (pe_callF (ok_without T) (hr.mono (by decide)) rfl passL (pa_cons (pv 2) (pa_cons (pv 5) pa_nil))))
      (pss_one (ps_set (i := 3) sc_word_at.nd rfl (Or.inl rfl) (pe_op op_gAdd (pe_op op_gSub (pv 3) pe_int) (pv 5)))))))))))
      (pss_one (ps_ret (pv 4)))))))), ?_⟩)
  · obtain ⟨a, cs, x, rfl, _⟩ := h
    rfl
  obtain ⟨a, cs, x, rfl, hS, hl, hs, hq, he⟩ := h
  try dsimp only [L2.cxOf]
  walk_at "s"
  refine ited (fun c => ?_) (fun c => ?_)
  · walk_at "s"
    exact he (.inl c) _ (Led.start _)
  walk_at "s"
  refine ⟨a, cs, rfl, hS, hl, hs, fun H1 L1 => ?_⟩
  walk_at "s"
  refine ited (fun c2 => ?_) (fun c2 => ?_)
  · walk_at "s"
    exact he (.inr (by omega)) _ L1
  have hx0 : 0 ≤ x := by omega
  have hxh : x < hm cs := by omega
  obtain ⟨hsum, htr, hen⟩ := hm_pos (cs := cs) (by omega)
  have hq' := hq hx0 hxh
  clear hq he
  walk_at "s"
  refine rd_list L1 (L1.seq hS) fun pl H2 L2 _ => ?_
  walk_at "s"
  refine ⟨a, cs, rfl, L2.seq hS, hl, fun H3 M3 => ?_⟩
  have L3 := L2.call M3
  walk_at "s"
  refine rd_mkL L3 (sz (Nat.zero_le 0)) fun pw H4 L4 _ => ?_
  walk_at "s"
  refine rd_while (fun m σ H' => ∃ (pl : Addr) (cs' : List Nat) (x' : Int) (ws : List Nat) (y z : Option V), cs'.sum = m ∧ σ = [some (.ref a), some (.int x'), some (.ref pl), some (.int (trees cs')), some (.ref pw), y, z] ∧
    Led H H' [(pw, .lst ((ci ws).map V.int)), (pl, .lst ((ci cs').map V.int))] ∧ 0 ≤ x' ∧ x' < ends cs' ∧ cs'.length = cs.length ∧ ws.length + cs'.sum ≤ 100 ∧
    ∀ w', Wd cs' w' → rank cs' w' = x' → Wd cs (ws ++ w') ∧ rank cs (ws ++ w') = x) cs.sum ⟨pl, cs, x, [], none, none, rfl, rfl, L4, hx0, by omega, rfl, by simpa using hs, fun w' h1 h2 => ⟨h1, h2⟩⟩ ?_
  rintro m σ H5 ⟨pl, cs', x', ws, y, z, rfl, rfl, L5, h0, hlt, hlen, hws, hfin⟩
  walk_at "s"
  refine rd_sum (L5.sq 1) ?_
  rw [ci_sum]
  walk_at "s"
  refine ited (fun c3 => ?wy) (fun c3 => ?wn)
  case wn =>
    have c0 : cs'.sum = 0 := by omega
    have e0 : ends cs' = 1 := if_pos c0
    have := hfin [] c0 (by show (0 : Int) = x'; omega)
    rw [List.append_nil] at this
    walk_at "s"
    exact hq' pw ws _ (L5.sub (List.Sublist.cons_cons _ (List.nil_sublist _))) this.1 this.2
  case wy =>
  refine rd_wTurn ?_
  have hs0 : 0 < cs'.sum := by omega
  have e1 : ends cs' = hm cs' := if_neg (by omega)
  obtain ⟨_, ht', _⟩ := hm_pos (cs := cs') (by omega)
  have hst := ends_step hs0 ht'
  have hc0 : 0 < cs'.length := by
    rcases Nat.eq_zero_or_pos cs'.length with h | h
    · rw [List.eq_nil_of_length_eq_zero h] at hs0
      exact absurd hs0 (by decide)
    · exact h
  walk_at "s"
  refine rd_ixL (L5.sq 1) (ci_ix (l := 0) hc0) ?_
  walk_at "s"
  refine if_two (fun σ H' => σ = [some (.ref a), some (.int x'), some (.ref pl), some (.int (trees cs')), some (.ref pw), some (.int 0), some (.int (ev cs' 0))] ∧ Led H H' [(pw, .lst ((ci ws).map V.int)), (pl, .lst ((ci cs').map V.int))]) ?g0 (fun nx' hN c => ?g1) (fun nx' hN c => ?g2)
  case g2 =>
    walk_at "s"
    refine hN _ _ ⟨?_, L5⟩
    have : ev cs' 0 = 0 := if_neg (by omega)
    rw [this]
    rfl
  case g1 =>
    have c0 : 0 < cs'.getD 0 0 := by omega
    have hls := less_sum cs' 0 c0
    walk_at "s"
    refine ⟨pl, cs', 0, rfl, L5.sq 1, c0, fun p6 H6 M6 => ?_⟩
    have L6 := L5.call M6
    walk_at "s"
    refine ⟨p6, less cs' 0, by rw [trees_less c0]; congr 2; congr 1; omega, L6.sq 0, by rw [less_len]; omega, by omega, fun H7 M7 => ?_⟩
    have L7 := (L6.call M7).drop1 (m := [_])
    refine hN _ _ ⟨?_, L7⟩
    have : ev cs' 0 = ends (less cs' 0) := if_pos c0
    rw [this]
    rfl
  case g0 =>
  rintro σ H6 ⟨rfl, L6⟩
  walk_at "s"
  refine rd_while (fun m σ H' => ∃ (l : Nat) (xx : Int), cs'.length - l = m ∧ l < cs'.length ∧ σ = [some (.ref a), some (.int xx), some (.ref pl), some (.int (trees cs')), some (.ref pw), some (.int l), some (.int (ev cs' l))] ∧
    Led H H' [(pw, .lst ((ci ws).map V.int)), (pl, .lst ((ci cs').map V.int))] ∧ 0 ≤ xx ∧ xx + sumI (ev cs') l = x') (cs'.length - 0) ⟨0, x', rfl, hc0, rfl, L6, h0, by rw [show sumI (ev cs') 0 = 0 from rfl]; omega⟩ ?_
  rintro m σ H7 ⟨l, xx, rfl, hl7, rfl, L7, hxx, hsx⟩
  walk_at "s"
  refine ited (fun c4 => ?vy) (fun c4 => ?vn)
  case vn =>
    obtain ⟨c0, ee⟩ := ev_pos (cs := cs') (l := l) (by omega)
    have hls := less_sum cs' l c0
    walk_at "s"
    refine rd_append L7 0 rfl (by rw [List.length_map, ci_len]; exact szl (m := 100) (by omega)) fun H8 L8 _ => ?_
    walk_at "s"
    refine ⟨pl, cs', l, rfl, L8.sq 1, c0, fun p9 H9 M9 => ?_⟩
    have L9 := L8.call M9
    walk_at "s"
    refine ⟨(less cs' l).sum, by omega, p9, less cs' l, xx, ws ++ [l], some (.int l), some (.int (ev cs' l)), rfl, ?_, ?_, hxx, by omega, by rw [less_len]; exact hlen, by rw [List.length_append]; show ws.length + 1 + _ ≤ _; omega, fun w' h1 h2 => ?_⟩
    · rw [trees_less c0]
      rfl
    · have L10 : Led H H9 [(pw, .lst ((ci ws).map V.int ++ [.int l])), (p9, .lst ((ci (less cs' l)).map V.int))] := (L9.perm (List.Perm.swap _ _ _)).sub (List.Sublist.cons_cons _ (List.Sublist.cons_cons _ (List.nil_sublist _)))
      exact L10.to (by unfold ci; simp)
    · have := hfin (l :: w') ⟨c0, ht', h1⟩ (by simp only [rank]; omega)
      rw [List.append_assoc]
      exact this
  case vy =>
  refine rd_wTurn ?_
  have hl8 : l + 1 < cs'.length := by
    rcases Nat.lt_or_ge (l + 1) cs'.length with h | h
    · exact h
    · exfalso
      have e : cs'.length = l + 1 := by omega
      rw [e, sumI] at hst
      omega
  have elp : (l : Int) + 1 = ((l + 1 : Nat) : Int) := by omega
  walk_at "s"
  rw [elp]
  refine rd_ixL (L7.sq 1) (ci_ix hl8) ?_
  walk_at "s"
  have hsx' : xx - ev cs' l + sumI (ev cs') (l + 1) = x' := by
    rw [sumI]
    omega
  refine ited (fun c5 => ?_) (fun c5 => ?_)
  · have c0 : 0 < cs'.getD (l + 1) 0 := by omega
    have hls := less_sum cs' (l + 1) c0
    walk_at "s"
    refine ⟨pl, cs', l + 1, rfl, L7.sq 1, c0, fun p8 H8 M8 => ?_⟩
    have L8 := L7.call M8
    walk_at "s"
    refine ⟨p8, less cs' (l + 1), by rw [trees_less c0], L8.sq 0, by rw [less_len]; omega, by omega, fun H9 M9 => ?_⟩
    have L9 := (L8.call M9).drop1 (m := [_])
    walk_at "s"
    refine ⟨cs'.length - (l + 1), by omega, l + 1, xx - ev cs' l, rfl, hl8, ?_, L9, by omega, hsx'⟩
    have : ev cs' (l + 1) = ends (less cs' (l + 1)) := if_pos c0
    rw [this]
    rfl
  · walk_at "s"
    refine ⟨cs'.length - (l + 1), by omega, l + 1, xx - ev cs' l, rfl, hl8, ?_, L7, by omega, hsx'⟩
    have : ev cs' (l + 1) = 0 := if_neg (by omega)
    rw [this]
    rfl
end Tr
namespace Tr
open PySem PySem.Spec PyProof.Rows L2
def sp_all_words (K : PySem.W.Frag) : Sp := fun vs H Q _ => ∃ (a : Addr) (cs : List Nat), vs = [.ref a] ∧ SqL K H a ((ci cs).map V.int) ∧ cs.length ≤ 1000 ∧ 0 < cs.sum ∧ cs.sum ≤ 8 ∧
  ∀ (p : Addr) (fs : List (Addr × List Nat)) (H' : Hp), Led H H' ((p, HO.lst (refs fs)) :: fdL fs) → fs.map (·.2) = wordsOf cs → (fs.length : Int) = hm cs → Q (.ref p) H'
theorem ok_all_words {P : Program} {w : World} {K : PySem.W.Frag} {mg : Str → Option Value} {base : Heap} (T : Txt K mg) : Fn P w K mg base (L2.CX P w) 6 "all_words" ["counts"] (sp_all_words K) := by
  refine fnOf1 T.f_all_words sc_all_words (fun vs H Q E h => ?_) (fun f cdv A outer s H vs Q E hr h => ⟨_, (pss_one (ps_ret (pe_lc (own := [("number", 1)]) (g := gName 1) rfl sc_all_words.nd (pi_range1 rfl T.m_range (pa_cons (pe_callF (ok_how_many T) (hr.mono (by decide)) rfl passL (pa_cons (pv 0) pa_nil)) pa_nil)) (blkOk_by (N := n_all_words) (sc := defScope s_all_words) (by decide +kernel)) (fun _ _ _ _ _ => pg_name (i := 1) sc_all_words.nd rfl (Or.inl rfl)) (fun _ _ _ _ _ => pts_nil) (fun _ _ _ _ _ => (pe_callF (ok_word_at T) (hr.mono (by decide)) rfl passL (pa_cons (pv 0) (pa_cons (pv 1) pa_nil))))))), ?_⟩)
  · obtain ⟨a, cs, rfl, _⟩ := h
    rfl
  obtain ⟨a, cs, rfl, hS, hl, h0, h8, hq⟩ := h
  try dsimp only [L2.cxOf]
  have hn0 := hm_nn cs
  have hn1 := hm_le h8
  walk_at "s"
  refine ⟨a, cs, rfl, hS, hl, by omega, fun H1 L1 => ?_⟩
  walk_at "s"
  refine rd_itR1 (hm cs).toNat rfl (by omega) (by omega) ?_
  refine lc_rng L1 fun D H2 L2 _ => ⟨fun i H3 => ∃ fs : List (Addr × List Nat), fs.length = i ∧ Led H H3 ((D, HO.lst (refs fs)) :: fdL fs) ∧ ∀ (j : Nat) (f : Addr × List Nat), fs[j]? = some f → Wd cs f.2 ∧ rank cs f.2 = (j : Nat), ⟨[], rfl, L2, fun j f h => by simp at h⟩, ?_, ?_⟩
  · rintro i H3 hi ⟨fs, hfl, L3, hfs⟩
    have e : (0 : Int) + (i : Nat) = (i : Nat) := by omega
    rw [e]
    walk_at "s"
    refine ⟨rfl, ?_⟩
    walk_at "s"
    refine ⟨a, cs, i, rfl, L3.seq hS, hl, by omega, fun _ _ q w H4 M4 hW hr => ?_, fun h => by omega⟩
    have L4 := L3.call M4
    refine rd_put1 L4 1 rfl (by rw [refs_len]; exact szl (m := 100000) (by omega)) fun H5 L5 _ => ?_
    refine ⟨fs ++ [(q, w)], by rw [List.length_append, hfl]; rfl, ?_, fun j f hj => ?_⟩
    · have pm := fds_perm (p := D) (o := HO.lst (refs (fs ++ [(q, w)]))) (f := (q, w)) (fs := fs) (B := [])
      rw [List.append_nil, List.append_nil] at pm
      have L5' : Led H H5 ((q, HO.lst ((ci w).map V.int)) :: (D, HO.lst (refs (fs ++ [(q, w)]))) :: fdL fs) := L5.to (by rw [refs_snoc]; rfl)
      exact L5'.perm pm
    · rw [List.getElem?_append] at hj
      split at hj
      · exact hfs j f hj
      · have hj2 : j = i := by
          have := (List.getElem?_eq_some_iff.mp hj).1
          simp only [List.length_cons, List.length_nil] at this
          omega
        subst hj2
        rw [hfl, Nat.sub_self] at hj
        cases hj
        exact ⟨hW, hr⟩
  · rintro H3 ⟨fs, hfl, L3, hfs⟩
    refine hq D fs H3 L3 (words_eq h0 (by rw [List.length_map, hfl]; omega) fun i w hw => ?_) (by rw [hfl]; omega)
    rw [List.getElem?_map] at hw
    cases e : fs[i]? with
    | none => rw [e] at hw; cases hw
    | some f =>
      rw [e] at hw
      cases hw
      exact hfs i f e
end Tr
namespace Tr
open PySem PySem.Spec PyProof.Rows L2
def sp_law_cell_at (K : PySem.W.Frag) : Sp := fun vs H Q _ => ∃ a ns, ∃ k : Nat, vs = [.ref a, .int k] ∧ SqL K H a (ns.map V.int) ∧ Q (.int (cell ns k)) H
theorem cell_in {ns : List Int} {k : Nat} (h : k < ns.length) : (ns.map V.int)[k]? = some (.int (cell ns k)) := by
  unfold cell
  rw [List.getElem?_map, List.getD_eq_getElem?_getD, List.getElem?_eq_getElem h]
  rfl
theorem cell_out {ns : List Int} {k : Nat} (h : ns.length ≤ k) : cell ns k = 0 := by
  unfold cell
  rw [List.getD_eq_getElem?_getD, List.getElem?_eq_none h]
  rfl
theorem ok_law_cell_at {P : Program} {w : World} {K : PySem.W.Frag} {mg : Str → Option Value} {base : Heap} (T : Txt K mg) : Fn P w K mg base (L2.CX P w) 1 "_law_cell_at" ["script", "k"] (sp_law_cell_at K) := by
  refine fnOf1 T.f_law_cell_at sc_law_cell_at (fun vs H Q E h => ?_) (fun f cdv A outer s H vs Q E hr h => ⟨_, (pss_cons (ps_if (pt_cmpR op_gLt (pv 1) (pe_callB (kLen K) (by rfl) T.m_len (by decide +kernel) (pa_cons (pv 0) pa_nil)) (nomark _)) (pss_one (ps_ret (pe_ix (kIx K) (pv 0) (pv 1) (fun _ _ => rfl)))) pss_nil)
      (pss_one (ps_ret pe_int))), ?_⟩)
  · obtain ⟨a, ns, k, rfl, _⟩ := h
    rfl
  obtain ⟨a, ns, k, rfl, hS, hq⟩ := h
  try dsimp only [L2.cxOf]
  walk_at "s"
  rw [List.length_map]
  refine ited (fun c => ?_) (fun c => ?_)
  · walk_at "s"
    exact rd_ixL hS (atI_nat (cell_in (by omega))) hq
  · walk_at "s"
    rw [cell_out (by omega)] at hq
    exact hq
end Tr
namespace Tr
open PySem PySem.Spec PyProof.Rows L2
def sp_law_grove_by (K : PySem.W.Frag) : Sp := fun vs H Q _ => ∃ (a : Addr) (ns : List Int), ∃ first nodes : Nat, ∃ roots : Int, vs = [.ref a, .int first, .int nodes, .int roots] ∧ SqL K H a (ns.map V.int) ∧ 1 ≤ nodes ∧ nodes ≤ 60 ∧ 1 ≤ roots ∧ ∀ p xs g H', Led H H' [(p, .lst xs)] → GAt H' g xs → g.size = nodes → Q (.ref p) H'
theorem ok_law_grove_by {P : Program} {w : World} {K : PySem.W.Frag} {mg : Str → Option Value} {base : Heap} (T : Txt K mg) : Fn P w K mg base (L2.CX P w) 2 "_law_grove_by" ["script", "first", "nodes", "roots"] (sp_law_grove_by K) := by
  refine fnOf1 T.f_law_grove_by sc_law_grove_by (fun vs H Q E h => ?_) (fun f cdv A outer s H vs Q E hr h => ⟨_, (pss_cons (ps_setLc (i := 4) (own := [("k", 6)]) (g := gName 6) rfl sc_law_grove_by.nd rfl rfl (sw_true rfl rfl rfl (by decide +kernel)) (pi_range1 rfl T.m_range (pa_cons (pv 2) pa_nil)) (blkOk_by (N := n_law_grove_by) (sc := defScope s_law_grove_by) (by decide +kernel)) (fun _ _ _ _ _ => pg_name (i := 6) sc_law_grove_by.nd rfl (Or.inl rfl)) (fun _ _ _ _ _ => pts_nil) (fun _ _ _ _ _ => (pe_lst pa_nil)))
      (pss_cons (ps_set (i := 5) sc_law_grove_by.nd rfl (Or.inl rfl) (pe_lst pa_nil))
      (pss_cons (ps_for (passes_of rfl) rfl (pi_range1 rfl T.m_range (pa_cons (pv 2) pa_nil)) (pg_name (i := 6) sc_law_grove_by.nd rfl (Or.inl rfl)) (pss_cons (ps_set (i := 7) sc_law_grove_by.nd rfl (Or.inl rfl) (pe_callF (ok_law_cell_at T) (hr.mono (by decide)) rfl passL (pa_cons (pv 0) (pa_cons (pe_op op_gAdd (pv 1) (pv 6)) pa_nil))))
      (pss_one (ps_if (PW.pt (pw_or (pt_cmpR (kEq K hr.units) (pv 6) pe_int (nomark _)) (pw_or1 (pt_cmpR (kEq K hr.units) (pe_op op_gMod (pv 7) (pv 3)) pe_int (nomark _))))) (pss_one (ps_expr (kbm K PySem.F.plainAttrs_list PySem.F.slot_list_append PySem.F.type_list_append mt_append (pv 5) (pa_cons (pv 6) pa_nil)))) (pss_one (ps_if (PW.pt (pw_and (pt_cmpR (kEq K hr.units) (pv 3) pe_int (nomark _)) (pw_and1 (pt_cmpR op_gGt (pe_op op_gMod (pv 7) pe_int) pe_int (nomark _))))) (pss_one (ps_expr (kbm K PySem.F.plainAttrs_list PySem.F.slot_list_append PySem.F.type_list_append mt_append (pe_ix (kIx K) (pv 4) pe_int (fun _ _ => rfl)) (pa_cons (pv 6) pa_nil)))) (pss_one (ps_if (pt_cmpR (kEq K hr.units) (pe_op op_gMod (pe_op op_gDiv (pv 7) pe_int) pe_int) pe_int (nomark _)) (pss_one (ps_expr (kbm K PySem.F.plainAttrs_list PySem.F.slot_list_append PySem.F.type_list_append mt_append (pe_ix (kIx K) (pv 4) (pe_op op_gSub (pv 6) pe_int) (fun _ _ => rfl)) (pa_cons (pv 6) pa_nil)))) (pss_one (ps_expr (kbm K PySem.F.plainAttrs_list PySem.F.slot_list_append PySem.F.type_list_append mt_append (pe_ix (kIx K) (pv 4) (pe_op op_gMod (pe_op op_gDiv (pv 7) pe_int) (pv 6)) (fun _ _ => rfl)) (pa_cons (pv 6) pa_nil))))))))))))
      (pss_cons (ps_set (i := 8) sc_law_grove_by.nd rfl (Or.inr rfl) (pe_lc (own := [("k", 6)]) (g := gName 6) rfl sc_law_grove_by.nd (pi_range1 rfl T.m_range (pa_cons (pv 2) pa_nil)) (blkOk_by (N := n_law_grove_by) (sc := defScope s_law_grove_by) (by decide +kernel)) (fun _ _ _ _ _ => pg_name (i := 6) sc_law_grove_by.nd rfl (Or.inl rfl)) (fun _ _ _ _ _ => pts_nil) (fun _ _ _ _ _ => (pe_tup pa_nil))))
      (pss_cons (ps_for (passes_of rfl) rfl (pi_range3 rfl T.m_range (pa_cons (pe_op op_gSub (pv 2) pe_int) (pa_cons (pe_un op_gNeg pe_int) (pa_cons (pe_un op_gNeg pe_int) pa_nil)))) (pg_name (i := 6) sc_law_grove_by.nd rfl (Or.inl rfl)) (pss_one (ps_asg (pe_callTy (kTuple K) (by rfl) T.m_tuple (by decide +kernel) (pa_cons (pe_lc (own := [("j", 9)]) (g := gName 9) rfl sc_law_grove_by.nd (kiList K (pe_ix (kIx K) (pv 4) (pv 6) (fun _ _ => rfl))) (blkOk_by (N := n_law_grove_by) (sc := defScope s_law_grove_by) (by decide +kernel)) (fun _ _ _ _ _ => pg_name (i := 9) sc_law_grove_by.nd rfl (Or.inl rfl)) (fun _ _ _ _ _ => pts_nil) (fun _ _ _ _ _ => (pe_ix (kIx K) (pv 8) (pv 9) (fun _ _ => rfl)))) pa_nil)) (pg_sub (pv 8) (pv 6) set_list))))
      (pss_one (ps_ret (pe_lc (own := [("k", 6)]) (g := gName 6) rfl sc_law_grove_by.nd (kiList K (pv 5)) (blkOk_by (N := n_law_grove_by) (sc := defScope s_law_grove_by) (by decide +kernel)) (fun _ _ _ _ _ => pg_name (i := 6) sc_law_grove_by.nd rfl (Or.inl rfl)) (fun _ _ _ _ _ => pts_nil) (fun _ _ _ _ _ => (pe_ix (kIx K) (pv 8) (pv 6) (fun _ _ => rfl))))))))))), ?_⟩)
  · obtain ⟨a, ns, first, nodes, roots, rfl, _⟩ := h
    rfl
  obtain ⟨a, ns, first, n, roots, rfl, hS, hn1, hn, hr1, hq⟩ := h
  try dsimp only [L2.cxOf]
  walk_at "s"
  refine rd_itR1 n (Int.toNat_natCast _) (by omega) (by omega) ?_
  refine lc_rng (Led.start H) fun pb Hb Lb tb => ⟨fun i H1 => ∃ A : Nat → Addr, Led H H1 ((pb, .lst ((List.range i).map fun j => .ref (A j))) :: rows i A (fun _ => [])), ⟨fun _ => 0, Lb⟩, ?_, ?_⟩
  · rintro i H1 hi ⟨A, L⟩
    walk_at "s"
    refine ⟨rfl, ?_⟩
    walk_at "s"
    refine rd_mkL L (sz (Nat.zero_le 0)) fun p H2 Lp tp => ?_
    refine rd_put1 Lp 1 rfl (by rw [List.length_map, List.length_range]; exact szl (m := 60) (by omega)) fun H3 L3 t3 => ?_
    have e1 : (List.range i).map (fun j => V.ref (if j = i then p else A j)) = (List.range i).map fun j => .ref (A j) := by
      apply List.map_congr_left
      intro j hj
      have := List.mem_range.mp hj
      rw [if_neg (by omega)]
    have e2 : rows i (fun j => if j = i then p else A j) (fun _ => []) = rows i A (fun _ => []) := by
      unfold rows
      apply List.map_congr_left
      intro j hj
      have := List.mem_range.mp hj
      show ((if j = i then p else A j), _) = _
      rw [if_neg (by omega)]
    refine ⟨fun j => if j = i then p else A j, L3.perm ?_⟩
    have e3 : rows (i + 1) (fun j => if j = i then p else A j) (fun _ => []) = rows i A (fun _ => []) ++ [(p, .lst [])] := by
      rw [← e2]
      unfold rows
      rw [List.range_succ, List.map_append]
      simp
    rw [e3, List.range_succ, List.map_append, e1]
    simp only [List.map_cons, List.map_nil, if_pos]
    have pm := (List.perm_append_comm (l₁ := rows i A fun _ => []) (l₂ := [(p, .lst [])])).cons (pb, HO.lst ((List.range i).map (fun j => V.ref (A j)) ++ [.ref p]))
    exact pm.trans (List.Perm.swap _ _ _)
  rintro H1 ⟨A, L1⟩
  walk_at "s"
  refine rd_mkL L1 (sz (Nat.zero_le 0)) fun pf H2 Lf tf => ?_
  walk_at "s"
  generalize hP : parOf ns first roots = P
  refine rd_itR1 n (Int.toNat_natCast _) (by omega) (by omega) ?_
  refine lp_rng0 (fun i σ H' => ∃ y z, σ = [some (.ref a), some (.int first), some (.int n), some (.int roots), some (.ref pb), some (.ref pf), y, z, none, none] ∧
      Led H H' ((pf, .lst ((tops P i).map fun (j : Nat) => V.int j)) :: (pb, .lst ((List.range n).map fun j => .ref (A j))) :: rows n A (chl P i))) ⟨none, none, rfl, Lf⟩ ?_ ?_
  · rintro i σ H' hi ⟨y, z, rfl, L⟩
    have hA : ∀ j, j < n → atI ((List.range n).map fun j => V.ref (A j)) (j : Int) = some (.ref (A j)) := fun j hj => atI_nat (by rw [List.getElem?_map, List.getElem?_range hj]; rfl)
    have fin : ∀ p H2 (σ2 : L2.St), P i = some p → (∃ y z, σ2 = [some (.ref a), some (.int first), some (.int n), some (.int roots), some (.ref pb), some (.ref pf), y, z, none, none]) → 
        Led H H2 (((pf, .lst ((tops P i).map fun (j : Nat) => V.int j)) :: (pb, .lst ((List.range n).map fun j => .ref (A j))) :: rows n A (chl P i)).set (p + 2) (A p, .lst ((chl P i p).map (fun (j : Nat) => V.int j) ++ [.int i]))) →
        ∃ y z, σ2 = [some (.ref a), some (.int first), some (.int n), some (.int roots), some (.ref pb), some (.ref pf), y, z, none, none] ∧
          Led H H2 ((pf, .lst ((tops P (i + 1)).map fun (j : Nat) => V.int j)) :: (pb, .lst ((List.range n).map fun j => .ref (A j))) :: rows n A (chl P (i + 1))) := by
      rintro p H2 σ2 hp ⟨y, z, rfl⟩ L3
      have hlt := parOf_lt (hP ▸ hp)
      refine ⟨y, z, rfl, L3.to ?_⟩
      rw [tops_other hp, ← rows_set (k := i) (show p < n by omega) (chl_same hp) fun j hj => chl_other fun z => hj (Option.some.inj (z.symm.trans hp))]
      rfl
    have put : ∀ p H2 (R : Hp → Prop), p < n → Led H H2 ((pf, .lst ((tops P i).map fun (j : Nat) => V.int j)) :: (pb, .lst ((List.range n).map fun j => .ref (A j))) :: rows n A (chl P i)) →
        (∀ H3, Led H H3 (((pf, .lst ((tops P i).map fun (j : Nat) => V.int j)) :: (pb, .lst ((List.range n).map fun j => .ref (A j))) :: rows n A (chl P i)).set (p + 2) (A p, .lst ((chl P i p).map (fun (j : Nat) => V.int j) ++ [.int i]))) → R H3) → rAppend (.ref (A p)) [.int i] H2 (fun _ H3 => R H3) := by
      intro p H2 R hp L3 k
      refine rd_append L3 (p + 2) (rows_at hp) (by rw [List.length_map]; have := chl_len P i p; exact szl (m := 60) (by omega)) fun H3 L4 _ => k H3 L4
    have hrow : ∀ p, p < n → ∃ xs, SqL K H' (A p) xs := fun p hp => ⟨_, SqL.of (L.get (p + 2) (rows_at hp))⟩
    have hPi : P i = parOf ns first roots i := by rw [hP]
    unfold parOf at hPi
    walk_at "s"
    refine ⟨a, ns, first + i, rfl, L.seq hS, ?_⟩
    walk_at "s"
    have hzf : ((tops P i).map fun (j : Nat) => V.int j).length < sizeLine := by
      rw [List.length_map]
      have := tops_len P i
      exact szl (m := 60) (by omega)
    have finN : ∀ H2 (σ2 : List (Option V)), P i = none → (∃ y z, σ2 = [some (.ref a), some (.int first), some (.int n), some (.int roots), some (.ref pb), some (.ref pf), y, z, none, none]) →
        Led H H2 (((pf, .lst ((tops P i).map fun (j : Nat) => V.int j)) :: (pb, .lst ((List.range n).map fun j => .ref (A j))) :: rows n A (chl P i)).set 0 (pf, .lst ((tops P i).map (fun (j : Nat) => V.int j) ++ [.int i]))) →
        ∃ y z, σ2 = [some (.ref a), some (.int first), some (.int n), some (.int roots), some (.ref pb), some (.ref pf), y, z, none, none] ∧
          Led H H2 ((pf, .lst ((tops P (i + 1)).map fun (j : Nat) => V.int j)) :: (pb, .lst ((List.range n).map fun j => .ref (A j))) :: rows n A (chl P (i + 1))) := by
      rintro H2 σ2 hp ⟨y, z, rfl⟩ L3
      refine ⟨y, z, rfl, L3.to ?_⟩
      rw [tops_same hp, List.map_append]
      have e := rows_congr (n := n) (A := A) (B := chl P i) (C := chl P (i + 1)) fun j _ => (chl_other (by rw [hp]; exact fun z => nomatch z)).symm
      rw [← e]
      rfl
    refine ited (fun c1 => ?_) (fun c1 => ?_)
    · walk_at "s"
      refine rd_append L 0 rfl hzf fun H3 L3 t3 => finN H3 _ ?_ ⟨_, _, rfl⟩ L3
      rw [hPi, if_pos (.inl (by omega))]
    walk_at "s"
    refine ited (fun c2 => ?_) (fun c2 => ?_)
    · walk_at "s"
      refine rd_append L 0 rfl hzf fun H3 L3 t3 => finN H3 _ ?_ ⟨_, _, rfl⟩ L3
      rw [hPi, if_pos (.inr c2)]
    rw [if_neg (by omega)] at hPi
    walk_at "s"
    refine ited ?gx ?gy
    case' gx =>
      intro c3
      walk_at "s"
      refine ited ?gp ?gq
      case gp =>
        intro c4
        rw [if_pos ⟨c3, c4⟩] at hPi
        have hlt := parOf_lt (hP ▸ hPi)
        obtain ⟨xs0, hx0⟩ := hrow 0 (by omega)
        walk_at "s"
        refine rd_ixL (L.sq 1) (hA 0 (by omega)) ?_
        refine rd_ty hx0 ?_
        walk_at "s"
        exact put 0 H' _ (by omega) L fun H3 L3 => fin 0 H3 _ hPi ⟨_, _, rfl⟩ L3
    all_goals
      intro c5
      rw [if_neg (by omega)] at hPi
      walk_at "s"
      refine ited (fun c6 => ?_) (fun c6 => ?_)
      · rw [if_pos c6] at hPi
        have hlt := parOf_lt (hP ▸ hPi)
        obtain ⟨xs0, hx0⟩ := hrow (i - 1) (by omega)
        walk_at "s"
        have e : (i : Int) - 1 = ((i - 1 : Nat) : Int) := by omega
        rw [e]
        refine rd_ixL (L.sq 1) (hA (i - 1) (by omega)) ?_
        refine rd_ty hx0 ?_
        walk_at "s"
        exact put (i - 1) H' _ (by omega) L fun H3 L3 => fin (i - 1) H3 _ hPi ⟨_, _, rfl⟩ L3
      · rw [if_neg c6] at hPi
        have hlt := parOf_lt (hP ▸ hPi)
        have h1 := Int.emod_nonneg (cell ns (first + i) / 192) (b := i) (by omega)
        obtain ⟨xs0, hx0⟩ := hrow (cell ns (first + i) / 192 % i).toNat (by omega)
        walk_at "s"
        have e : cell ns (first + i) / 192 % i = ((cell ns (first + i) / 192 % i).toNat : Int) := by omega
        rw [e]
        refine rd_ixL (L.sq 1) (hA _ (by omega)) ?_
        refine rd_ty hx0 ?_
        walk_at "s"
        exact put _ H' _ (by omega) L fun H3 L3 => fin _ H3 _ hPi ⟨_, _, rfl⟩ L3
  rintro σ H' ⟨y, z, rfl, L⟩
  walk_at "s"
  refine rd_itR1 n (Int.toNat_natCast _) (by omega) (by omega) ?_
  refine lc_rng L fun pt Ht Lt tt => ⟨fun i H1 => ∃ vs : List V, vs.length = i ∧ Led H H1 ((pt, .lst vs) :: (pf, .lst ((tops P n).map fun (j : Nat) => V.int j)) :: (pb, .lst ((List.range n).map fun j => .ref (A j))) :: rows n A (chl P n)), ⟨[], rfl, Lt⟩, ?_, ?_⟩
  · rintro i H1 hi ⟨vs, hvs, L1⟩
    walk_at "s"
    refine ⟨rfl, ?_⟩
    walk_at "s"
    refine rd_mkT L1 (sz (Nat.zero_le 0)) fun p H2 Lp tp => ?_
    refine rd_put1 Lp 1 rfl (szl (m := 60) (by omega)) fun H3 L3 t3 => ⟨vs ++ [.ref p], by rw [List.length_append, hvs]; rfl, L3.tail.to rfl⟩
  rintro H2 ⟨vs, hvs, L2t⟩
  walk_at "s"
  refine rd_itRd n (by omega) (by omega) (by omega) (by omega) (by omega) ?_
  refine lp_rngC (fun i σ H' => ∃ y z v9 ws T, i ≤ n ∧ ws.length = n ∧ σ = [some (.ref a), some (.int first), some (.int n), some (.int roots), some (.ref pb), some (.ref pf), y, z, some (.ref pt), v9] ∧
      Led H H' ((pt, .lst ws) :: (pf, .lst ((tops P n).map fun (j : Nat) => V.int j)) :: (pb, .lst ((List.range n).map fun j => .ref (A j))) :: rows n A (chl P n)) ∧
      ∀ j, n - i ≤ j → j < n → GAt H' (.cons (T j) .nil) [ws.getD j .non] ∧ T j = ofl T (chl P n j)) ⟨_, _, _, vs, fun _ => .nil, Nat.zero_le _, hvs, rfl, L2t, fun j h1 h2 => by omega⟩ ?_ ?_
  · rintro i σ H3 hi ⟨y, z, v9, ws, T, hi2, hws, rfl, L3, hT⟩
    have ek : ((n : Int) - 1 + (i : Nat) * -1) = ((n - 1 - i : Nat) : Int) := by omega
    rw [ek]
    generalize hk : n - 1 - i = k
    walk_at "s"
    refine rd_ixL (L3.sq 2) (atI_nat (by rw [List.getElem?_map, List.getElem?_range (show k < n by omega)]; rfl)) ?_
    have hrow := L3.get (k + 3) (rows_at (show k < n by omega))
    have e2 : (chl P n k).map (fun (j : Nat) => V.int j) = ((chl P n k).map fun (j : Nat) => (j : Int)).map V.int := by rw [List.map_map]; rfl
    rw [e2] at hrow
    refine rd_itL (SqL.of hrow) ?_
    refine lc_mapI (ns := (chl P n k).map fun (j : Nat) => (j : Int)) (fun j => ws.getD j.toNat .non) L3 (fun H4 t4 s4 l1 L4 => ?_) ?_ ?_
    · have := (L4.drop1).get (k + 3) (rows_at (show k < n by omega))
      rw [e2] at this
      exact SqL.of this
    · intro j m D H4 hj L4 t4
      rw [List.getElem?_map] at hj
      cases hc : (chl P n k)[j]? with
      | none => rw [hc] at hj; cases hj
      | some c =>
        have hcm := chl_mem (List.mem_of_getElem? hc)
        have hjl := (List.getElem?_eq_some_iff.mp hc).1
        have := chl_len P n k
        rw [hc] at hj
        cases hj
        walk_at "s"
        refine ⟨rfl, ?_⟩
        walk_at "s"
        refine rd_ixL (L4.sq 1) (atI_nat (j := c) (v := ws.getD c .non) ?_) ?_
        · rw [List.getD_eq_getElem?_getD, List.getElem?_eq_getElem (by omega)]
          rfl
        · exact rd_mapIEnd [] L4 t4 (by rw [List.getElem?_map, hc]; rfl) (by omega) (by rw [Int.toNat_natCast])
    · intro D H4 L4 t4
      walk_at "s"
      refine rd_tuple L4 (L4.sq 0) fun q H5 L5 t5 => ?_
      walk_at "s"
      refine rd_setL L5 2 rfl (show k < ws.length by omega) fun H6 L6 t6 => ?_
      have tz := (t4.trans t5).trans t6
      have hq6 : H6 q = some (.tup (((chl P n k).map fun (j : Nat) => (j : Int)).map fun j => ws.getD j.toNat .non)) := t6 _ _ (L5.get 0)
      refine ⟨_, _, _, ws.set k (.ref q), fun j => if j = k then ofl T (chl P n k) else T j, by omega, by rw [List.length_set]; exact hws, rfl, L6.drop1 (m := [_, _]), ?_⟩
      have hTc : ∀ j, n - (i + 1) ≤ j → j < n → ofl (fun j => if j = k then ofl T (chl P n k) else T j) (chl P n j) = ofl T (chl P n j) := fun j h1 h2 => ofl_congr fun c hc => by
        have := parOf_lt (hP ▸ (chl_mem hc).2)
        show (if c = k then _ else T c) = T c
        rw [if_neg (by omega)]
      intro j h1 h2
      rw [hTc j h1 h2]
      by_cases hj : j = k
      · subst hj
        refine ⟨?_, if_pos rfl⟩
        show GAt H6 (.cons (if j = j then _ else _) .nil) _
        rw [if_pos rfl, List.getD_eq_getElem?_getD, List.getElem?_set, if_pos rfl, if_pos (by omega)]
        refine GAt.one hq6 ?_
        rw [List.map_map]
        refine GAt.ofl fun c hc => ?_
        have h3 := parOf_lt (hP ▸ (chl_mem hc).2)
        have h4 := (chl_mem hc).1
        exact ((hT c (by omega) h4).1).mono tz
      · have h5 := hT j (by omega) h2
        refine ⟨?_, ?_⟩
        · show GAt H6 (.cons (if j = k then _ else _) .nil) _
          rw [if_neg hj, List.getD_eq_getElem?_getD, List.getElem?_set, if_neg (Ne.symm hj), ← List.getD_eq_getElem?_getD]
          exact h5.1.mono tz
        · show (if j = k then _ else _) = _
          rw [if_neg hj]
          exact h5.2
  · rintro σ H3 ⟨y, z, v9, ws, T, hi2, hws, rfl, L3, hT⟩
    have e2 : (tops P n).map (fun (j : Nat) => V.int j) = ((tops P n).map fun (j : Nat) => (j : Int)).map V.int := by rw [List.map_map]; rfl
    rw [e2] at L3
    walk_at "s"
    refine lc_mapI (ns := (tops P n).map fun (j : Nat) => (j : Int)) (fun j => ws.getD j.toNat .non) L3 (fun H4 t4 s4 l1 L4 => (L4.drop1).sq 1) ?_ ?_
    · intro j m D H4 hj L4 t4
      rw [List.getElem?_map] at hj
      cases hc : (tops P n)[j]? with
      | none => rw [hc] at hj; cases hj
      | some c =>
        have hcm : c < n := by
          have := List.mem_of_getElem? hc
          unfold tops at this
          exact List.mem_range.mp (List.mem_filter.mp this).1
        have hjl := (List.getElem?_eq_some_iff.mp hc).1
        have := tops_len P n
        rw [hc] at hj
        cases hj
        walk_at "s"
        refine ⟨rfl, ?_⟩
        walk_at "s"
        refine rd_ixL (L4.sq 1) (atI_nat (j := c) (v := ws.getD c .non) ?_) ?_
        · rw [List.getD_eq_getElem?_getD, List.getElem?_eq_getElem (by omega)]
          rfl
        · exact rd_mapIEnd [] L4 t4 (by rw [List.getElem?_map, hc]; rfl) (by omega) (by rw [Int.toNat_natCast])
    · intro D H4 L4 t4
      refine hq D _ (ofl T (tops P n)) H4 L4.only ?_ ?_
      · rw [List.map_map]
        refine GAt.ofl fun c hc => ?_
        have hcm : c < n := by
          unfold tops at hc
          exact List.mem_range.mp (List.mem_filter.mp hc).1
        exact ((hT c (by omega) hcm).1).mono t4
      · exact grove_size P T (fun c hc p hp => by have := parOf_lt (hP ▸ hp); omega) fun j hj => (hT j (by omega) hj).2
end Tr
namespace Tr
open PySem PySem.Spec PyProof.Rows L2
def sp_law_whole (K : PySem.W.Frag) : Sp := fun vs H Q _ => ∃ n : Int, vs = [.int n] ∧ Q (.bl true) H
theorem ok_law_whole {P : Program} {w : World} {K : PySem.W.Frag} {mg : Str → Option Value} {base : Heap} (T : Txt K mg) : Fn P w K mg base (L2.CX P w) 1 "_law_whole" ["found"] (sp_law_whole K) := by
  refine fnOf1 T.f_law_whole sc_law_whole (fun vs H Q E h => ?_) (fun f cdv A outer s H vs Q E hr h => ⟨_, (pss_one (ps_ret (pe_and (pe_callB (kIsi K) (by rfl) T.m_isinstance (by decide +kernel) (pa_cons (pv 0) (pa_cons (pe_bltn (v := .ty "int") rfl T.m_int (by decide +kernel) rfl) pa_nil))) (pe_one (pe_not (pe_callB (kIsi K) (by rfl) T.m_isinstance (by decide +kernel) (pa_cons (pv 0) (pa_cons (pe_bltn (v := .ty "bool") rfl T.m_bool (by decide +kernel) rfl) pa_nil)))))))), ?_⟩)
  · obtain ⟨n, rfl, _⟩ := h
    rfl
  obtain ⟨n, rfl, hq⟩ := h
  try dsimp only [L2.cxOf]
  walk_at "s"
  refine rd_isi (t := .type "int") (b := true) (.base (.int n)) (kit_ty (by decide +kernel)) ?_
  walk_at "s"
  refine rd_isi (t := .type "int") (b := false) (.base (.int n)) (kit_ty (by decide +kernel)) ?_
  walk_at "s"
  exact hq
end Tr
namespace Tr
open PySem PySem.Spec PyProof.Rows L2
def sp_law_numbers (K : PySem.W.Frag) : Sp := fun vs H Q _ => ∃ (p q : Addr) (ns ms : List Int), vs = [.ref p, .ref q] ∧ H p = some (.lst (ns.map V.int)) ∧ SqL K H q (ms.map V.int) ∧ newV H Q (.bl (decide (ns = ms)))
theorem ok_law_numbers {P : Program} {w : World} {K : PySem.W.Frag} {mg : Str → Option Value} {base : Heap} (T : Txt K mg) : Fn P w K mg base (L2.CX P w) 2 "_law_numbers" ["found", "due"] (sp_law_numbers K) := by
  refine fnOf1 T.f_law_numbers sc_law_numbers (fun vs H Q E h => ?_) (fun f cdv A outer s H vs Q E hr h => ⟨_, (pss_cons (ps_if (pt_not (pt_val (pe_callB (kIsi K) (by rfl) T.m_isinstance (by decide +kernel) (pa_cons (pv 0) (pa_cons (pe_bltn (v := .ty "list") rfl T.m_list (by decide +kernel) rfl) pa_nil))))) (pss_one (ps_ret pe_bl)) pss_nil)
      (pss_cons (ps_for (passes_of rfl) rfl (kiList K (pv 0)) (pg_name (i := 2) sc_law_numbers.nd rfl (Or.inl rfl)) (pss_one (ps_if (pt_not (pt_val (pe_callF (ok_law_whole T) (hr.mono (by decide)) rfl passL (pa_cons (pv 2) pa_nil)))) (pss_one (ps_ret pe_bl)) pss_nil)))
      (pss_one (ps_ret (pe_cmpR (kEq K hr.units) (pv 0) (pv 1) (nomark _)))))), ?_⟩)
  · obtain ⟨p, q, ns, ms, rfl, _⟩ := h
    rfl
  obtain ⟨p, q, ns, ms, rfl, hP, hQ, hq⟩ := h
  try dsimp only [L2.cxOf]
  have hS : SqL K H p (ns.map V.int) := SqL.of hP
  walk_at "s"
  refine rd_isi (t := .type "list") (b := true) (.base (.lst hP)) (kit_ty (by decide +kernel)) ?_
  walk_at "s"
  refine lp_ints (ns := ns) (fun i σ H' => ∃ y, σ = [some (.ref p), some (.ref q), y] ∧ H' = H) ⟨none, rfl, rfl⟩ (fun i σ H' _ ⟨_, _, e⟩ => e ▸ hS) ?_ ?_
  · rintro i n σ H' hi ⟨y, rfl, rfl⟩
    walk_at "s"
    refine ⟨n, rfl, ?_⟩
    walk_at "s"
    exact ⟨_, rfl, rfl⟩
  · rintro σ H' ⟨y, rfl, rfl⟩
    walk_at "s"
    exact rd_eqL hS hQ (hq _ (Led.start _))
end Tr
namespace Tr
open PySem PySem.Spec PyProof.Rows L2
def sp_law_lists (K : PySem.W.Frag) : Sp := fun vs H Q _ => ∃ (a : Addr) (cs : List Nat), vs = [.ref a] ∧ SqL K H a ((ci cs).map V.int) ∧ cs.length ≤ 8 ∧ cs.sum ≤ 8 ∧
  ∀ (p : Addr) (fs : List (Addr × List Nat)) (H' : Hp), Led H H' ((p, HO.lst (refs fs)) :: fdL fs) → fs.map (·.2) = lvl cs cs.sum → Q (.ref p) H'
theorem ci_ixL {cs : List Nat} {l : Nat} (h : l < cs.length) : atI ((ci cs).map V.int) (l : Int) = some (.int (cs.getD l 0 : Nat)) := by
  have := at_int (ls := ci cs) (k := (l : Int)) (by omega) (by rw [ci_len]; omega)
  rw [Int.toNat_natCast, ci_at] at this
  exact this
theorem take_flat {cs : List Nat} {ls : List (List Nat)} {i : Nat} {one : List Nat} (h : ls[i]? = some one) : ((ls.take (i + 1)).flatMap fun o => ext cs o cs.length) = ((ls.take i).flatMap fun o => ext cs o cs.length) ++ ext cs one cs.length := by
  rw [List.take_add_one, h, Option.toList_some, List.flatMap_append]
  simp
theorem ok_law_lists {P : Program} {w : World} {K : PySem.W.Frag} {mg : Str → Option Value} {base : Heap} (T : Txt K mg) : Fn P w K mg base (L2.CX P w) 1 "_law_lists" ["counts"] (sp_law_lists K) := by
  refine fnOf1 T.f_law_lists sc_law_lists (fun vs H Q E h => ?_) (fun f cdv A outer s H vs Q E hr h => ⟨_, (pss_cons (ps_set (i := 1) sc_law_lists.nd rfl (Or.inl rfl) (pe_lst (pa_cons (pe_lst pa_nil) pa_nil)))
      (pss_cons (ps_for (passes_of rfl) rfl (pi_range1 rfl T.m_range (pa_cons (pe_callB (kSum K rfl) (by rfl) T.m_sum (by decide +kernel) (pa_cons (pv 0) pa_nil)) pa_nil)) (pg_name (i := 2) sc_law_lists.nd rfl (Or.inl rfl)) (pss_cons (ps_set (i := 3) sc_law_lists.nd rfl (Or.inl rfl) (pe_lst pa_nil))
      (pss_cons (ps_for (passes_of rfl) rfl (kiList K (pv 1)) (pg_name (i := 4) sc_law_lists.nd rfl (Or.inl rfl)) (pss_one (ps_for (passes_of rfl) rfl (pi_range1 rfl T.m_range (pa_cons (pe_callB (kLen K) (by rfl) T.m_len (by decide +kernel) (pa_cons (pv 0) pa_nil)) pa_nil)) (pg_name (i := 5) sc_law_lists.nd rfl (Or.inl rfl)) (pss_one (ps_if (pt_cmpR op_gLt (kbm K PySem.F.plainAttrs_list PySem.F.slot_list_count PySem.F.type_list_count (kCount K) (pv 4) (pa_cons (pv 5) pa_nil)) (pe_ix (kIx K) (pv 0) (pv 5) (fun _ _ => rfl)) (nomark _)) (pss_one (ps_expr (kbm K PySem.F.plainAttrs_list PySem.F.slot_list_append PySem.F.type_list_append mt_append (pv 3) (pa_cons (pe_op op_gAdd (pv 4) (pe_lst (pa_cons (pv 5) pa_nil))) pa_nil)))) pss_nil)))))
      (pss_one (ps_set (i := 1) sc_law_lists.nd rfl (Or.inl rfl) (pv 3))))))
      (pss_one (ps_ret (pv 1))))), ?_⟩)
  · obtain ⟨a, cs, rfl, _⟩ := h
    rfl
  obtain ⟨a, cs, rfl, hS, hl, h8, hq⟩ := h
  try dsimp only [L2.cxOf]
  walk_at "s"
  refine rd_mkL (Led.start H) (sz (Nat.zero_le 0)) fun p0 H1 L1 _ => ?_
  walk_at "s"
  refine rd_mkL L1 (sz (Nat.le_refl 1)) fun p1 H2 L2 _ => ?_
  walk_at "s"
  refine rd_sum (L2.seq hS) ?_
  rw [ci_sum]
  walk_at "s"
  refine rd_itR1 cs.sum (Int.toNat_natCast _) (by omega) (by omega) ?_
  refine lp_rng0 (fun i σ H' => ∃ (pl : Addr) (fs : List (Addr × List Nat)) (y z v u : Option V), σ = [some (.ref a), some (.ref pl), y, z, v, u] ∧ Led H H' ((pl, HO.lst (refs fs)) :: fdL fs) ∧ fs.map (·.2) = lvl cs i) ⟨p1, [(p0, [])], none, none, none, none, rfl, L2, rfl⟩ ?_ ?_
  · rintro i σ H3 hi ⟨pl, fs, y, z, v, u, rfl, L3, hfs⟩
    have hlv := lvl_len hl i
    have hp7 : 8 ^ i ≤ 8 ^ 7 := Nat.pow_le_pow_right (by decide) (by omega)
    have hp7' : (8 : Nat) ^ 7 = 2097152 := by decide
    have hfl : fs.length = (lvl cs i).length := by rw [← hfs, List.length_map]
    walk_at "s"
    refine rd_mkL L3 (sz (Nat.zero_le 0)) fun pn H4 L4 _ => ?_
    walk_at "s"
    refine lp_list (xs := refs fs) (fun ii σ H' => ∃ (gs : List (Addr × List Nat)) (v u : Option V), σ = [some (.ref a), some (.ref pl), some (.int i), some (.ref pn), v, u] ∧ Led H H' ((pn, HO.lst (refs gs)) :: (fdL gs ++ ((pl, HO.lst (refs fs)) :: fdL fs))) ∧
      gs.map (·.2) = ((lvl cs i).take ii).flatMap fun o => ext cs o cs.length) ⟨[], v, u, rfl, L4, rfl⟩ (fun ii σ H' _ ⟨gs, _, _, _, L, _⟩ => by
        have L' := L.tail.drop1
        exact L'.sq 0) ?_ ?_
    · rintro ii x σ H5 hx ⟨gs, v, u, rfl, L5, hgs⟩
      obtain ⟨f, hf, rfl⟩ := refs_at hx
      have hfm := List.mem_of_getElem? hf
      have hil := (List.getElem?_eq_some_iff.mp hf).1
      have hlf : (lvl cs i)[ii]? = some f.2 := by
        rw [← hfs, List.getElem?_map, hf]
        rfl
      have hgl : gs.length ≤ ii * 8 := by
        have h1 := flat_len cs ((lvl cs i).take ii)
        rw [← hgs, List.length_map] at h1
        have h2 : ((lvl cs i).take ii).length * cs.length ≤ ii * 8 := Nat.mul_le_mul (by rw [List.length_take]; exact Nat.min_le_left _ _) hl
        omega
      walk_at "s"
      rw [List.length_map, ci_len]
      refine rd_itR1 cs.length (Int.toNat_natCast _) (by omega) (by omega) ?_
      refine lp_rng0 (fun j σ H' => ∃ (gs : List (Addr × List Nat)) (u : Option V), σ = [some (.ref a), some (.ref pl), some (.int i), some (.ref pn), some (.ref f.1), u] ∧ Led H H' ((pn, HO.lst (refs gs)) :: (fdL gs ++ ((pl, HO.lst (refs fs)) :: fdL fs))) ∧
        gs.map (·.2) = (((lvl cs i).take ii).flatMap fun o => ext cs o cs.length) ++ ext cs f.2 j) ⟨gs, u, rfl, L5, by rw [hgs]; simp [ext]⟩ ?_ ?_
      · rintro j σ H6 hj ⟨gs, u, rfl, L6, hgs6⟩
        have hgl6 : gs.length < 16777216 := by
          have h1 := congrArg List.length hgs6
          have h2 := ext_len cs f.2 j
          have h3 := congrArg List.length hgs
          rw [List.length_map, List.length_append, ← h3, List.length_map] at h1
          omega
        have hg1 : H6 f.1 = some (.lst ((ci f.2).map V.int)) := L6.has _ (List.mem_cons_of_mem _ (List.mem_append_right _ (List.mem_cons_of_mem _ (fdL_mem hfm))))
        have hs1 : SqL K H6 f.1 ((ci f.2).map V.int) := SqL.of hg1
        have hc8 : (ci f.2).length ≤ 100 := by
          have := (mem_lvl.mp (List.mem_of_getElem? hlf)).1
          rw [ci_len]
          omega
        walk_at "s"
        refine rd_count hs1 ?_
        rw [ci_count]
        walk_at "s"
        refine rd_ixL (L6.seq hS) (ci_ixL hj) ?_
        walk_at "s"
        refine ited (fun c => ?_) (fun c => ?_)
        · have c' : f.2.count j < cs.getD j 0 := by omega
          walk_at "s"
          refine rd_mkL L6 (sz (Nat.le_refl 1)) fun p7 H7 L7 _ => ?_
          have hg2 : H7 f.1 = some (.lst ((ci f.2).map V.int)) := L7.has _ (List.mem_cons_of_mem _ (List.mem_cons_of_mem _ (List.mem_append_right _ (List.mem_cons_of_mem _ (fdL_mem hfm)))))
          refine rd_addL L7 hg2 (L7.get 0) (sz (m := 200) (by rw [List.length_map]; show _ + 1 ≤ 200; omega)) fun q H8 L8 _ => ?_
          walk_at "s"
          refine rd_append L8 2 rfl (by rw [refs_len, sizeLine_eq]; exact hgl6) fun H9 L9 _ => ?_
          have L9' : Led H H9 ((q, HO.lst ((ci (f.2 ++ [j])).map V.int)) :: (pn, HO.lst (refs (gs ++ [(q, f.2 ++ [j])]))) :: (fdL gs ++ ((pl, HO.lst (refs fs)) :: fdL fs))) :=
            (L9.sub (List.Sublist.cons_cons _ (List.Sublist.cons _ (List.Sublist.refl _)))).to (by
              rw [refs_snoc]
              unfold ci
              rw [List.map_append, List.map_append]
              rfl)
          refine ⟨gs ++ [(q, f.2 ++ [j])], some (.int (j : Nat)), rfl, L9'.perm fds_perm, ?_⟩
          rw [List.map_append, hgs6, ext_succ, if_pos c', ← List.append_assoc]
          rfl
        · have c' : ¬ f.2.count j < cs.getD j 0 := by omega
          walk_at "s"
          refine ⟨gs, some (.int (j : Nat)), rfl, L6, ?_⟩
          rw [hgs6, ext_succ, if_neg c', List.append_nil]
      · rintro σ H6 ⟨gs, u, rfl, L6, hgs6⟩
        exact ⟨gs, _, u, rfl, L6, by rw [hgs6, take_flat hlf]⟩
    · rintro σ H5 ⟨gs, v, u, rfl, L5, hgs⟩
      walk_at "s"
      refine ⟨pn, gs, _, _, v, u, rfl, L5.sub (List.Sublist.cons_cons _ (List.sublist_append_left _ _)), ?_⟩
      rw [hgs, refs_len, hfl, List.take_length]
      rfl
  · rintro σ H3 ⟨pl, fs, y, z, v, u, rfl, L3, hfs⟩
    walk_at "s"
    exact hq pl fs H3 L3 hfs
end Tr
namespace Tr
open PySem PySem.Spec PyProof.Rows L2
def sp_law_is_word (K : PySem.W.Frag) : Sp := fun vs H Q _ => ∃ (a : Addr) (ns : List Int), vs = [.ref a] ∧ SqL K H a (ns.map V.int) ∧ newV H Q (.bl (isWB ns))
theorem ok_law_is_word {P : Program} {w : World} {K : PySem.W.Frag} {mg : Str → Option Value} {base : Heap} (T : Txt K mg) : Fn P w K mg base (L2.CX P w) 1 "_law_is_word" ["numbers"] (sp_law_is_word K) := by
  refine fnOf1 T.f_law_is_word sc_law_is_word (fun vs H Q E h => ?_) (fun f cdv A outer s H vs Q E hr h => ⟨_, (pss_cons (ps_set (i := 1) sc_law_is_word.nd rfl (Or.inl rfl) pe_int)
      (pss_cons (ps_for (passes_of rfl) rfl (kiList K (pv 0)) (pg_name (i := 2) sc_law_is_word.nd rfl (Or.inl rfl)) (pss_cons (ps_if (pt_cmpR op_gLt (pv 2) pe_int (nomark _)) (pss_one (ps_ret pe_bl)) pss_nil)
      (pss_cons (ps_if (pt_cmpR (kEq K hr.units) (pv 1) pe_int (nomark _)) (pss_one (ps_set (i := 1) sc_law_is_word.nd rfl (Or.inl rfl) pe_int)) pss_nil)
      (pss_one (ps_set (i := 1) sc_law_is_word.nd rfl (Or.inl rfl) (pe_op op_gAdd (pe_op op_gSub (pv 1) pe_int) (pv 2)))))))
      (pss_one (ps_ret (pe_and (pe_cmpR op_gGt (pe_callB (kLen K) (by rfl) T.m_len (by decide +kernel) (pa_cons (pv 0) pa_nil)) pe_int (nomark _)) (pe_one (pe_cmpR (kEq K hr.units) (pv 1) pe_int (nomark _)))))))), ?_⟩)
  · obtain ⟨a, ns, rfl, _⟩ := h
    rfl
  obtain ⟨a, ns, rfl, hS, hq⟩ := h
  try dsimp only [L2.cxOf]
  walk_at "s"
  refine lp_ints (ns := ns) (fun i σ H' => ∃ y, σ = [some (.ref a), some (.int (pendR (ns.take i).reverse)), y] ∧ H' = H ∧ ∀ n ∈ ns.take i, 0 ≤ n) ⟨none, rfl, rfl, by simp⟩ (fun i σ H' _ ⟨_, _, e, _⟩ => e ▸ hS) ?_ ?_
  · rintro i n σ H' hi ⟨y, rfl, rfl, hk⟩
    walk_at "s"
    refine ited (fun c => ?_) (fun c => ?_)
    · walk_at "s"
      have e : isWB ns = false := by
        cases h : isWB ns with
        | false => rfl
        | true =>
          have := ((okW_iff ns).mp (isWB_iff.mp h).2).1 n (mem_take hi)
          omega
      rw [e] at hq
      exact hq _ (Led.start _)
    walk_at "s"
    have h0 := pendR_nn (l := (ns.take i).reverse) fun n hn => hk n (List.mem_reverse.mp hn)
    refine if_asg rfl ?_
    have e : (if pendR (ns.take i).reverse = 0 then V.int 1 else V.int (pendR (ns.take i).reverse)) = V.int (max (pendR (ns.take i).reverse - 1) 0 + 1) := by
      split <;> (congr 1; omega)
    rw [e]
    walk_at "s"
    have e2 : pendR (ns.take (i + 1)).reverse = max (pendR (ns.take i).reverse - 1) 0 + 1 - 1 + n := by
      rw [List.take_add_one, hi, Option.toList_some, List.reverse_append, List.reverse_singleton, List.singleton_append, pendR]
      omega
    refine ⟨_, by rw [e2]; rfl, rfl, fun m hm => ?_⟩
    rw [List.take_add_one, hi] at hm
    rcases List.mem_append.mp hm with hm | hm
    · exact hk m hm
    · have e : m = n := by simpa using hm
      subst e
      omega
  · rintro σ H' ⟨y, rfl, rfl, hk⟩
    rw [List.take_length] at hk ⊢
    rw [isWB_pend hk] at hq
    walk_at "s"
    rw [List.length_map]
    refine ited (fun c => ?_) (fun c => ?_)
    · walk_at "s"
      rw [decide_eq_true (show 0 < ns.length by omega)] at hq
      exact hq _ (Led.start _)
    · walk_at "s"
      rw [decide_eq_false (show ¬ 0 < ns.length by omega)] at hq
      exact hq _ (Led.start _)
end Tr
namespace Tr
open PySem PySem.Spec PyProof.Rows L2
def sp_law (K : PySem.W.Frag) : Sp := fun vs H Q _ => ∃ (a : Addr) (ns : List Int), vs = [.ref a] ∧ SqL K H a (ns.map V.int) ∧ ns.length ≤ 63 ∧ ∀ H', Q (.bl true) H'
/-- noughts behind -/
def more0 (cs : List Nat) (k : Nat) : List Nat := cs ++ (List.range k).map fun _ => 0
theorem more0_at (cs : List Nat) (k l : Nat) : (more0 cs k).getD l 0 = cs.getD l 0 := by
  unfold more0
  rw [List.getD_eq_getElem?_getD, List.getD_eq_getElem?_getD]
  by_cases h1 : l < cs.length
  · rw [List.getElem?_append_left h1]
  · rw [List.getElem?_eq_none (l := cs) (by omega), List.getElem?_append_right (by omega), List.getElem?_map]
    cases (List.range k)[l - cs.length]? <;> rfl
theorem more0_ci (cs : List Nat) (k : Nat) : (ci cs).map V.int ++ (List.range k).map (fun _ => V.int 0) = (ci (more0 cs k)).map V.int := by
  unfold more0 ci
  rw [List.map_append, List.map_append, List.map_map, List.map_map, List.map_map]
  rfl
theorem ok_law {P : Program} {w : World} {K : PySem.W.Frag} {mg : Str → Option Value} {base : Heap} (T : Txt K mg) : Fn P w K mg base (L2.CX P w) 72 "law" ["script"] (sp_law K) := by
  refine fnOf1 T.f_law sc_law (fun vs H Q E h => ?_) (fun f cdv A outer s H vs Q E hr h => ⟨_, (pss_cons (ps_set (i := 1) sc_law.nd rfl (Or.inl rfl) (pe_ix (kIx K) (pe_lst (pa_cons pe_int (pa_cons pe_int (pa_cons pe_int pa_nil)))) (pe_op op_gMod (pe_callF (ok_law_cell_at T) (hr.mono (by decide)) rfl passL (pa_cons (pv 0) (pa_cons pe_int pa_nil))) pe_int) (fun _ _ => rfl)))
      (pss_cons (ps_set (i := 2) sc_law.nd rfl (Or.inl rfl) (pe_callF (ok_law_words T) (hr.mono (by decide)) rfl passL (pa_cons (pe_callF (ok_law_grove_by T) (hr.mono (by decide)) rfl passL (pa_cons (pv 0) (pa_cons pe_int (pa_cons (pe_op op_gAdd pe_int (pe_op op_gMod (pe_callF (ok_law_cell_at T) (hr.mono (by decide)) rfl passL (pa_cons (pv 0) (pa_cons pe_int pa_nil))) pe_int)) (pa_cons (pv 1) pa_nil))))) pa_nil)))
      (pss_cons (ps_set (i := 3) sc_law.nd rfl (Or.inl rfl) (pe_callF (ok_law_counts T) (hr.mono (by decide)) rfl passL (pa_cons (pv 2) pa_nil)))
      (pss_cons (ps_set (i := 4) sc_law.nd rfl (Or.inl rfl) (pe_lst (pa_cons (pe_callTy (kList K) (by rfl) T.m_list (by decide +kernel) (pa_cons (pv 2) pa_nil)) pa_nil)))
      (pss_cons (ps_set (i := 5) sc_law.nd rfl (Or.inl rfl) (pe_callF (ok_counts_of T) (hr.mono (by decide)) rfl passL (pa_cons (pe_ix (kIx K) (pv 4) pe_int (fun _ _ => rfl)) pa_nil)))
      (pss_cons (ps_if (PW.pt (pw_or (pt_not (pt_val (pe_callF (ok_law_numbers T) (hr.mono (by decide)) rfl passL (pa_cons (pv 5) (pa_cons (pv 3) pa_nil))))) (pw_or1 (pt_cmpR (kNe K hr.units) (pe_ix (kIx K) (pv 4) pe_int (fun _ _ => rfl)) (pv 2) (nomark _))))) (pss_one (ps_ret pe_bl)) pss_nil)
      (pss_cons (ps_set (i := 6) sc_law.nd rfl (Or.inr rfl) (pe_op op_gSub (pe_callB (kLen K) (by rfl) T.m_len (by decide +kernel) (pa_cons (pv 2) pa_nil)) (pe_callB (kSum K rfl) (by rfl) T.m_sum (by decide +kernel) (pa_cons (pv 2) pa_nil))))
      (pss_cons (ps_setLc (i := 7) (own := [("one", 11)]) (g := gName 11) rfl sc_law.nd rfl rfl (sw_true rfl rfl rfl (by decide +kernel)) (kiList K (pe_callF (ok_law_lists T) (hr.mono (by decide)) rfl passL (pa_cons (pv 3) pa_nil))) (blkOk_by (N := n_law) (sc := defScope s_law) (by decide +kernel)) (fun _ _ _ _ _ => pg_name (i := 11) sc_law.nd rfl (Or.inl rfl)) (fun _ _ _ _ _ => (pts_one (PW.pt (pw_and (pt_val (pe_callF (ok_law_is_word T) (hr.mono (by decide)) rfl passL (pa_cons (pv 11) pa_nil))) (pw_and1 (pt_cmpR (kEq K hr.units) (pe_op op_gSub (pe_callB (kLen K) (by rfl) T.m_len (by decide +kernel) (pa_cons (pv 11) pa_nil)) (pe_callB (kSum K rfl) (by rfl) T.m_sum (by decide +kernel) (pa_cons (pv 11) pa_nil))) (pv 6) (nomark _))))))) (fun _ _ _ _ _ => (pv 11)))
      (pss_cons (ps_set (i := 8) sc_law.nd rfl (Or.inl rfl) (pe_op op_gAdd (pv 3) (pe_lc (own := [("k", 15)]) (g := gName 15) rfl sc_law.nd (pi_range1 rfl T.m_range (pa_cons (pe_op op_gMod (pe_callF (ok_law_cell_at T) (hr.mono (by decide)) rfl passL (pa_cons (pv 0) (pa_cons pe_int pa_nil))) pe_int) pa_nil)) (blkOk_by (N := n_law) (sc := defScope s_law) (by decide +kernel)) (fun _ _ _ _ _ => pg_name (i := 15) sc_law.nd rfl (Or.inl rfl)) (fun _ _ _ _ _ => pts_nil) (fun _ _ _ _ _ => pe_int))))
      (pss_cons (ps_set (i := 9) sc_law.nd rfl (Or.inl rfl) (pe_callF (ok_how_many T) (hr.mono (by decide)) rfl passL (pa_cons (pe_callTy (kList K) (by rfl) T.m_list (by decide +kernel) (pa_cons (pv 8) pa_nil)) pa_nil)))
      (pss_cons (ps_set (i := 10) sc_law.nd rfl (Or.inl rfl) (pe_callF (ok_all_words T) (hr.mono (by decide)) rfl passL (pa_cons (pe_callTy (kList K) (by rfl) T.m_list (by decide +kernel) (pa_cons (pv 3) pa_nil)) pa_nil)))
      (pss_cons (ps_expr (kbm K PySem.F.plainAttrs_list PySem.F.slot_list_append PySem.F.type_list_append mt_append (pv 4) (pa_cons (pe_callTy (kList K) (by rfl) T.m_list (by decide +kernel) (pa_cons (pv 8) pa_nil)) pa_nil)))
      (pss_cons (ps_if (PW.pt (pw_or (pt_not (pt_val (pe_callF (ok_law_whole T) (hr.mono (by decide)) rfl passL (pa_cons (pv 9) pa_nil)))) (pw_or (pt_cmpR (kNe K hr.units) (pv 9) (pe_callB (kLen K) (by rfl) T.m_len (by decide +kernel) (pa_cons (pv 7) pa_nil)) (nomark _)) (pw_or (pt_cmpR (kNe K hr.units) (pv 10) (pv 7) (nomark _)) (pw_or1 (pt_cmpR (kNe K hr.units) (pe_callF (ok_all_words T) (hr.mono (by decide)) rfl passL (pa_cons (pe_ix (kIx K) (pv 4) pe_int (fun _ _ => rfl)) pa_nil)) (pv 7) (nomark _))))))) (pss_one (ps_ret pe_bl)) pss_nil)
      (pss_cons (ps_if (pt_cmpR (kNe K hr.units) (pe_ix (kIx K) (pv 4) pe_int (fun _ _ => rfl)) (pv 8) (nomark _)) (pss_one (ps_ret pe_bl)) pss_nil)
      (pss_cons (ps_for (passes_of rfl) rfl (kiList K (pv 10)) (pg_name (i := 11) sc_law.nd rfl (Or.inl rfl)) (pss_one (ps_if (pt_not (pt_val (pe_callF (ok_law_numbers T) (hr.mono (by decide)) rfl passL (pa_cons (pv 11) (pa_cons (pe_callTy (kList K) (by rfl) T.m_list (by decide +kernel) (pa_cons (pv 11) pa_nil)) pa_nil))))) (pss_one (ps_ret pe_bl)) pss_nil)))
      (pss_cons (ps_set (i := 12) sc_law.nd rfl (Or.inl rfl) (pe_op op_gDiv (pe_callF (ok_law_cell_at T) (hr.mono (by decide)) rfl passL (pa_cons (pv 0) (pa_cons pe_int pa_nil))) pe_int))
      (pss_cons (ps_set (i := 13) sc_law.nd rfl (Or.inl rfl) (pe_lst (pa_cons (pe_op op_gMod (pv 12) pe_int) (pa_cons (pe_op op_gMod (pe_op op_gDiv (pv 12) pe_int) pe_int) (pa_cons (pe_op op_gAdd pe_int (pe_op op_gMod (pe_op op_gDiv (pv 12) pe_int) pe_int)) pa_nil)))))
      (pss_cons (ps_setLc (i := 14) (own := [("one", 11)]) (g := gName 11) rfl sc_law.nd rfl rfl (sw_true rfl rfl rfl (by decide +kernel)) (kiList K (pe_callF (ok_law_lists T) (hr.mono (by decide)) rfl passL (pa_cons (pv 13) pa_nil))) (blkOk_by (N := n_law) (sc := defScope s_law) (by decide +kernel)) (fun _ _ _ _ _ => pg_name (i := 11) sc_law.nd rfl (Or.inl rfl)) (fun _ _ _ _ _ => (pts_one (pt_val (pe_callF (ok_law_is_word T) (hr.mono (by decide)) rfl passL (pa_cons (pv 11) pa_nil))))) (fun _ _ _ _ _ => (pv 11)))
      (pss_cons (ps_if (PW.pt (pw_or (pt_cmpR (kNe K hr.units) (pe_callF (ok_how_many T) (hr.mono (by decide)) rfl passL (pa_cons (pe_callTy (kList K) (by rfl) T.m_list (by decide +kernel) (pa_cons (pv 13) pa_nil)) pa_nil)) (pe_callB (kLen K) (by rfl) T.m_len (by decide +kernel) (pa_cons (pv 14) pa_nil)) (nomark _)) (pw_or1 (pt_cmpR (kNe K hr.units) (pe_callF (ok_all_words T) (hr.mono (by decide)) rfl passL (pa_cons (pv 13) pa_nil)) (pv 14) (nomark _))))) (pss_one (ps_ret pe_bl)) pss_nil)
      (pss_cons (ps_expr (kbm K PySem.F.plainAttrs_list PySem.F.slot_list_append PySem.F.type_list_append mt_append (pv 5) (pa_cons pe_int pa_nil)))
      (pss_cons (ps_expr (kbm K PySem.F.plainAttrs_list PySem.F.slot_list_append PySem.F.type_list_append mt_append (pe_ix (kIx K) (pv 10) pe_int (fun _ _ => rfl)) (pa_cons pe_int pa_nil)))
      (pss_one (ps_ret (pe_and (pe_callF (ok_law_numbers T) (hr.mono (by decide)) rfl passL (pa_cons (pe_callF (ok_counts_of T) (hr.mono (by decide)) rfl passL (pa_cons (pe_callTy (kList K) (by rfl) T.m_list (by decide +kernel) (pa_cons (pv 2) pa_nil)) pa_nil)) (pa_cons (pv 3) pa_nil))) (pe_one (pe_cmpR (kEq K hr.units) (pe_callF (ok_all_words T) (hr.mono (by decide)) rfl passL (pa_cons (pv 3) pa_nil)) (pv 7) (nomark _))))))))))))))))))))))))))), ?_⟩)
  · obtain ⟨a, ns, rfl, _⟩ := h
    rfl
  obtain ⟨a, ns, rfl, hS, hl, hq⟩ := h
  try dsimp only [L2.cxOf]
  walk_at "s"
  refine rd_mkL (Led.start H) (sz (Nat.le_refl 3)) fun p1 H1 L1 t1 => ?_
  walk_at "s"
  refine ⟨a, ns, 1, rfl, L1.seq hS, ?_⟩
  walk_at "s"
  obtain ⟨r, hr, hr1⟩ := roots_at (cell ns 1)
  refine rd_ixL (L1.sq 0) hr ?_
  walk_at "s"
  refine ⟨a, ns, 0, rfl, L1.seq hS, ?_⟩
  walk_at "s"
  obtain ⟨n, en, hn1, hn8⟩ : ∃ n : Nat, 1 + cell ns 0 % 8 = (n : Int) ∧ 1 ≤ n ∧ n ≤ 8 := ⟨(1 + cell ns 0 % 8).toNat, by omega, by omega, by omega⟩
  rw [en]
  refine ⟨a, ns, 3, n, r, rfl, L1.seq hS, hn1, by omega, hr1, fun pg xs g H2 M2 g2 hgs => ?_⟩
  have Lg := (L1.call M2).only
  walk_at "s"
  refine ⟨pg, xs, g, rfl, Lg.sq 0, g2, by omega, fun pw H3 M3 => ?_⟩
  have L3 := (Lg.call M3).only
  have hwl := Gr.word_len g
  have hoW := Gr.okW_word g
  obtain ⟨w, ew⟩ := ci_word g
  rw [ew] at L3 hwl hoW
  rw [ci_len] at hwl
  have hM := Mt.of_cnt w
  have hW : Wd (cntOf w) w := wd_iff.mpr ⟨hM, hoW⟩
  have hsum := hM.sum
  obtain ⟨f1, f2, f3, _, f5, f6⟩ := wd_facts hW (by omega)
  have hcl := cntOf_len w
  have htr := hM.trees
  rw [map_sum_one] at htr
  walk_at "s"
  refine ⟨pw, w, rfl, L3.sq 0, by omega, by omega, fun pc H4 M4 => ?_⟩
  have L4 := L3.call M4
  generalize hcs : cntOf w = cs at L4 hM hW hsum hcl htr
  have hs0 : 0 < cs.sum := by omega
  have hs8 : cs.sum ≤ 8 := by omega
  walk_at "s"
  refine rd_list L4 (L4.sq 1) fun h0 H5 L5 _ => ?_
  walk_at "s"
  refine rd_mkL L5 (sz (Nat.le_refl 1)) fun ph H6 L6 _ => ?_
  walk_at "s"
  refine rd_ixL (L6.sq 0) (atI_nat (j := 0) rfl) ?_
  walk_at "s"
  refine ⟨h0, w, rfl, L6.sq 1, by omega, fun _ pf H7 M7 => ?_, fun h => absurd (f2.symm.trans h) (by decide)⟩
  rw [hcs] at M7
  have L7 := L6.call M7
  walk_at "s"
  refine ⟨pf, pc, ci cs, ci cs, rfl, L7.get 0, L7.sq 3, fun H8 M8 => ?_⟩
  rw [decide_eq_true rfl]
  have L8 : Led H H8 [(pf, HO.lst ((ci cs).map V.int)), (ph, HO.lst [.ref h0]), (h0, HO.lst ((ci w).map V.int)), (pc, HO.lst ((ci cs).map V.int)), (pw, HO.lst ((ci w).map V.int))] := L7.call M8
  clear L7 L6 L5 M8 M7
  walk_at "s"
  refine rd_ixL (L8.sq 1) (atI_nat (j := 0) rfl) ?_
  walk_at "s"
  refine rd_neLs (L8.sq 2) (L8.sq 4) ?_
  walk_at "s"
  refine rd_sum (L8.sq 4) ?_
  walk_at "s"
  rw [List.length_map]
  generalize hpe : ((ci w).length : Int) - (ci w).sum = pe at htr
  -- all lists, the words among them
  refine ⟨pc, cs, rfl, L8.sq 3, by omega, hs8, fun pl fs H9 M9 hfs => ?_⟩
  have L9 := L8.call M9
  walk_at "s"
  have hfl : fs.length ≤ 16777216 := by
    have h1 := lvl_len (cs := cs) (by omega) cs.sum
    rw [← hfs, List.length_map] at h1
    have h2 : 8 ^ cs.sum ≤ 8 ^ 8 := Nat.pow_le_pow_right (by decide) hs8
    have h3 : (8 : Nat) ^ 8 = 16777216 := by decide
    omega
  have fsq : ∀ {H'} {m : List (Addr × HO)}, Led H H' (m ++ ((pl, HO.lst (refs fs)) :: fdL fs ++ [(pf, HO.lst ((ci cs).map V.int)), (ph, HO.lst [.ref h0]), (h0, HO.lst ((ci w).map V.int)), (pc, HO.lst ((ci cs).map V.int)), (pw, HO.lst ((ci w).map V.int))])) → SqL K H' pl (refs fs) ∧ ∀ f ∈ fs, SqL K H' f.1 ((ci f.2).map V.int) := fun L => blk_sq (r := _) L
  refine lc_lst (xs := refs fs) L9 fun pd H10 L10 _ => ⟨fun i H' => Led H H' ((pd, HO.lst (refs ((fs.take i).filter fun f => isWB (ci f.2)))) :: ((pl, HO.lst (refs fs)) :: fdL fs ++ [(pf, HO.lst ((ci cs).map V.int)), (ph, HO.lst [.ref h0]), (h0, HO.lst ((ci w).map V.int)), (pc, HO.lst ((ci cs).map V.int)), (pw, HO.lst ((ci w).map V.int))])), L10, fun i H' _ L => (fsq (m := [_]) L).1, ?_, ?_⟩
  · rintro i x H11 hx L11
    obtain ⟨f, hf, rfl⟩ := refs_at hx
    have hfm := List.mem_of_getElem? hf
    have hil := (List.getElem?_eq_some_iff.mp hf).1
    have hsf := (fsq (m := [_]) L11).2 f hfm
    have hmt : Mt cs f.2 := mem_all.mp (by rw [← hfs]; exact List.mem_map.mpr ⟨f, hfm, rfl⟩)
    have htf := hmt.trees
    rw [map_sum_one] at htf
    walk_at "s"
    refine ⟨rfl, ?_⟩
    walk_at "s"
    refine ⟨f.1, ci f.2, rfl, hsf, fun H12 M12 => ?_⟩
    have L12 := L11.call M12
    have hsf12 := (fsq (m := [_]) L12).2 f hfm
    have hlen : ((fs.take i).filter fun f => isWB (ci f.2)).length < sizeLine := by
      rw [sizeLine_eq]
      have := List.length_filter_le (fun f : Addr × List Nat => isWB (ci f.2)) (fs.take i)
      rw [List.length_take] at this
      omega
    walk_at "s"
    refine iteB (fun hb => ?_) (fun hb => ?_)
    · walk_at "s"
      refine rd_sum hsf12 ?_
      walk_at "s"
      rw [List.length_map, decide_eq_true (show ((ci f.2).length : Int) - (ci f.2).sum = pe by omega)]
      walk_at "s"
      have eF : ((fs.take (i + 1)).filter fun f => isWB (ci f.2)) = ((fs.take i).filter fun f => isWB (ci f.2)) ++ [f] := by
        rw [List.take_add_one, hf, Option.toList_some, List.filter_append]
        simp [hb]
      refine rd_put1 L12 0 rfl (by rw [refs_len]; exact hlen) fun H13 L13 _ => L13.to ?_
      rw [eF, refs_snoc]
      rfl
    · have eF : ((fs.take (i + 1)).filter fun f => isWB (ci f.2)) = ((fs.take i).filter fun f => isWB (ci f.2)) := by
        rw [List.take_add_one, hf, Option.toList_some, List.filter_append]
        simp [hb]
      refine L12.to ?_
      rw [eF]
      rfl
  rintro H11 L11
  rw [refs_len, List.take_length] at L11
  have hds := words_filter hfs
  have L12 := blk_pick (X := [(pf, HO.lst ((ci cs).map V.int)), (ph, HO.lst [.ref h0]), (h0, HO.lst ((ci w).map V.int)), (pc, HO.lst ((ci cs).map V.int)), (pw, HO.lst ((ci w).map V.int))]) (r := []) (fun f => isWB (ci f.2)) (L11.to (by rw [List.append_nil]))
  generalize (fs.filter fun f => isWB (ci f.2)) = ds at L12 hds
  clear L11 fsq hfl
  rw [List.append_nil] at L12
  -- noughts behind
  walk_at "s"
  refine ⟨a, ns, 2, rfl, L12.seq hS, ?_⟩
  walk_at "s"
  generalize hk : (cell ns 2 % 4).toNat = k
  refine rd_itR1 k hk (by omega) (by omega) ?_
  refine lc_map (fun _ => .int 0) L12 ?_ ?_
  · intro i D H1 hi L1 t1
    walk_at "s"
    refine ⟨rfl, ?_⟩
    walk_at "s"
    exact rd_mapEnd [] L1 t1 (by omega) rfl
  intro pz H13 L13 _
  refine rd_addL L13 (L13.get 4) (L13.get 0) (sz (m := 200) (by simp only [List.length_map, List.length_range, ci_len]; omega)) fun po H14 L14 _ => ?_
  rw [more0_ci] at L14
  have hsame := more0_at cs k
  have hol : (more0 cs k).length ≤ 20 := by
    unfold more0
    rw [List.length_append, List.length_map, List.length_range]
    omega
  generalize more0 cs k = os at L14 hsame hol
  have hos := (same_sum hsame).1
  have hohm := same_hm hsame
  have L15 : Led H H14 ([(po, HO.lst ((ci os).map V.int)), (pf, HO.lst ((ci cs).map V.int)), (ph, HO.lst [.ref h0]), (h0, HO.lst ((ci w).map V.int)), (pc, HO.lst ((ci cs).map V.int)), (pw, HO.lst ((ci w).map V.int))] ++ blk pd ds) := L14.sub (List.Sublist.cons_cons _ (List.Sublist.cons _ (List.Sublist.refl _)))
  clear L14 L13
  walk_at "s"
  refine rd_list L15 (L15.sq 0) fun p16 H16 L16 _ => ?_
  walk_at "s"
  refine ⟨p16, os, rfl, L16.sq 0, by omega, by omega, fun H17 M17 => ?_⟩
  rw [hohm]
  have L17 := (L16.call M17).drop1 (m := [_])
  walk_at "s"
  refine rd_list L17 (L17.sq 4) fun p18 H18 L18 _ => ?_
  walk_at "s"
  refine ⟨p18, cs, rfl, L18.sq 0, by omega, hs0, hs8, fun pt ts H19 M19 hts htl => ?_⟩
  have L19 := blk_move (X := [(p18, HO.lst ((ci cs).map V.int)), (po, HO.lst ((ci os).map V.int)), (pf, HO.lst ((ci cs).map V.int)), (ph, HO.lst [.ref h0]), (h0, HO.lst ((ci w).map V.int)), (pc, HO.lst ((ci cs).map V.int)), (pw, HO.lst ((ci w).map V.int))]) (r := blk pd ds) (L18.call M19)
  have L20 := L19.drop1 (m := [_])
  clear L19 L18 L17 L16 L15 L12 M19 M17
  have edt : ds.map (·.2) = ts.map (·.2) := hds.trans hts.symm
  have hdl : (ds.length : Int) = hm cs := by
    have := congrArg List.length edt
    rw [List.length_map, List.length_map] at this
    omega
  have dsq : ∀ {H'} {m : List (Addr × HO)}, Led H H' (m ++ (blk pt ts ++ blk pd ds)) → SqL K H' pd (refs ds) ∧ ∀ f ∈ ds, SqL K H' f.1 ((ci f.2).map V.int) := fun {H' m} L => blk_sq (m := m ++ blk pt ts) (r := []) (L.to (by rw [List.append_nil, List.append_assoc]))
  have tsq : ∀ {H'} {m : List (Addr × HO)}, Led H H' (m ++ (blk pt ts ++ blk pd ds)) → SqL K H' pt (refs ts) ∧ ∀ f ∈ ts, SqL K H' f.1 ((ci f.2).map V.int) := fun L => blk_sq L
  walk_at "s"
  refine rd_list L20 (L20.sq 0) fun h1 H21 L21 _ => ?_
  walk_at "s"
  refine rd_append L21 3 rfl (szl (m := 5) (by show 1 ≤ 5; decide)) fun H22 L22 _ => ?_
  have L22' : Led H H22 ([(h1, HO.lst ((ci os).map V.int)), (po, HO.lst ((ci os).map V.int)), (pf, HO.lst ((ci cs).map V.int)), (ph, HO.lst [.ref h0, .ref h1]), (h0, HO.lst ((ci w).map V.int)), (pc, HO.lst ((ci cs).map V.int)), (pw, HO.lst ((ci w).map V.int))] ++ (blk pt ts ++ blk pd ds)) := L22
  clear L22 L21 L20
  walk_at "s"
  refine ⟨hm cs, rfl, ?_⟩
  walk_at "s"
  refine rd_lenL (dsq (m := [_, _, _, _, _, _, _]) L22').1 ?_
  walk_at "s"
  rw [refs_len, hdl, decide_eq_true rfl]
  walk_at "s"
  refine rd_neW (tsq (m := [_, _, _, _, _, _, _]) L22').1 (tsq (m := [_, _, _, _, _, _, _]) L22').2 (dsq (m := [_, _, _, _, _, _, _]) L22').1 (dsq (m := [_, _, _, _, _, _, _]) L22').2 edt.symm ?_
  walk_at "s"
  refine rd_ixL (L22'.sq 3) (atI_nat (j := 1) rfl) ?_
  walk_at "s"
  refine ⟨h1, os, rfl, L22'.sq 0, by omega, by omega, by omega, fun pu us H23 M23 hus hul => ?_⟩
  have edu : us.map (·.2) = ds.map (·.2) := by rw [hus, hds, wordsOf_same hs0 fun l => (hsame l).symm]
  have L23 := (L22'.call M23).drop1
  walk_at "s"
  refine rd_neW (M23.sq 0) (fds_sq M23 fun x hx => List.mem_cons_of_mem _ hx) (dsq (m := [_, _, _, _, _, _, _]) L23).1 (dsq (m := [_, _, _, _, _, _, _]) L23).2 edu ?_
  walk_at "s"
  refine rd_ixL (L23.sq 3) (atI_nat (j := 1) rfl) ?_
  walk_at "s"
  refine rd_neLs (L23.sq 0) (L23.sq 1) ?_
  clear L22' M23
  walk_at "s"
  refine lp_list (xs := refs ts) (fun i σ H' => ∃ y : Option V, σ = [some (.ref a), some (.int r), some (.ref pw), some (.ref pc), some (.ref ph), some (.ref pf), some (.int pe), some (.ref pd), some (.ref po), some (.int (hm cs)), some (.ref pt), y, none, none, none, none] ∧
      Led H H' ([(h1, HO.lst ((ci os).map V.int)), (po, HO.lst ((ci os).map V.int)), (pf, HO.lst ((ci cs).map V.int)), (ph, HO.lst [.ref h0, .ref h1]), (h0, HO.lst ((ci w).map V.int)), (pc, HO.lst ((ci cs).map V.int)), (pw, HO.lst ((ci w).map V.int))] ++ (blk pt ts ++ blk pd ds))) ⟨none, rfl, L23⟩ (fun i σ H' _ ⟨_, _, L⟩ => (tsq (m := [_, _, _, _, _, _, _]) L).1) ?_ ?_
  · rintro i x σ H24 hx ⟨y, rfl, L24⟩
    obtain ⟨f, hf, rfl⟩ := refs_at hx
    have hfm := List.mem_of_getElem? hf
    walk_at "s"
    refine rd_list L24 ((tsq (m := [_, _, _, _, _, _, _]) L24).2 f hfm) fun p25 H25 L25 _ => ?_
    walk_at "s"
    have hg25 : H25 f.1 = some (.lst ((ci f.2).map V.int)) := blk_get (m := [_, _, _, _, _, _, _, _]) L25 hfm
    refine ⟨f.1, p25, ci f.2, ci f.2, rfl, hg25, L25.sq 0, fun H26 M26 => ?_⟩
    rw [decide_eq_true rfl]
    walk_at "s"
    exact ⟨_, rfl, (L25.call M26).drop1 (m := [_])⟩
  rintro σ H24 ⟨y, rfl, L24⟩
  clear L23
  walk_at "s"
  refine ⟨a, ns, 2, rfl, L24.seq hS, ?_⟩
  walk_at "s"
  generalize cell ns 2 / 4 = c
  refine rd_mkL L24 (sz (Nat.le_refl 3)) fun pq H25 L25 _ => ?_
  walk_at "s"
  have e3 : ([V.int (c % 3), V.int (c / 3 % 4), V.int (1 + c / 12 % 3)] : List V) = (ci [(c % 3).toNat, (c / 3 % 4).toNat, (1 + c / 12 % 3).toNat]).map V.int := by
    show _ = [V.int ((c % 3).toNat : Nat), V.int ((c / 3 % 4).toNat : Nat), V.int ((1 + c / 12 % 3).toNat : Nat)]
    rw [show (((c % 3).toNat : Nat) : Int) = c % 3 by omega, show (((c / 3 % 4).toNat : Nat) : Int) = c / 3 % 4 by omega, show (((1 + c / 12 % 3).toNat : Nat) : Int) = 1 + c / 12 % 3 by omega]
  rw [e3] at L25
  have o3 : ([(c % 3).toNat, (c / 3 % 4).toNat, (1 + c / 12 % 3).toNat] : List Nat).length = 3 := rfl
  have os0 : 0 < ([(c % 3).toNat, (c / 3 % 4).toNat, (1 + c / 12 % 3).toNat] : List Nat).sum ∧ ([(c % 3).toNat, (c / 3 % 4).toNat, (1 + c / 12 % 3).toNat] : List Nat).sum ≤ 8 := by
    simp only [List.sum_cons, List.sum_nil]
    omega
  generalize [(c % 3).toNat, (c / 3 % 4).toNat, (1 + c / 12 % 3).toNat] = od at L25 o3 os0
  clear e3 L24
  obtain ⟨od0, od8⟩ := os0
  refine ⟨pq, od, rfl, L25.sq 0, by omega, od8, fun pv vs' H26 M26 hvs => ?_⟩
  have L26 := L25.call M26
  walk_at "s"
  have hvl : vs'.length ≤ 16777216 := by
    have h1 := lvl_len (cs := od) (by omega) od.sum
    rw [← hvs, List.length_map] at h1
    have h2 : 8 ^ od.sum ≤ 8 ^ 8 := Nat.pow_le_pow_right (by decide) od8
    have h3 : (8 : Nat) ^ 8 = 16777216 := by decide
    omega
  generalize hX : ([(h1, HO.lst ((ci os).map V.int)), (po, HO.lst ((ci os).map V.int)), (pf, HO.lst ((ci cs).map V.int)), (ph, HO.lst [.ref h0, .ref h1]), (h0, HO.lst ((ci w).map V.int)), (pc, HO.lst ((ci cs).map V.int)), (pw, HO.lst ((ci w).map V.int))] : List (Addr × HO)) = X at L25 L26
  have L26' : Led H H26 ((pv, HO.lst (refs vs')) :: (fdL vs' ++ ((pq, HO.lst ((ci od).map V.int)) :: (X ++ (blk pt ts ++ blk pd ds))))) := L26
  have vsq : ∀ {H'} {m : List (Addr × HO)}, Led H H' (m ++ ((pv, HO.lst (refs vs')) :: (fdL vs' ++ ((pq, HO.lst ((ci od).map V.int)) :: (X ++ (blk pt ts ++ blk pd ds)))))) → SqL K H' pv (refs vs') ∧ ∀ f ∈ vs', SqL K H' f.1 ((ci f.2).map V.int) := fun L => blk_sq (r := _) L
  refine lc_lst (xs := refs vs') L26' fun pe' H27 L27 _ => ⟨fun i H' => Led H H' ((pe', HO.lst (refs ((vs'.take i).filter fun f => isWB (ci f.2)))) :: ((pv, HO.lst (refs vs')) :: (fdL vs' ++ ((pq, HO.lst ((ci od).map V.int)) :: (X ++ (blk pt ts ++ blk pd ds)))))), L27, fun i H' _ L => (vsq (m := [_]) L).1, ?_, ?_⟩
  · rintro i x H28 hx L28
    obtain ⟨f, hf, rfl⟩ := refs_at hx
    have hfm := List.mem_of_getElem? hf
    have hil := (List.getElem?_eq_some_iff.mp hf).1
    have hsf := (vsq (m := [_]) L28).2 f hfm
    walk_at "s"
    refine ⟨rfl, ?_⟩
    walk_at "s"
    refine ⟨f.1, ci f.2, rfl, hsf, fun H29 M29 => ?_⟩
    have L29 := L28.call M29
    have hlen : ((vs'.take i).filter fun f => isWB (ci f.2)).length < sizeLine := by
      rw [sizeLine_eq]
      have := List.length_filter_le (fun f : Addr × List Nat => isWB (ci f.2)) (vs'.take i)
      rw [List.length_take] at this
      omega
    walk_at "s"
    refine iteB (fun hb => ?_) (fun hb => ?_)
    · walk_at "s"
      have eF : ((vs'.take (i + 1)).filter fun f => isWB (ci f.2)) = ((vs'.take i).filter fun f => isWB (ci f.2)) ++ [f] := by
        rw [List.take_add_one, hf, Option.toList_some, List.filter_append]
        simp [hb]
      refine rd_put1 L29 0 rfl (by rw [refs_len]; exact hlen) fun H30 L30 _ => L30.to ?_
      rw [eF, refs_snoc]
      rfl
    · have eF : ((vs'.take (i + 1)).filter fun f => isWB (ci f.2)) = ((vs'.take i).filter fun f => isWB (ci f.2)) := by
        rw [List.take_add_one, hf, Option.toList_some, List.filter_append]
        simp [hb]
      refine L29.to ?_
      rw [eF]
      rfl
  rintro H28 L28
  rw [refs_len, List.take_length] at L28
  have hes := words_filter hvs
  have L29 := blk_pick (X := (pq, HO.lst ((ci od).map V.int)) :: X) (r := blk pt ts ++ blk pd ds) (fun f => isWB (ci f.2)) L28
  generalize (vs'.filter fun f => isWB (ci f.2)) = es at L29 hes
  clear L28 vsq hvl L26' L26
  subst hX
  have hel : (es.length : Int) = hm od := by
    have := congrArg List.length hes
    rw [List.length_map] at this
    rw [this]
    exact wordsOf_len od0
  have esq : ∀ {H'} {m : List (Addr × HO)}, Led H H' (m ++ (blk pe' es ++ (blk pt ts ++ blk pd ds))) → SqL K H' pe' (refs es) ∧ ∀ f ∈ es, SqL K H' f.1 ((ci f.2).map V.int) := fun L => blk_sq L
  have L30 : Led H H28 ([(pq, HO.lst ((ci od).map V.int)), (h1, HO.lst ((ci os).map V.int)), (po, HO.lst ((ci os).map V.int)), (pf, HO.lst ((ci cs).map V.int)), (ph, HO.lst [.ref h0, .ref h1]), (h0, HO.lst ((ci w).map V.int)), (pc, HO.lst ((ci cs).map V.int)), (pw, HO.lst ((ci w).map V.int))] ++ (blk pe' es ++ (blk pt ts ++ blk pd ds))) := L29
  clear L29
  walk_at "s"
  refine rd_list L30 (L30.sq 0) fun p31 H31 L31 _ => ?_
  walk_at "s"
  refine ⟨p31, od, rfl, L31.sq 0, by omega, by omega, fun H32 M32 => ?_⟩
  have L32 := (L31.call M32).drop1 (m := [_])
  walk_at "s"
  try refine rd_lenL (esq (m := [_, _, _, _, _, _, _, _]) L32).1 ?_
  walk_at "s"
  rw [refs_len, hel, decide_eq_true rfl]
  walk_at "s"
  refine ⟨pq, od, rfl, L32.sq 0, by omega, od0, od8, fun pu us2 H33 M33 hus2 _ => ?_⟩
  have L33 := (L32.call M33).drop1
  walk_at "s"
  refine rd_neW (M33.sq 0) (fds_sq M33 fun x hx => List.mem_cons_of_mem _ hx) (esq (m := [_, _, _, _, _, _, _, _]) L33).1 (esq (m := [_, _, _, _, _, _, _, _]) L33).2 (hus2.trans hes.symm) ?_
  walk_at "s"
  refine rd_append L33 3 rfl (by rw [List.length_map, ci_len]; exact szl (m := 100) (by omega)) fun H34 L34 _ => ?_
  clear L32 L31 L30 M33
  have L35 : Led H H34 ([(pc, HO.lst ((ci cs).map V.int)), (pw, HO.lst ((ci w).map V.int))] ++ (blk pt ts ++ blk pd ds)) := L34.sub (List.Sublist.cons _ (List.Sublist.cons _ (List.Sublist.cons _ (List.Sublist.cons _ (List.Sublist.cons _ (List.Sublist.cons _ (List.Sublist.cons_cons _ (List.Sublist.cons_cons _ (List.sublist_append_right _ _)))))))))
  clear L34
  cases ts with
  | nil =>
    have hmem := (mem_wordsOf hs0).mpr hW
    rw [← hts] at hmem
    cases hmem
  | cons t0 tr =>
    walk_at "s"
    refine rd_ixL (tsq (m := [_, _]) L35).1 (atI_nat (j := 0) rfl) ?_
    refine rd_ty ((tsq (m := [_, _]) L35).2 t0 (List.mem_cons_self ..)) ?_
    walk_at "s"
    have ht0 : t0.2.length ≤ 100 := by
      have hm0 : t0.2 ∈ wordsOf cs := by
        rw [← hts]
        exact List.mem_map.mpr ⟨t0, List.mem_cons_self .., rfl⟩
      have := (wd_facts ((mem_wordsOf hs0).mp hm0) hs0).1
      omega
    refine rd_append L35 3 rfl (by rw [List.length_map, ci_len]; exact szl (m := 100) (by omega)) fun H36 L36 _ => ?_
    have L37 : Led H H36 ([(pc, HO.lst ((ci cs).map V.int)), (pw, HO.lst ((ci w).map V.int))] ++ (blk pd ds ++ [])) := (L36.sub (List.Sublist.cons_cons _ (List.Sublist.cons_cons _ (List.Sublist.cons _ (List.Sublist.cons _ (List.sublist_append_right _ _)))))).to (by rw [List.append_nil]; rfl)
    clear L36 L35 tsq dsq esq
    walk_at "s"
    refine rd_list L37 (L37.sq 1) fun p38 H38 L38 _ => ?_
    walk_at "s"
    refine ⟨p38, w, rfl, L38.sq 0, by omega, fun _ p39 H39 M39 => ?_, fun h => absurd (f2.symm.trans h) (by decide)⟩
    rw [hcs] at M39
    have L39 := L38.call M39
    walk_at "s"
    refine ⟨p39, pc, ci cs, ci cs, rfl, L39.get 0, L39.sq 2, fun H40 M40 => ?_⟩
    rw [decide_eq_true rfl]
    have L40 := L39.call M40
    walk_at "s"
    refine ⟨pc, cs, rfl, L40.sq 2, by omega, hs0, hs8, fun pz2 zs H41 M41 hzs _ => ?_⟩
    have L41 := (L40.call M41).drop1
    have dq := blk_sq (K := K) (m := [_, _, _, _]) L41
    walk_at "s"
    refine rd_eqW (M41.sq 0) (fds_sq M41 fun x hx => List.mem_cons_of_mem _ hx) dq.1 dq.2 (hzs.trans hds.symm) ?_
    exact hq _
end Tr
namespace Tr
open PySem PySem.Spec PyProof.Rows L2
def sp_law_multiples (K : PySem.W.Frag) : Sp := fun vs H Q _ => ∃ (a : Addr) (cs : List Nat), vs = [.ref a] ∧ SqL K H a ((ci cs).map V.int) ∧ cs.sum ≤ 100 ∧ Q (.int (mul cs : Nat)) H
/-- the number of lists with these counts and k more of another number -/
def mulK (cs : List Nat) (k : Nat) : Nat := mul (k :: cs)
theorem mulK_fac (cs : List Nat) (k : Nat) : mulK cs k * (fac k * prodF cs) = fac (k + cs.sum) := by
  have := mul_fac (k :: cs)
  rwa [prodF_cons, List.sum_cons] at this
theorem mulK_step (cs : List Nat) (k : Nat) : mulK cs k * (k + cs.sum + 1) / (k + 1) = mulK cs (k + 1) := by
  have h1 := mulK_fac cs k
  have h2 := mulK_fac cs (k + 1)
  have e : mulK cs k * (k + cs.sum + 1) = mulK cs (k + 1) * (k + 1) := by
    refine Nat.eq_of_mul_eq_mul_right (Nat.mul_pos (fac_pos k) (prodF_pos cs)) ?_
    have e1 : k + 1 + cs.sum = (k + cs.sum) + 1 := by omega
    rw [e1, show fac (k + cs.sum + 1) = (k + cs.sum + 1) * fac (k + cs.sum) from rfl, ← h1, show fac (k + 1) = (k + 1) * fac k from rfl] at h2
    calc mulK cs k * (k + cs.sum + 1) * (fac k * prodF cs) = (k + cs.sum + 1) * (mulK cs k * (fac k * prodF cs)) := by rw [Nat.mul_comm (mulK cs k), Nat.mul_assoc]
      _ = mulK cs (k + 1) * ((k + 1) * fac k * prodF cs) := h2.symm
      _ = _ := by simp only [Nat.mul_assoc]
  rw [e, Nat.mul_div_cancel _ (Nat.succ_pos k)]
theorem mulK_zero (cs : List Nat) : mulK cs 0 = mul cs := by simp [mulK, mul, net]
theorem prodF_rev (cs : List Nat) : prodF cs.reverse = prodF cs := by
  induction cs with
  | nil => rfl
  | cons c cs ih =>
    rw [List.reverse_cons, prodF_append, ih, prodF_cons, prodF_cons, Nat.mul_comm]
    simp [prodF]
theorem mul_rev (cs : List Nat) : mul cs.reverse = mul cs := by
  have h1 := mul_fac cs.reverse
  have h2 := mul_fac cs
  rw [prodF_rev, List.sum_reverse, ← h2] at h1
  exact Nat.eq_of_mul_eq_mul_right (prodF_pos cs) h1
theorem ok_law_multiples {P : Program} {w : World} {K : PySem.W.Frag} {mg : Str → Option Value} {base : Heap} (T : Txt K mg) : Fn P w K mg base (L2.CX P w) 1 "_law_multiples" ["counts"] (sp_law_multiples K) := by
  refine fnOf1 T.f_law_multiples sc_law_multiples (fun vs H Q E h => ?_) (fun f cdv A outer s H vs Q E hr h => ⟨_, (pss_cons (ps_set (i := 1) sc_law_multiples.nd rfl (Or.inl rfl) pe_int)
      (pss_cons (ps_set (i := 2) sc_law_multiples.nd rfl (Or.inl rfl) pe_int)
      (pss_cons (ps_for (passes_of rfl) rfl (kiList K (pv 0)) (pg_name (i := 3) sc_law_multiples.nd rfl (Or.inl rfl)) (pss_one (ps_for (passes_of rfl) rfl (pi_range2 rfl T.m_range (pa_cons pe_int (pa_cons (pe_op op_gAdd (pv 3) pe_int) pa_nil))) (pg_name (i := 4) sc_law_multiples.nd rfl (Or.inl rfl)) (pss_cons (ps_set (i := 2) sc_law_multiples.nd rfl (Or.inl rfl) (pe_op op_gAdd (pv 2) pe_int))
      (pss_one (ps_set (i := 1) sc_law_multiples.nd rfl (Or.inl rfl) (pe_op op_gDiv (pe_op op_gMul (pv 1) (pv 2)) (pv 4))))))))
      (pss_one (ps_ret (pv 1)))))), ?_⟩)
  · obtain ⟨a, cs, rfl, _⟩ := h
    rfl
  obtain ⟨a, cs, rfl, hS, hs, hq⟩ := h
  try dsimp only [L2.cxOf]
  walk_at "s"
  refine lp_ints (ns := ci cs) (fun i σ H' => ∃ y z, σ = [some (.ref a), some (.int (mul (cs.take i).reverse : Nat)), some (.int ((cs.take i).reverse.sum : Nat)), y, z] ∧ H' = H) ⟨none, none, rfl, rfl⟩ (fun i σ H' _ ⟨_, _, _, e⟩ => e ▸ hS) ?_ ?_
  · rintro i n σ H' hi ⟨y, z, rfl, rfl⟩
    obtain ⟨c, rfl, hc⟩ := ci_get hi
    have hcs := le_sum hc
    have ht : (cs.take (i + 1)).reverse = c :: (cs.take i).reverse := by rw [List.take_add_one, hc, Option.toList_some, List.reverse_append]; rfl
    have hsum : c + (cs.take i).reverse.sum ≤ 100 := by
      have : (cs.take (i + 1)).reverse.sum ≤ cs.sum := by
        rw [List.sum_reverse]
        have := congrArg List.sum (List.take_append_drop (i + 1) cs)
        rw [List.sum_append] at this
        omega
      rw [ht, List.sum_cons] at this
      omega
    rw [ht]
    generalize (cs.take i).reverse = ds at hsum ⊢
    walk_at "s"
    refine rd_itR2 c (by omega) (by omega) ?_
    refine lp_rng (fun k σ H'' => ∃ z, σ = [some (.ref a), some (.int (mulK ds k : Nat)), some (.int ((k + ds.sum : Nat) : Int)), some (.int c), z] ∧ H'' = H') ⟨z, by rw [mulK_zero, Nat.zero_add]; rfl, rfl⟩ ?_ ?_
    · rintro k σ H'' hk ⟨z, rfl, rfl⟩
      walk_at "s"
      refine rd_mulR (by omega) (by omega) ?_
      walk_at "s"
      refine ⟨some (.int (1 + (k : Nat))), ?_, rfl⟩
      have e1 : ((k + ds.sum : Nat) : Int) + 1 = ((k + 1 + ds.sum : Nat) : Int) := by omega
      have e2 : ((mulK ds k : Nat) : Int) * (((k + ds.sum : Nat) : Int) + 1) / (1 + (k : Nat)) = ((mulK ds (k + 1) : Nat) : Int) := by
        rw [← mulK_step]
        have e3 : (1 + (k : Nat) : Int) = ((k + 1 : Nat) : Int) := by omega
        have e4 : ((k + ds.sum : Nat) : Int) + 1 = ((k + ds.sum + 1 : Nat) : Int) := by omega
        rw [e3, e4, ← Int.natCast_mul, ← Int.natCast_ediv]
      rw [e2, e1]
      rfl
    · rintro σ H'' ⟨z, rfl, rfl⟩
      refine ⟨some (.int c), z, ?_, rfl⟩
      rw [List.sum_cons]
      rfl
  · rintro σ H' ⟨y, z, rfl, rfl⟩
    rw [ci_len, List.take_length, mul_rev]
    walk_at "s"
    exact hq
end Tr
/-! The head: the facts of the top, read by a Hook of my own. -/
namespace Tr
open PySem PySem.Spec PyProof.Rows L2
def excB (K : PySem.W.Frag) (x : Str) : Bool :=
  He.eqO (PySem.W.findIn K (.ref (He.ga K x)) "__getattribute__") (some (some (.builtin "BaseException.__getattribute__"))) &&
  (He.eqO (PySem.W.findIn K (.ref (He.ga K x)) "__getattr__") (some none) &&
  (decide (PySem.W.subIn K (.ref (He.ga K x)) (.type "BaseException") = some true) &&
  (PySem.W.hasDictIn K (He.ga K x) &&
  (He.eqO (PySem.W.findIn K (.ref (He.ga K x)) "__class__") (some (some (.builtin "object.__class__"))) &&
  (He.eqO (PySem.W.specialIn K (.builtin "object.__class__") "__get__") (some (some (.builtin "getset_descriptor.__get__"))) &&
  (decide (PySem.W.takesIn K (.builtin "object.__class__") = some true) &&
  decide (PySem.W.mroIn K (He.ga K x) (.type "object") = some true)))))))
theorem excB_ok {K : PySem.W.Frag} {x : Str} (h : excB K x = true) : ExcC K (He.ga K x) := by
  unfold excB at h
  obtain ⟨h1, h⟩ := He.ba h
  obtain ⟨h2, h⟩ := He.ba h
  obtain ⟨h3, h⟩ := He.ba h
  obtain ⟨h4, h⟩ := He.ba h
  obtain ⟨h5, h⟩ := He.ba h
  obtain ⟨h6, h⟩ := He.ba h
  obtain ⟨h7, h8⟩ := He.ba h
  exact ⟨He.eqO_ok h1, He.eqO_ok h2, of_decide_eq_true h3, h4, He.eqO_ok h5, He.eqO_ok h6, of_decide_eq_true h7, of_decide_eq_true h8⟩
def kitO (K : PySem.W.Frag) (x y : Str) (b : Bool) : Bool := decide (PySem.W.kitOne K (.ref (He.ga K x)) (.ref (He.ga K y)) = some b)
def kitT (K : PySem.W.Frag) (x : Str) (n : String) : Bool := decide (PySem.W.kitOne K (.ref (He.ga K x)) (.type n) = some true)
def hookZ (n : Nat) (fa : List He.Fa) (fn : List He.DefD) (ex : PySem.W.Frag → Bool) : PySem.W.Hook where
  α := He.AlD × Bool
  obs := fun s => (He.obsD fa fn (He.frG s.heap.get? (He.asD s.heap.get? n)), ex (He.frG s.heap.get? (He.asD s.heap.get? n)))
  val := fun _ => (He.valD fn, true)
  says := fun _ h => ∃ K : PySem.W.Frag, K.In h ∧ He.SaysD fa fn K ∧ ex K = true
  of := fun _ _ e => ⟨_, He.frG_in, congrArg (fun z : He.AlD × Bool => z.1) e, congrArg (fun z : He.AlD × Bool => z.2) e⟩
  keeps := fun _ _ _ ⟨K, hK, c⟩ k => ⟨K, PySem.W.Frag.In.keeps hK k, c⟩
def obZ (n : Nat) (fa : List He.Fa) (fn : List He.DefD) (ex : PySem.W.Frag → Bool) (g : Addr → Option Obj) : He.AlD × Bool := (He.obsD fa fn (He.frG g (He.asD g n)), ex (He.frG g (He.asD g n)))
theorem obZ_eq {n : Nat} {fa : List He.Fa} {fn : List He.DefD} {ex : PySem.W.Frag → Bool} {g : Addr → Option Obj} {s : Shared} (h : ∀ a, g a = s.heap.get? a) : obZ n fa fn ex g = (hookZ n fa fn ex).obs s := by
  have e : g = s.heap.get? := funext h
  rw [e] <;> rfl
theorem okZero {P : Program} {w : World} {K : PySem.W.Frag} {mg : Str → Option Value} {base : Heap} {k : Nat} {f : Addr} {fd : FuncData} {ps : List Str} {sp : Sp} (F : FnOk P w K mg base (L2.CX P w) k f fd ps sp) (hs : ∀ vs H Q E, sp vs H Q E → sp vs H Q E0) :
    FnOk P w K mg base CX0 k f fd ps sp := by
  refine ⟨F.len, fun A outer s H args us vs Q E hr he hb hv h => codeAny_mono (F.run A outer s H args us vs Q E0 hr he hb hv (hs _ _ _ _ h)) fun r s' q => ?_⟩
  cases r with
  | ok fl => cases fl <;> exact q
  | error e =>
    obtain ⟨_, _, _, _, _, _, _, _, _, _, _, _, z⟩ := q
    exact z
section
variable {K : PySem.W.Frag} {h : Heap} {mg : Str → Option Value}
theorem exT_of (X : K.In h) (G : h.Ns mainGlobals mg) {x : Str} (g : (He.Fa.glo x).ok K = true) (e : (He.Fa.exc x).ok K = true) : ExcT K mg x := by
  obtain ⟨h1, h2, h3, h4⟩ := He.exc_ok e
  exact ⟨He.glo_ok X G g, h1, h2, h3, h4⟩
theorem txt1_of (X : K.In h) (G : h.Ns mainGlobals mg) {x : Str} {st : Stmt} {ps : List Str} (F : ∃ fd, FunD K x x (defArgs st) (defBody st) (defScope st) [] [] (He.ga K x) fd) (g : (He.Fa.glo x).ok K = true)
    (hb : ∀ (kV doc pm : Value) (an : Option Addr) (cdv ct : Value) (us : List Value), us.length = ps.length → bindArgs (PySem.W.fnOf x x (defArgs st) (defBody st) (defScope st) .none kV doc pm an cdv ct) ⟨us, []⟩ = pure (ps.zip us)) : Txt1 K mg x st ps := by
  obtain ⟨fd, F⟩ := F
  exact ⟨⟨fd, F, F.bindsN hb⟩, He.glo_ok X G g⟩
end
end Tr
namespace Tr
open PySem PySem.Spec PyProof.Rows L2
def fnZ_0 : List He.DefD := [⟨("sums_of", none), "sums_of", "sums_of", defArgs s_sums_of, defBody s_sums_of, defScope s_sums_of, [], []⟩, ⟨("is_good", none), "is_good", "is_good", defArgs s_is_good, defBody s_is_good, defScope s_is_good, [], []⟩, ⟨("is_word", none), "is_word", "is_word", defArgs s_is_word, defBody s_is_word, defScope s_is_word, [], []⟩, ⟨("see_word", none), "see_word", "see_word", defArgs s_see_word, defBody s_see_word, defScope s_see_word, [], []⟩, ⟨("counts_of", none), "counts_of", "counts_of", defArgs s_counts_of, defBody s_counts_of, defScope s_counts_of, [], []⟩, ⟨("factorial", none), "factorial", "factorial", defArgs s_factorial, defBody s_factorial, defScope s_factorial, [], []⟩, ⟨("lists_with", none), "lists_with", "lists_with", defArgs s_lists_with, defBody s_lists_with, defScope s_lists_with, [], []⟩, ⟨("trees_of", none), "trees_of", "trees_of", defArgs s_trees_of, defBody s_trees_of, defScope s_trees_of, [], []⟩, ⟨("how_many", none), "how_many", "how_many", defArgs s_how_many, defBody s_how_many, defScope s_how_many, [], []⟩, ⟨("without", none), "without", "without", defArgs s_without, defBody s_without, defScope s_without, [], []⟩, ⟨("ends_of", none), "ends_of", "ends_of", defArgs s_ends_of, defBody s_ends_of, defScope s_ends_of, [], []⟩, ⟨("word_at", none), "word_at", "word_at", defArgs s_word_at, defBody s_word_at, defScope s_word_at, [], []⟩, ⟨("all_words", none), "all_words", "all_words", defArgs s_all_words, defBody s_all_words, defScope s_all_words, [], []⟩, ⟨("_law_cell_at", none), "_law_cell_at", "_law_cell_at", defArgs s_law_cell_at, defBody s_law_cell_at, defScope s_law_cell_at, [], []⟩, ⟨("_law_whole", none), "_law_whole", "_law_whole", defArgs s_law_whole, defBody s_law_whole, defScope s_law_whole, [], []⟩, ⟨("_law_grove_by", none), "_law_grove_by", "_law_grove_by", defArgs s_law_grove_by, defBody s_law_grove_by, defScope s_law_grove_by, [], []⟩]
def fnZ_1 : List He.DefD := [⟨("_law_word", none), "_law_word", "_law_word", defArgs s_law_word, defBody s_law_word, defScope s_law_word, [], []⟩, ⟨("_law_words", none), "_law_words", "_law_words", defArgs s_law_words, defBody s_law_words, defScope s_law_words, [], []⟩, ⟨("_law_is_word", none), "_law_is_word", "_law_is_word", defArgs s_law_is_word, defBody s_law_is_word, defScope s_law_is_word, [], []⟩, ⟨("_law_numbers", none), "_law_numbers", "_law_numbers", defArgs s_law_numbers, defBody s_law_numbers, defScope s_law_numbers, [], []⟩, ⟨("_law_counts", none), "_law_counts", "_law_counts", defArgs s_law_counts, defBody s_law_counts, defScope s_law_counts, [], []⟩, ⟨("_law_multiples", none), "_law_multiples", "_law_multiples", defArgs s_law_multiples, defBody s_law_multiples, defScope s_law_multiples, [], []⟩, ⟨("_law_lists", none), "_law_lists", "_law_lists", defArgs s_law_lists, defBody s_law_lists, defScope s_law_lists, [], []⟩, ⟨("law", none), "law", "law", defArgs s_law, defBody s_law, defScope s_law, [], []⟩]
def fnZ : List He.DefD := fnZ_0 ++ fnZ_1
def faZ_0 : List He.Fa := [.glo "sums_of", .glo "is_good", .glo "is_word", .glo "see_word", .glo "counts_of", .glo "factorial", .glo "lists_with", .glo "trees_of", .glo "how_many", .glo "without", .glo "ends_of", .glo "word_at", .glo "all_words", .glo "_law_cell_at", .glo "_law_whole", .glo "_law_grove_by"]
def faZ_1 : List He.Fa := [.glo "_law_word", .glo "_law_words", .glo "_law_is_word", .glo "_law_numbers", .glo "_law_counts", .glo "_law_multiples", .glo "_law_lists", .glo "law", .free "bool", .free "enumerate", .free "int", .free "isinstance", .free "len", .free "list", .free "max", .free "range"]
def faZ_2 : List He.Fa := [.free "reversed", .free "sum", .free "tuple", .glo "TurnError", .glo "NoWord", .glo "NoSuch", .exc "TurnError", .exc "NoWord", .exc "NoSuch"]
def faZ : List He.Fa := faZ_0 ++ faZ_1 ++ faZ_2
def exL (K : PySem.W.Frag) : List Bool := []
def exZ (K : PySem.W.Frag) : Bool := (exL K).all id
abbrev RZ : PySem.W.OpenRow := PySem.W.OpenLaw.row PySem.Challenge.rw_turnrow_k08_counts_and_few_words
abbrev hkZ : PySem.W.Hook := hookZ 5 faZ fnZ exZ
def obsZ (s : PySem.W.SharedT) : He.AlD × Bool := obZ 5 faZ fnZ exZ (HandSHeadRun.getT s)
theorem obsZ_eq (s : PySem.W.SharedT) : obsZ s = hkZ.obs s.abs := obZ_eq (HandSHeadRun.getT_eq s)
def looseZ_0 : List Str := ["sums_of", "is_good", "is_word", "see_word", "counts_of", "factorial", "lists_with", "trees_of", "how_many", "without", "ends_of", "word_at", "all_words", "_law_cell_at", "_law_whole", "_law_grove_by"]
def looseZ_1 : List Str := ["_law_word", "_law_words", "_law_is_word", "_law_numbers", "_law_counts", "_law_multiples", "_law_lists", "TurnError", "NoWord", "NoSuch"]
def looseZ : List Str := looseZ_0 ++ looseZ_1
theorem runZ (w : World) : HandSHeadRun.RunEq RZ (PySem.W.view RZ.prog [31]) hkZ obsZ 6000 looseZ w := by
  intro os
  kernel_rfl
theorem factsZ {P : Program} {w : World} {K : PySem.W.Frag} {h : Heap} {mg : Str → Option Value} {f : Addr} (X : K.In h) (G : h.Ns mainGlobals mg) (hfa : mg ("law" : Str) = some (.ref f)) (c : He.SaysD faZ fnZ K) (e : exZ K = true) :
    ∃ fd : FuncData, (∀ (s : Shared) (v : Value), BindsTo s fd ⟨[v], []⟩ [("script", v)]) ∧ ∀ base : Heap, K.In base → base.Ns mainGlobals mg → FnOk P w K mg base CX0 72 f fd ["script"] (sp_law K) := by
  have el : ∀ i b, (exL K)[i]? = some b → b = true := fun i b hb => List.all_eq_true.mp e b (List.mem_of_getElem? hb)
  have T : Txt K mg := {
    f_sums_of := txt1_of X G (c.def_ 0 rfl) (c.fact 0 rfl) (fun _ _ _ _ _ _ us hl => match us, hl with | [_], _ => rfl)
    f_is_good := txt1_of X G (c.def_ 1 rfl) (c.fact 1 rfl) (fun _ _ _ _ _ _ us hl => match us, hl with | [_], _ => rfl)
    f_is_word := txt1_of X G (c.def_ 2 rfl) (c.fact 2 rfl) (fun _ _ _ _ _ _ us hl => match us, hl with | [_], _ => rfl)
    f_see_word := txt1_of X G (c.def_ 3 rfl) (c.fact 3 rfl) (fun _ _ _ _ _ _ us hl => match us, hl with | [_], _ => rfl)
    f_counts_of := txt1_of X G (c.def_ 4 rfl) (c.fact 4 rfl) (fun _ _ _ _ _ _ us hl => match us, hl with | [_], _ => rfl)
    f_factorial := txt1_of X G (c.def_ 5 rfl) (c.fact 5 rfl) (fun _ _ _ _ _ _ us hl => match us, hl with | [_], _ => rfl)
    f_lists_with := txt1_of X G (c.def_ 6 rfl) (c.fact 6 rfl) (fun _ _ _ _ _ _ us hl => match us, hl with | [_], _ => rfl)
    f_trees_of := txt1_of X G (c.def_ 7 rfl) (c.fact 7 rfl) (fun _ _ _ _ _ _ us hl => match us, hl with | [_], _ => rfl)
    f_how_many := txt1_of X G (c.def_ 8 rfl) (c.fact 8 rfl) (fun _ _ _ _ _ _ us hl => match us, hl with | [_], _ => rfl)
    f_without := txt1_of X G (c.def_ 9 rfl) (c.fact 9 rfl) (fun _ _ _ _ _ _ us hl => match us, hl with | [_, _], _ => rfl)
    f_ends_of := txt1_of X G (c.def_ 10 rfl) (c.fact 10 rfl) (fun _ _ _ _ _ _ us hl => match us, hl with | [_, _], _ => rfl)
    f_word_at := txt1_of X G (c.def_ 11 rfl) (c.fact 11 rfl) (fun _ _ _ _ _ _ us hl => match us, hl with | [_, _], _ => rfl)
    f_all_words := txt1_of X G (c.def_ 12 rfl) (c.fact 12 rfl) (fun _ _ _ _ _ _ us hl => match us, hl with | [_], _ => rfl)
    f_law_cell_at := txt1_of X G (c.def_ 13 rfl) (c.fact 13 rfl) (fun _ _ _ _ _ _ us hl => match us, hl with | [_, _], _ => rfl)
    f_law_whole := txt1_of X G (c.def_ 14 rfl) (c.fact 14 rfl) (fun _ _ _ _ _ _ us hl => match us, hl with | [_], _ => rfl)
    f_law_grove_by := txt1_of X G (c.def_ 15 rfl) (c.fact 15 rfl) (fun _ _ _ _ _ _ us hl => match us, hl with | [_, _, _, _], _ => rfl)
    f_law_word := txt1_of X G (c.def_ 16 rfl) (c.fact 16 rfl) (fun _ _ _ _ _ _ us hl => match us, hl with | [_], _ => rfl)
    f_law_words := txt1_of X G (c.def_ 17 rfl) (c.fact 17 rfl) (fun _ _ _ _ _ _ us hl => match us, hl with | [_], _ => rfl)
    f_law_is_word := txt1_of X G (c.def_ 18 rfl) (c.fact 18 rfl) (fun _ _ _ _ _ _ us hl => match us, hl with | [_], _ => rfl)
    f_law_numbers := txt1_of X G (c.def_ 19 rfl) (c.fact 19 rfl) (fun _ _ _ _ _ _ us hl => match us, hl with | [_, _], _ => rfl)
    f_law_counts := txt1_of X G (c.def_ 20 rfl) (c.fact 20 rfl) (fun _ _ _ _ _ _ us hl => match us, hl with | [_], _ => rfl)
    f_law_multiples := txt1_of X G (c.def_ 21 rfl) (c.fact 21 rfl) (fun _ _ _ _ _ _ us hl => match us, hl with | [_], _ => rfl)
    f_law_lists := txt1_of X G (c.def_ 22 rfl) (c.fact 22 rfl) (fun _ _ _ _ _ _ us hl => match us, hl with | [_], _ => rfl)
    f_law := txt1_of X G (c.def_ 23 rfl) (c.fact 23 rfl) (fun _ _ _ _ _ _ us hl => match us, hl with | [_], _ => rfl)
    m_bool := He.free_ok X G (c.fact 24 rfl)
    m_enumerate := He.free_ok X G (c.fact 25 rfl)
    m_int := He.free_ok X G (c.fact 26 rfl)
    m_isinstance := He.free_ok X G (c.fact 27 rfl)
    m_len := He.free_ok X G (c.fact 28 rfl)
    m_list := He.free_ok X G (c.fact 29 rfl)
    m_max := He.free_ok X G (c.fact 30 rfl)
    m_range := He.free_ok X G (c.fact 31 rfl)
    m_reversed := He.free_ok X G (c.fact 32 rfl)
    m_sum := He.free_ok X G (c.fact 33 rfl)
    m_tuple := He.free_ok X G (c.fact 34 rfl)
    e_TurnError := exT_of X G (c.fact 35 rfl) (c.fact 38 rfl)
    e_NoWord := exT_of X G (c.fact 36 rfl) (c.fact 39 rfl)
    e_NoSuch := exT_of X G (c.fact 37 rfl) (c.fact 40 rfl)
  }
  obtain ⟨fd, F⟩ := c.def_ 23 rfl
  have e2 := hfa.symm.trans (He.glo_ok X G (c.fact 23 rfl))
  cases e2
  have b := FunD.bindsA (ps := ["script"]) F fun _ _ _ _ _ _ us hl => match us, hl with | [_], _ => rfl
  refine ⟨fd, fun s v => b s [v] rfl, fun base _ _ => ?_⟩
  obtain ⟨⟨fd2, F2, _, hf⟩, _, _⟩ := ok_law (P := P) (w := w) (base := base) T
  obtain ⟨oc, od, _, _, _, _, _, _, _, osl, _, lk, _⟩ := id F.ex
  have e3 : fd2 = fd := hf.same ⟨oc, od, osl, lk⟩
  subst e3
  exact okZero F2 fun vs H Q E h => h
end Tr
open PySem PySem.W PySem.Calls PyProof.Rows
theorem PySem.Challenge.cw_turnrow_k08_counts_and_few_words_holds : PySem.Challenge.rw_turnrow_k08_counts_and_few_words.Holds := by
  w_on; o_law
  refine HandSHeadRun.head_any (r := OpenLaw.row PySem.Challenge.rw_turnrow_k08_counts_and_few_words) (q := view (OpenLaw.row PySem.Challenge.rw_turnrow_k08_counts_and_few_words).prog [31]) (H := Tr.hkZ) (ob := Tr.obsZ) (M := 6000) (loose := Tr.looseZ) (d := HandSHeadRun.topDef (OpenLaw.row PySem.Challenge.rw_turnrow_k08_counts_and_few_words).prog 31) (kwd := []) Tr.obsZ_eq
    (by kernel_rfl) (fun s => by kernel_rfl) Tr.runZ (by kernel_rfl) (by kernel_rfl) (by kernel_rfl) (by rfl) (by first | assumption | decide +kernel) (by decide +kernel) ⟨rfl, rfl, rfl, rfl, rfl, by decide +kernel⟩ ?hw ?hc
  case hw => w_witness2
  case hc =>
    refine L2.walk_ofE (l := PySem.Challenge.rw_turnrow_k08_counts_and_few_words) (n := 63) (k := 72) (x := "script") (CX := L2.CX0) rfl (by decide) (by kernel_rfl) ⟨rfl, by decide, by decide⟩ ?F (fun _ _ _ _ z => z)
    intro w mg fa h Y G hmg0
    obtain ⟨K, KX, c, e⟩ := Y
    have hmg : mg ("law" : PySem.Str) = some (.ref fa) := by
      have e : (HandSHeadRun.topDef (OpenLaw.row PySem.Challenge.rw_turnrow_k08_counts_and_few_words).prog 31).name = ("law" : PySem.Str) := by kernel_rfl
      rw [← e]
      exact hmg0
    obtain ⟨fd, hb, hF⟩ := Tr.factsZ (P := (PySem.Challenge.rw_turnrow_k08_counts_and_few_words).prog) (w := w) KX G hmg c e
    exact ⟨K, fd, Tr.sp_law K, KX, hb, fun H a ns hl _ hS => ⟨a, ns, rfl, hS, hl, fun _ => rfl⟩, hF⟩
#print axioms PySem.Challenge.cw_turnrow_k08_counts_and_few_words_holds
