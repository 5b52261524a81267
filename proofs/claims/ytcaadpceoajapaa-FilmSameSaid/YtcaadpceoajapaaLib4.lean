/- The own layer: abstract values, their memory, and the steps of the model over them: for any program. -/
import Derived.Test.YtcaadpceoajapaaLib3
import Derived.Laws.Externs
import Derived.RowKit3
import Derived.OpenShut
import Derived.Deep.Slices
namespace Go.UK
open Go

/-! ### typed data as abstract values -/
def eI (k : IntKind) (x : Int) : AV := .v (.int k x)
def eB (b : Bool) : AV := .v (.bool b)
def eS (s : ByteArray) : AV := .v (.string s)
def eL {α : Type} (k : Nat) (f : α → AV) (l : List α) : AV := .sl k (l.map f)
def eA {α : Type} {m : Nat} (n k : Nat) (f : α → AV) (v : Vector α m) : AV := .arr n k (v.toList.map f)

theorem eL_pub {α : Type} {k : Nat} {f : α → AV} (h : ∀ x, PubA (f x) (f x)) (l : List α) : PubA (eL k f l) (eL k f l) := pub_sl (pubL_map h l)
theorem eA_pub {α : Type} {m n k : Nat} {f : α → AV} (h : ∀ x, PubA (f x) (f x)) (v : Vector α m) : PubA (eA n k f v) (eA n k f v) := pub_arr (pubL_map h v.toList)
theorem own_pub {α : Type} {id k : Nat} {f : α → AV} (h : ∀ x, PubA (f x) (f x)) (l : List α) : PubA (.own id k (l.map f)) (eL k f l) := pub_own (pubL_map h l)

/-! ### the pure functions' words -/
abbrev I64 (x : Int) : Int := IntKind.wrap .i64 x
abbrev I32 (x : Int) : Int := IntKind.wrap .i32 x
abbrev I16 (x : Int) : Int := IntKind.wrap .i16 x
abbrev I8 (x : Int) : Int := IntKind.wrap .i8 x
abbrev U64 (x : Int) : Int := IntKind.wrap .u64 x
abbrev U32 (x : Int) : Int := IntKind.wrap .u32 x
abbrev U16 (x : Int) : Int := IntKind.wrap .u16 x
abbrev U8 (x : Int) : Int := IntKind.wrap .u8 x
def band (k : IntKind) (a b : Int) : Int := k.wrap (BitVec.ofInt k.bits a &&& BitVec.ofInt k.bits b).toNat
def bor (k : IntKind) (a b : Int) : Int := k.wrap (BitVec.ofInt k.bits a ||| BitVec.ofInt k.bits b).toNat
def bxor (k : IntKind) (a b : Int) : Int := k.wrap (BitVec.ofInt k.bits a ^^^ BitVec.ofInt k.bits b).toNat
def bandn (k : IntKind) (a b : Int) : Int := k.wrap (BitVec.ofInt k.bits a &&& ~~~ (BitVec.ofInt k.bits b)).toNat
def bnot (k : IntKind) (a : Int) : Int := k.wrap (BitVec.ofInt k.bits (if k.signed then -1 else k.max) ^^^ BitVec.ofInt k.bits a).toNat
def shl (k : IntKind) (a b : Int) : Int := k.wrap (a * 2 ^ (min b.toNat k.bits))
def shr (k : IntKind) (a b : Int) : Int := a.fdiv (2 ^ (min b.toNat k.bits))
def imin (a b : Int) : Int := if b < a then b else a
def imax (a b : Int) : Int := if b > a then b else a

def idx {α : Type} (l : List α) (i : Int) : Option α := cond (decide (0 ≤ i)) l[i.toNat]? none
theorem idx_0 {α : Type} {l : List α} {i : Int} {x : α} (h : idx l i = some x) : 0 ≤ i := by
  unfold idx at h
  by_cases h0 : 0 ≤ i
  · exact h0
  · simp [h0] at h
theorem idx_get {α : Type} {l : List α} {i : Int} {x : α} (h : idx l i = some x) : l[i.toNat]? = some x := by
  have h0 := idx_0 h
  unfold idx at h
  simpa [h0] using h
theorem idx_x {α : Type} {l : List α} {i : Int} {x : α} (f : α → AV) (h : idx l i = some x) : (l.map f)[i.toNat]? = some (f x) := by
  rw [List.getElem?_map, idx_get h]; rfl

def reqF (c : Bool) : Option Unit := cond c none (some ())
theorem reqF_f {c : Bool} {u : Unit} (h : reqF c = some u) : c = false := by cases c with | true => cases h | false => rfl

def sumC {α β γ : Type} (s : Sum α β) (f : α → γ) (g : β → γ) : γ := match s with | .inl a => f a | .inr b => g b

section
variable {P : Program} {T : TypeId → Option TI} {n : Fr}

theorem aw_joinK {x : Code} {Q : Exit → ASt → Prop} {st : ASt} (R : ASt → Prop) (h : aw P n x (tn R Q) st) (hy : ∀ s, R s → Q .normal s) : aw P n x Q st :=
  aw_mono h fun e s hq => by cases e <;> first | exact hy s hq | exact hq

/-- what stands behind a 'drop' -/
theorem awl_runD (hT : TOK P T) (im : Nat → Bool) (gl : List Nat) (k : Nat) (slots : List Nat) {ops : Array Oper} {K : ASt → Prop} {l : List Oper} {st : ASt} (st' : ASt) (h : runP T im gl n.n ops k slots l st = some (l.drop k, st')) (hk : awl P n ops (l.drop k) K st') : awl P n ops l K st :=
  awl_run hT im gl k slots h hk

theorem awl_take {ops : Array Oper} {l : List Oper} {st : ASt} {K : ASt → Prop} (m : Nat) (R : ASt → Prop) (h : awl P n ops (l.take m) R st) (hk : ∀ s, R s → awl P n ops (l.drop m) K s) : awl P n ops l K st := by
  intro ctx a w hs
  have key : ∀ (l1 l2 : List Oper) (K1 : Exit → Act → World → Prop) (K2 : Exit → Act → World → Prop) (a : Act) (w : World),
      (∀ a w, K1 .normal a w → wpList P ops K2 l2 a w) → (∀ e a w, e ≠ .normal → K1 e a w → K2 e a w) → wpList P ops K1 l1 a w → wpList P ops K2 (l1 ++ l2) a w := by
    intro l1
    induction l1 with
    | nil => intro l2 K1 K2 a w h1 _ h; exact h1 a w h
    | cons o l1 ih =>
      intro l2 K1 K2 a w h1 h2 h
      rw [List.cons_append]
      unfold wpList at h ⊢
      split at h
      · rename_i hw
        rw [if_pos hw]
        rcases h with h | ⟨g1, a0, w0, g2⟩
        · left
          unfold Oper.wp at *
          generalize (execOp a.eval o).run P w = r at *
          cases r with
          | ok n w' =>
            cases n <;> simp only [Oper.upon] at h ⊢ <;>
              first
                | exact ih l2 K1 K2 _ _ h1 h2 h
                | exact Calls.mono h (fun e w'' he => by cases e <;> first | exact ih l2 K1 K2 _ _ h1 h2 he | exact h2 _ _ _ (by simp) he | (obtain ⟨a0, w0, g2⟩ := he; exact ⟨a0, w0, h2 _ _ _ (by simp) g2⟩))
                | exact Rows.mono h (fun _ _ he => ih l2 K1 K2 _ _ h1 h2 he)
          | halt x w' => cases x <;> simp only [Oper.upon] at h ⊢ <;> exact h2 _ _ _ (by simp) h
        · exact .inr ⟨g1, a0, w0, h2 _ _ _ (by simp) g2⟩
      · rename_i hw
        rw [if_neg hw]
        exact ih l2 K1 K2 _ _ h1 h2 h
  have := key (l.take m) (l.drop m) (lq n ctx R) (lq n ctx K) a w (fun a' w' h' => by
    obtain ⟨_, s, h1, h2⟩ := h'
    exact hk s h1 ctx a' w' h2) (fun e a' w' hne h' => absurd h'.1 hne) (h ctx a w hs)
  rwa [List.take_append_drop] at this

theorem owp_append' (hT : TOK P T) {o : Oper} {t xt e : TypeId} {sz b1 : Nat} {z : AV} {ei xi : TI} {p q : Operand} {st : ASt} {id k m d : Nat} {es ys zs : List AV} {v : AV} (hz : es ++ ys = zs)
    (ho : o.op = .call { callee := .builtin .append, args := #[p, q], argTypes := #[t, xt] }) (hd : o.dst = some d) (hn : Nat.ble n.n d = false) (ht : T t = some ⟨sz, b1, z, .sl e⟩) (he : T e = some ei) (hek : ei.size = k) (hxt : T xt = some xi) (hxk : xi.kind.noInt = true)
    (hp : opd st.env none p = some (.own id k es)) (hq : opd st.env none q = some v) (hv : srcAV v = some (k, ys)) (hH : st.H[id]? = some (.tail m)) (hm : es.length * k = m) (hkp : Nat.blt 0 k = true) (hbp : Nat.beq ei.bytes 0 = false)
    (hbound : (es.length + ys.length) * ei.bytes ≤ 140737488355328) : owp P n o st ⟨st.env.set d (none, .own id k zs), st.H.set id (.tail (zs.length * k))⟩ := by
  subst hz
  exact owp_append hT ho hd hn ht he hek hxt hxk hp hq hv hH hm hkp hbp hbound

end
end Go.UK

namespace Go.UK
open Go
def letO {α β : Type} (x : α) (f : α → β) : β := f x
theorem letO_ex {α β : Type} {x : α} {f : α → β} {r : β} (h : letO x f = r) : ∃ y, y = x ∧ f y = r := ⟨x, rfl, h⟩
theorem boolC (b : Bool) {p : Prop} (h : b = true → p) (h' : b = false → p) : p := by cases b with | true => exact h rfl | false => exact h' rfl
end Go.UK

namespace Go.UK
open Go
/-- what the model stands in for -/
def NatFn (P : Program) (f : FuncId) (xs : List Value) (y : Value) : Prop := ∀ w, (callFunc f xs.toArray).run P w = .ok (.value y) w
theorem rvl_v {μ : Mem} : ∀ {xs vs : List Value}, RvL μ (xs.map AV.v) vs → vs = xs
  | [], vs, h => h
  | x :: xs, vs, h => by
    obtain ⟨v, r, e, h1, h2⟩ := h
    rw [e, rvl_v h2, rv_bool (rv0_rv h1)]
theorem rv_tup2 {μ : Mem} {k k' : IntKind} {a b : Int} : Rv μ (.tup [eI k a, eI k' b]) (.tuple #[.int k a, .int k' b]) := by
  refine ⟨_, rfl, ?_⟩
  refine ⟨_, _, rfl, ?_, _, _, rfl, ?_, rfl⟩ <;> simp [Rv0, eI, AV.isAgg, Rc, Value.oneCell']
section
variable {P : Program} {n : Fr}
theorem owp_nat {o : Oper} {f : FuncId} {args : Array Operand} {tys : Array TypeId} {st : ASt} {xs : List Value} {y : Value} {ret : AV} {d : Nat}
    (ho : o.op = .call { callee := .value (.func f), args, argTypes := tys }) (hd : o.dst = some d) (hn : Nat.ble n.n d = false)
    (hargs : vals (opd st.env none) args.toList = some (xs.map AV.v)) (hf : NatFn P f xs y) (hr : ∀ μ, Rv μ ret y) :
    owp P n o st ⟨st.env.set d (none, ret), st.H⟩ := by
  refine owp_of_runs fun ctx a μ hm => ?_
  have hav := rvl_v (vals_spec (fun y v hv => opd_spec hm.env noG hv) _ _ hargs)
  have e : args.map a.eval = xs.toArray := by rw [← Array.toList_inj]; simpa using hav
  refine ⟨ret, μ, ⟨y, ?_, hr μ, Ext.refl μ, hm.ok⟩, fun y hy hx hok => ?_⟩
  · have hv : a.eval (.func f) = .func (.func f) #[] #[] := rfl
    simp only [execOp, ho, resolve, Deferred.ofValue, hv, Sem.run_bind, Sem.run_pure, Result.andThen_ok, invoke, Array.empty_append, Array.append_empty, e]
    exact hf μ.w
  · rw [hd, ← hm.h]
    exact sat_put hm hx hok (ble_lt hn) hy
end
def subE : Array Value → Sem Value := (Extern.MathBitsCarry.rows[1]'(by decide)).2
theorem run_subE {P : Program} (x y b : Nat) (hb : b ≤ 1) (w : World) :
    (subE #[.int .u64 x, .int .u64 y, .int .u64 b]).run P w = .ok (.tuple #[.int .u64 (((x + 18446744073709551616 - y - b) % 18446744073709551616 : Nat) : Int), .int .u64 ((if x < y + b then 1 else 0 : Nat) : Int)]) w := by
  rcases (show b = 0 ∨ b = 1 by omega) with rfl | rfl <;> rfl
def p_Add64 (x y c : Int) : Option (Int × Int) := cond (decide (0 ≤ x) && decide (0 ≤ y) && decide (0 ≤ c) && decide (c ≤ 1)) (some ((x + y + c) % 18446744073709551616, (x + y + c) / 18446744073709551616)) none
def p_Sub64 (x y c : Int) : Option (Int × Int) := cond (decide (0 ≤ x) && decide (0 ≤ y) && decide (0 ≤ c) && decide (c ≤ 1) && decide (y ≤ 18446744073709551615)) (some ((x - y - c) % 18446744073709551616, cond (decide (x < y + c)) 1 0)) none
theorem cond_s {α : Type} {c : Bool} {x r : α} (h : cond c (some x) none = some r) : c = true ∧ x = r := by cases c with | true => exact ⟨rfl, Option.some.inj h⟩ | false => cases h
theorem nat_Add64 {P : Program} {f : FuncId} {fn : Func} (hf : P.funcs[f]? = some fn) (hname : (fn.name == "runtime.NumGoroutine") = false) (hb : fn.body.isNone = true) (hn : Extern.findNext fn = none) (he : Extern.find fn = some add64Entry)
    {x y c : Int} {r : Int × Int} (h : p_Add64 x y c = some r) : NatFn P f [.int .u64 x, .int .u64 y, .int .u64 c] (.tuple #[.int .u64 r.1, .int .u64 r.2]) := by
  obtain ⟨h1, rfl⟩ := cond_s h
  simp only [Bool.and_eq_true, decide_eq_true_eq] at h1
  intro w
  rw [run_callFunc_extern hf hname hb hn he]
  rw [show [Value.int .u64 x, .int .u64 y, .int .u64 c].toArray = #[.int .u64 x, .int .u64 y, .int .u64 c] from rfl, run_add64 x y c (by omega) (by omega) (by omega) (by omega)]
  rfl
theorem nat_Sub64 {P : Program} {f : FuncId} {fn : Func} (hf : P.funcs[f]? = some fn) (hname : (fn.name == "runtime.NumGoroutine") = false) (hb : fn.body.isNone = true) (hn : Extern.findNext fn = none) (he : Extern.find fn = some subE)
    {x y c : Int} {r : Int × Int} (h : p_Sub64 x y c = some r) : NatFn P f [.int .u64 x, .int .u64 y, .int .u64 c] (.tuple #[.int .u64 r.1, .int .u64 r.2]) := by
  obtain ⟨h1, rfl⟩ := cond_s h
  simp only [Bool.and_eq_true, decide_eq_true_eq] at h1
  intro w
  rw [run_callFunc_extern hf hname hb hn he]
  obtain ⟨X, rfl⟩ := Int.eq_ofNat_of_zero_le (show 0 ≤ x by omega)
  obtain ⟨Y, rfl⟩ := Int.eq_ofNat_of_zero_le (show 0 ≤ y by omega)
  obtain ⟨C, rfl⟩ := Int.eq_ofNat_of_zero_le (show 0 ≤ c by omega)
  rw [show [Value.int .u64 (X:Int), .int .u64 (Y:Int), .int .u64 (C:Int)].toArray = #[.int .u64 (X:Int), .int .u64 (Y:Int), .int .u64 (C:Int)] from rfl, run_subE X Y C (by omega)]
  simp only [Result.andThen]
  congr 4
  · congr 3
    · omega
    · by_cases hlt : X < Y + C
      · have : (X:Int) < Y + C := by omega
        simp [hlt, this]
      · have : ¬ (X:Int) < Y + C := by omega
        simp [hlt, this]
end Go.UK

namespace Go.UK
open Go
theorem Later.grown {w w' : World} (h : Later w w') : Go.RowKit.Grown w w' := by
  refine ⟨⟨h.os, h.output, fun i hi => ?_⟩, h.frozen, h.size⟩
  rw [h.block i hi]
  cases hw : w.heap[i]? with
  | none => trivial
  | some o => cases o <;> simp
theorem ok_empty (w : World) : (⟨[], [], w, fun _ _ => False⟩ : Mem).OK where
  foreign _ _ h := h.elim
  clear _ _ _ h := h
  len := rfl
  box id o x h := by simp at h
  apart i j b x y h := by simp at h
/-- A law whose pure function says true. -/
theorem law_calls {P : Program} {f : FuncId} {args : List AV} {vs : List Value} (h : Fn P f args (eB true)) (w : World) (hr : RvL ⟨[], [], w, fun _ _ => False⟩ args vs) :
    Calls P f vs.toArray w fun e w' => e = .returned (.bool true) ∧ Go.RowKit.Grown w w' := by
  refine (h w _ vs (ok_empty w) hr).mono ?_
  rintro e w' ⟨y, rfl, hl, hy⟩
  exact ⟨by rw [rv_bool hy], hl.grown⟩
theorem rvl_int {μ : Mem} {k : IntKind} {x : Int} {xs : List AV} {vs : List Value} (h : RvL μ xs vs) : RvL μ (eI k x :: xs) (.int k x :: vs) :=
  ⟨_, _, rfl, by simp [Rv0, eI, AV.isAgg, Rc, Value.oneCell'], h⟩
theorem rvl_bool {μ : Mem} {b : Bool} {xs : List AV} {vs : List Value} (h : RvL μ xs vs) : RvL μ (eB b :: xs) (.bool b :: vs) :=
  ⟨_, _, rfl, by simp [Rv0, eB, AV.isAgg, Rc, Value.oneCell'], h⟩
theorem rvl_nil {μ : Mem} : RvL μ [] [] := rfl
theorem wf_i64 {x : Int} (h : (Lit.int .i64 x).wf = true) : -9223372036854775808 ≤ x ∧ x < 9223372036854775808 := by
  simp [Lit.wf, IntKind.min, IntKind.max] at h
  simp [IntKind.bits, IntKind.signed] at h
  omega
end Go.UK

namespace Go.UK
open Go

abbrev emp (w : World) : Mem := ⟨[], [], w, fun _ _ => False⟩
theorem emp_M {w : World} {b o : Nat} : ¬ (emp w).M b o := by
  rintro (h | h)
  · exact h
  · obtain ⟨id, h, _⟩ := h
    simp at h

theorem add_none (b o n : Nat) : (⟨b, o, none⟩ : Addr).add n = ⟨b, o + n, none⟩ := by
  unfold Addr.add
  split
  · rename_i h; subst h; rfl
  · rfl
theorem spot_none {w : World} {a : Addr} {y : Value} (h : w.cell? a = some y) : a.spot = none := by
  unfold World.cell? at h
  split at h
  · cases hs : a.spot with
    | none => rfl
    | some _ => simp [hs] at h
  · cases h

/-- What reads as data of type t is typed data. -/
def Opens (P : Program) (t : TypeId) {α : Type} (f : α → AV) (ok : α → Prop) : Prop :=
  ∀ {H : Type} (enc : TypeId × Value → H) (w : World) (spare : Nat → Bool) (fuel : Nat) (cs : List Value) (x : DataW H × List MemPlace),
    DataW.trod enc P w 0 spare true fuel t cs = some x → ∃ a, ok a ∧ Rc (emp w) (f a) cs

section
variable {P : Program} {t e : TypeId}

theorem opens_int {k : IntKind} (ht : P.underlying t = some (.int k)) : Opens P t (eI k) (fun x => (Lit.int k x).wf = true) := by
  intro H enc w spare fuel cs x h
  obtain ⟨n, rfl, _, hw⟩ := DataW.trod_int ht h
  exact ⟨n, hw, by simp [eI, Rc, Value.oneCell']⟩
theorem opens_bool (ht : P.underlying t = some .bool) : Opens P t eB (fun _ => True) := by
  intro H enc w spare fuel cs x h
  obtain ⟨b, rfl, _⟩ := DataW.trod_bool ht h
  exact ⟨b, trivial, by simp [eB, Rc, Value.oneCell']⟩
theorem opens_str (ht : P.underlying t = some .string) : Opens P t eS (fun s => s.size ≤ maxLen) := by
  intro H enc w spare fuel cs x h
  obtain ⟨s, rfl, _, hs⟩ := DataW.trod_string ht h
  exact ⟨s, hs, by simp [eS, Rc, Value.oneCell']⟩

theorem rcl_map {α : Type} {μ : Mem} {f : α → AV} (x : Nat → α) (c : Nat → List Value) : ∀ (L : List Nat), (∀ i ∈ L, Rc μ (f (x i)) (c i)) → RcL μ ((L.map x).map f) (L.flatMap c)
  | [], _ => by simp [RcL]
  | i :: L, h => by
    simp only [List.map_cons, List.flatMap_cons, RcL]
    exact ⟨_, _, rfl, h i (by simp), rcl_map x c L fun j hj => h j (by simp [hj])⟩

theorem opens_slice {α : Type} {f : α → AV} {ok : α → Prop} {k : Nat} (ht : P.underlying t = some (.slice e)) (hk : P.cellsOf e = k) (hk0 : 0 < k) (hn : ∀ a, (f a).n = k) (hf : Opens P e f ok) :
    Opens P t (eL k f) (fun l => l.length ≤ maxLen ∧ ∀ a ∈ l, ok a) := by
  intro H enc w spare fuel cs x h
  rcases Go.Deep.open_slice ht h with ⟨rfl, _⟩ | ⟨a, len, cap, m, n, D, Pl, rfl, _, hle, hmax, hm, _, hel⟩
  · exact ⟨[], ⟨by simp, by simp⟩, by simp [eL, Rc]⟩
  · have hlm : len ≤ m := by rw [hm]; split <;> omega
    rcases Nat.eq_zero_or_pos len with h0 | hpos
    · subst h0
      exact ⟨[], ⟨by simp, by simp⟩, by simp [eL, Rc]⟩
    obtain ⟨ab, ao, as⟩ := a
    have : as = none := by
      obtain ⟨c, hc, htr⟩ := hel 0 (by omega)
      rw [hk] at hc
      unfold World.cells? at hc
      rw [if_pos (by omega)] at hc
      have h1 := mapM_some_get hc 0 0 (by simp [hk0])
      have h2 : c.length = k := by simpa using mapM_some_length hc
      have h3 : c[0]? = some c[0] := List.getElem?_eq_getElem (by omega)
      rw [h3] at h1
      have := spot_none h1
      simpa [Addr.add] using this
    subst this
    have hx : ∀ i, ∃ (c : List Value) (b : Option α), i < len → c.length = k ∧ (∀ j, j < k → w.cell? ⟨ab, ao + (i * k + j), none⟩ = c[j]?) ∧ ∃ b', b = some b' ∧ ok b' ∧ Rc (emp w) (f b') c := by
      intro i
      by_cases hi : i < len
      · obtain ⟨c, hc, htr⟩ := hel i (by omega)
        obtain ⟨b, hb1, hb2⟩ := hf enc w spare n c _ htr
        refine ⟨c, some b, fun _ => ?_⟩
        rw [hk] at hc
        unfold World.cells? at hc
        rw [if_pos (by omega)] at hc
        refine ⟨by simpa using mapM_some_length hc, fun j hj => ?_, b, rfl, hb1, hb2⟩
        have := mapM_some_get hc j j (by simp [hj])
        rw [← this, add_none, add_none, Nat.add_assoc]
      · exact ⟨[], none, fun h' => absurd h' hi⟩
    obtain ⟨c, hc⟩ := Classical.axiomOfChoice hx
    obtain ⟨b, hb⟩ := Classical.axiomOfChoice hc
    obtain ⟨_, _, y0, hy0, _⟩ := hb 0 hpos
    let g : Nat → α := fun i => (b i).getD y0
    have hg : ∀ i, i < len → ok (g i) ∧ Rc (emp w) (f (g i)) (c i) := by
      intro i hi
      obtain ⟨_, _, y, hy, h1, h2⟩ := hb i hi
      have : g i = y := by simp [g, hy]
      rw [this]
      exact ⟨h1, h2⟩
    have key : ∀ n, n ≤ len → ((List.range n).flatMap c).length = n * k ∧ ∀ j y, ((List.range n).flatMap c)[j]? = some y → w.cell? ⟨ab, ao + j, none⟩ = some y := by
      intro n
      induction n with
      | zero => intro _; simp
      | succ n ih =>
        intro hle'
        obtain ⟨i1, i2⟩ := ih (by omega)
        obtain ⟨c1, c2, _⟩ := hb n (by omega)
        rw [List.range_succ, List.flatMap_append]
        refine ⟨by simp [i1, c1, Nat.succ_mul], fun j y hj => ?_⟩
        rw [List.getElem?_append] at hj
        split at hj
        · exact i2 j y hj
        · rename_i hge
          simp only [List.flatMap_cons, List.flatMap_nil, List.append_nil] at hj
          rw [i1] at hj hge
          have hlt : j - n * k < k := by
            have := (List.getElem?_eq_some_iff.1 hj).1
            omega
          have := c2 (j - n * k) hlt
          rw [show n * k + (j - n * k) = j by omega] at this
          rw [this]
          exact hj
    obtain ⟨l1, l2⟩ := key len (Nat.le_refl _)
    refine ⟨(List.range len).map g, ⟨by simpa using Nat.le_trans hle hmax, fun y hy => ?_⟩, ?_⟩
    · obtain ⟨i, hi, rfl⟩ := List.mem_map.1 hy
      exact (hg i (by simpa using hi)).1
    · have hrl := rcl_map (μ := emp w) (f := f) g c (List.range len) (fun i hi => (hg i (by simpa using hi)).2)
      simp only [eL, Rc]
      refine ⟨some ⟨ab, ao, none⟩, cap, by simp, by simpa using hle, fun z hz => ?_, ?_⟩
      · obtain ⟨y, _, rfl⟩ := List.mem_map.1 hz
        exact hn y
      · by_cases hz : (List.range len).flatMap c = []
        · left
          have hkz : len * k = 0 := by rw [← l1, hz]; rfl
          exfalso
          rcases Nat.mul_eq_zero.1 hkz with h | h
          · omega
          · omega
        · right
          exact ⟨ab, ao, _, rfl, hrl, fun j y hj => ⟨l2 j y hj, emp_M⟩⟩
end
end Go.UK

