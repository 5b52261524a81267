/- The own layer: abstract values, their memory, and the steps of the model over them: for any program. -/
import Derived.Test.YtbifjcmhomoppaaGreatLib12
namespace Go.UK
open Go
set_option linter.all false
variable [Globs]
section
variable {P : Program} {T : TypeId → Option TI} {im : Nat → Bool} {n : Fr} {Q : Exit → ASt → Prop} {p : Pt}
theorem At.of (im : Nat → Bool) (hT : TOK P T) (hm : P.follows .mixedOrders = true) {c : Code} {st : ASt} {π : Prop} (e : π) (h : π → At P T im n Q (.code c [] st)) : aw P n c Q st := h e hT hm
def codePt : Pt → Code
 | .code c _ _ => c
 | _ => .skip
theorem codeP_spec {q : Pt} {g : Operand} {a : Array Tmp} {x y : Code} (h : codePt q = .rangeFunc g a x y) : ∃ ks st, q = .code (.rangeFunc g a x y) ks st := by
 unfold codePt at h
 split at h
 ·subst h; exact ⟨_, _, rfl⟩
 ·cases h
theorem At.rg {π : Prop} (k : Nat) {s : Site} {env : Env} {Hc Hc' : List Box} {args : List AV} {ret : AV} {f : FuncId} (I : ItM P f s env Hc args ret Hc' none) (hf : callable P f) (g : Operand) (σ0 : List Nat) (t : ASt) (caps : List AV)
  (h : π → At P T im n Q (Go.UK.popN (ksPt (Go.UK.adv T im [] n.n k p)) t))
  (hcode : (codePt (Go.UK.adv T im [] n.n k p), rngE g (envPt (Go.UK.adv T im [] n.n k p)), n.ro, n.rg, n.n) = (.rangeFunc g s.ps.toArray s.assign s.body, some (f, caps), none, true, s.n) := by kernel_rfl)
  (hB : (fun r : Loop => rngB (boxPt (Go.UK.adv T im [] n.n k p)) σ0 Hc Hc' args env r) = (fun _ => true) := by kernel_rfl)
  (hE : (fun r : Loop => (wkL (.yld (boxPt (Go.UK.adv T im [] n.n k p)).length :: caps) (renL (rn (σ0 ++ [(boxPt (Go.UK.adv T im [] n.n k p)).length]) ((boxPt (Go.UK.adv T im [] n.n k p)).length + 1)) args), lentBoxes (boxPt (Go.UK.adv T im [] n.n k p) ++ [Box.loop r]) (σ0 ++ [(boxPt (Go.UK.adv T im [] n.n k p)).length]), cEnv (envPt (Go.UK.adv T im [] n.n k p)) (swE (rn (σ0 ++ [(boxPt (Go.UK.adv T im [] n.n k p)).length]) ((boxPt (Go.UK.adv T im [] n.n k p)).length + 1)) env)))
   = (fun r => (renL (rn (σ0 ++ [(boxPt (Go.UK.adv T im [] n.n k p)).length]) ((boxPt (Go.UK.adv T im [] n.n k p)).length + 1)) args, (Hc ++ [Box.loop r]).map (renB (rn (σ0 ++ [(boxPt (Go.UK.adv T im [] n.n k p)).length]) ((boxPt (Go.UK.adv T im [] n.n k p)).length + 1))), swE (rn (σ0 ++ [(boxPt (Go.UK.adv T im [] n.n k p)).length]) ((boxPt (Go.UK.adv T im [] n.n k p)).length + 1)) env)) := by kernel_rfl)
  (hj : (fun r : Loop => (cOK n ⟨envPt (Go.UK.adv T im [] n.n k p), putAll (boxPt (Go.UK.adv T im [] n.n k p)) σ0 (Hc'.map (renB (rn (σ0 ++ [(boxPt (Go.UK.adv T im [] n.n k p)).length]) ((boxPt (Go.UK.adv T im [] n.n k p)).length + 1)))) ++ [.loop r]⟩ t, cSt ⟨envPt (Go.UK.adv T im [] n.n k p), putAll (boxPt (Go.UK.adv T im [] n.n k p)) σ0 (Hc'.map (renB (rn (σ0 ++ [(boxPt (Go.UK.adv T im [] n.n k p)).length]) ((boxPt (Go.UK.adv T im [] n.n k p)).length + 1)))) ++ [.loop r]⟩ t)) = (fun _ => (true, t)) := by kernel_rfl) (e0 : π) : At P T im n Q p := by
 have h := h e0
 refine At.adv (gl := []) k ?_
 generalize Go.UK.adv T im [] n.n k p = q at *
 simp only [Prod.mk.injEq] at hcode
 obtain ⟨h1, h2, h3, h4, h5⟩ := hcode
 obtain ⟨ks, st, rfl⟩ := codeP_spec h1
 intro hT hm
 exact aw_range I hf rfl h3 h4 h5 h2 (fun r => congrFun hB r) (fun r => congrFun hE r) (fun r => Go.UK.jr (congrFun hj r)) (At.popN hT hm h)
theorem At.mid {π : Prop} (k : Nat) {m : Nat} {body : Code} {H' : List Box} {kk : Option Code} {r : Loop} (hb : ∀ r2, π → At P T im n (RndM H' kk r2) (.code body [] ⟨envPt (Go.UK.adv T im [] n.n k p), (boxPt (Go.UK.adv T im [] n.n k p)).set m (.loop r2)⟩))
  (hc : (outN (Go.UK.adv T im [] n.n k p), (boxPt (Go.UK.adv T im [] n.n k p))[m]?) = (true, some (.loop r)) := by kernel_rfl) (e0 : π) : At P T im n (MidM P n m body H' kk r) p := by
 refine At.adv (gl := []) k ?_
 generalize Go.UK.adv T im [] n.n k p = q at *
 simp only [Prod.mk.injEq] at hc
 rw [outN_spec hc.1]
 exact fun hT hm => mid_n hc.2 (fun r2 => hb r2 e0 hT hm)
theorem At.rnd (k : Nat) {H' : List Box} {kk : Option Code} {r : Loop}
  (hc : (outN (Go.UK.adv T im [] n.n k p), exitOf kk .normal, (noDead (H'.length + 1) (H' ++ [.loop r]) && (Nat.ble (H'.length + 1) (boxPt (Go.UK.adv T im [] n.n k p)).length && lowBoxes (H' ++ [.loop r]) (H' ++ [.loop r]))), cBoxes (boxPt (Go.UK.adv T im [] n.n k p)) (H' ++ [.loop r])) = (true, true, true, H' ++ [.loop r]) := by kernel_rfl) : At P T im n (RndM H' kk r) p := by
 refine At.adv (gl := []) k ?_
 generalize Go.UK.adv T im [] n.n k p = q at *
 simp only [Prod.mk.injEq] at hc
 obtain ⟨h1, h2, h3, h4⟩ := hc
 rw [outN_spec h1]
 exact fun hT hm => rnd_n (Prod.ext h2 (Prod.ext h3 h4))
end
end Go.UK


namespace Go.UK
open Go
set_option linter.all false
variable [Globs]
def callableB (P : Program) (f : FuncId) : Bool := match P.funcs[f]? with | some fn => !(fn.name == "runtime.NumGoroutine") && !fn.body.isNone | none => false
theorem callableB_spec {P : Program} {f : FuncId} (h : callableB P f = true) : callable P f := by
 unfold callableB at h
 split at h
 ·rename_i fn hf
  simp only [Bool.and_eq_true, Bool.not_eq_true'] at h
  exact ⟨fn, hf, h.1, h.2⟩
 ·cases h
def upB (bs : List (Nat × Box)) (new : List Box) (H : List Box) : List Box := (bs.foldl (fun H p => H.set p.1 p.2) H) ++ new
def upS (s : ASt) (ks : List Nat) (es : List (Nat × AV)) (m : Nat) (bs : List (Nat × Box)) (new : List Box) : ASt :=
 ⟨es.map (fun p => (p.1, some (none, p.2))) ++ ks.map (fun i => (i, look s.env i)), upB bs new (takeF m s.H)⟩
section
variable {P : Program} {T : TypeId → Option TI} {im : Nat → Bool} {n : Fr} {Q : Exit → ASt → Prop} {p : Pt}
theorem big_C (σ : List Nat) {f : FuncId} {Hc Hc' : List Box} {args : List AV} {ret : AV} (C : FnM P f Hc args ret Hc') {o : Oper} {need : Env} {H : List Box} (hf : callableB P f = true := by kernel_rfl)
  (hB : callB n o H σ Hc args = true := by kernel_rfl) (hE : callE o need H σ Hc args = (some (f, renL (rn σ H.length) args), Hc.map (renB (rn σ H.length))) := by kernel_rfl) :
  Big P n o need H (ren (rn σ H.length) ret) (outBoxes H σ Hc') := big_call σ C (callableB_spec hf) hB hE
theorem big_C0 {f : FuncId} {args : List AV} {ret x : AV} (C : FnM P f [] args ret []) {o : Oper} {need : Env} {H : List Box} (hf : callableB P f = true := by kernel_rfl)
  (hB : callB n o H [] [] args = true := by kernel_rfl) (hE : callE o need H [] [] args = (some (f, renL (rn [] H.length) args), ([] : List Box).map (renB (rn [] H.length))) := by kernel_rfl) (hx : ren (rn [] H.length) ret = x := by kernel_rfl) :
  Big P n o need H x H := big_call0 C (callableB_spec hf) hB hE hx
theorem At.f (im : Nat → Bool) (hT : TOK P T) (hmo : P.follows .mixedOrders = true) {f : FuncId} {fn : Func} {c : Code} {args : List AV} {ret : AV} {H H' : List Box} (hf : P.funcs[f]? = some fn) (hb : fn.body = some c)
  {π : Prop} (e : π) (h : π → At P T im (Fr.f fn.ntmps H.length) (RetM T H.length fn.results.toList ret H') (.code c [] ⟨envOf 0 args, H⟩)) (hk : Nat.ble args.length fn.ntmps = true := by kernel_rfl) : FnM P f H args ret H' :=
 fnM_of_aw hT hf hb (by simp [hk]) (by simp) (h e hT hmo)
theorem At.fR (im : Nat → Bool) (hT : TOK P T) (hmo : P.follows .mixedOrders = true) {f : FuncId} {fn : Func} {c : Code} {args : List AV} {ret : AV} {H H' : List Box} (hf : P.funcs[f]? = some fn) (hb : fn.body = some c)
  {π : Prop} (e : π) (h : π → At P T im (Fr.f fn.ntmps H.length true) (RetM T H.length fn.results.toList ret H') (.code c [] ⟨envOf 0 args, H⟩)) (hk : Nat.ble args.length fn.ntmps = true := by kernel_rfl) : FnM P f H args ret H' :=
 fnM_of_awR hT hf hb (by simp [hk]) (by simp) (h e hT hmo)
theorem At.J {α ρ : Type} {X : Option α} {F : α → Option ρ} {r : ρ} (k d : Nat) (ks : List Nat) (m : Nat) (t : α → List (Nat × AV) × List (Nat × Box) × List Box) (h : ∀ x, X = some x → At P T im n (tn (Go.UK.JR n (upS (stPt (Go.UK.adv T im [] n.n k p)) ks (t x).1 m (t x).2.1 (t x).2.2)) (kQ P n Q (restPt d (Go.UK.adv T im [] n.n k p)))) (cutPt d (Go.UK.adv T im [] n.n k p)))
  (hy : ∀ x, F x = some r → At P T im n Q (Go.UK.popN (restPt d (Go.UK.adv T im [] n.n k p)) (upS (stPt (Go.UK.adv T im [] n.n k p)) ks (t x).1 m (t x).2.1 (t x).2.2))) (e : Option.bind X F = some r) : At P T im n Q p := At.j k d _ h hy e
theorem At.JS {α β ρ : Type} {X : Option (Sum α β)} {F : α → Option ρ} {G : β → Option ρ} {r : ρ} (k d : Nat) (ks : List Nat) (m : Nat) (t : α → List (Nat × AV) × List (Nat × Box) × List Box) (h : ∀ o, sumC o F G = some r → X = some o → At P T im n (tn (Go.UK.JS n (fun x => upS (stPt (Go.UK.adv T im [] n.n k p)) ks (t x).1 m (t x).2.1 (t x).2.2) o) (kQ P n Q (restPt d (Go.UK.adv T im [] n.n k p)))) (cutPt d (Go.UK.adv T im [] n.n k p)))
  (hy : ∀ x, F x = some r → At P T im n Q (Go.UK.popN (restPt d (Go.UK.adv T im [] n.n k p)) (upS (stPt (Go.UK.adv T im [] n.n k p)) ks (t x).1 m (t x).2.1 (t x).2.2))) (e : Option.bind X (fun o => sumC o F G) = some r) : At P T im n Q p := At.js k d _ h hy e
abbrev InvJ := List Nat → Nat → List (Nat × AV) → List (Nat × Box) → List Box → Prop
theorem At.L {α ρ : Type} {X : Option α} {F : α → Option ρ} {r : ρ} (k : Nat) (ks : List Nat) (m : Nat) (t : α → List (Nat × AV) × List (Nat × Box) × List Box) (I : α → InvJ → Nat → Prop) (N : Nat) (h0 : ∀ x, X = some x → I x (fun ks m es bs new => JR n (upS (stPt (Go.UK.adv T im [] n.n k p)) ks es m bs new) (stPt (Go.UK.adv T im [] n.n k p))) N)
  (h : ∀ x j s, I x (fun ks m es bs new => JR n (upS (stPt (Go.UK.adv T im [] n.n k p)) ks es m bs new) s) j → At P T im n (tn (fun s' => ∃ i, i < j ∧ I x (fun ks m es bs new => JR n (upS (stPt (Go.UK.adv T im [] n.n k p)) ks es m bs new) s') i) (inB (idPt (Go.UK.adv T im [] n.n k p)) (tn (Go.UK.JR n (upS (stPt (Go.UK.adv T im [] n.n k p)) ks (t x).1 m (t x).2.1 (t x).2.2)) (kQ P n Q (restPt 1 (Go.UK.adv T im [] n.n k p)))))) (.code (bodPt (Go.UK.adv T im [] n.n k p)) [] s))
  (hy : ∀ x, F x = some r → At P T im n Q (Go.UK.popN (restPt 1 (Go.UK.adv T im [] n.n k p)) (upS (stPt (Go.UK.adv T im [] n.n k p)) ks (t x).1 m (t x).2.1 (t x).2.2))) (hi : isLp (Go.UK.adv T im [] n.n k p) = true := by kernel_rfl) (e : Option.bind X F = some r) : At P T im n Q p := by
 obtain ⟨x, e1, e2⟩ := obind e
 exact At.adv (gl := []) k fun hT hm => lp0 (fun i s => I x (fun ks m es bs new => JR n (upS (stPt (Go.UK.adv T im [] n.n k p)) ks es m bs new) s) i) N hi (h0 x e1) (le_jr (At.popN hT hm (hy x e2))) (h x) hT hm
theorem At.LS {α β ρ : Type} {X : Option (Sum α β)} {F : α → Option ρ} {G : β → Option ρ} {r : ρ} (k : Nat) (ks : List Nat) (m : Nat) (t : α → List (Nat × AV) × List (Nat × Box) × List Box) (I : Sum α β → InvJ → Nat → Prop) (N : Nat) (h0 : ∀ o, X = some o → I o (fun ks m es bs new => JR n (upS (stPt (Go.UK.adv T im [] n.n k p)) ks es m bs new) (stPt (Go.UK.adv T im [] n.n k p))) N)
  (h : ∀ o, sumC o F G = some r → ∀ j s, I o (fun ks m es bs new => JR n (upS (stPt (Go.UK.adv T im [] n.n k p)) ks es m bs new) s) j → At P T im n (tn (fun s' => ∃ i, i < j ∧ I o (fun ks m es bs new => JR n (upS (stPt (Go.UK.adv T im [] n.n k p)) ks es m bs new) s') i) (inB (idPt (Go.UK.adv T im [] n.n k p)) (tn (Go.UK.JS n (fun x => upS (stPt (Go.UK.adv T im [] n.n k p)) ks (t x).1 m (t x).2.1 (t x).2.2) o) (kQ P n Q (restPt 1 (Go.UK.adv T im [] n.n k p)))))) (.code (bodPt (Go.UK.adv T im [] n.n k p)) [] s))
  (hy : ∀ x, F x = some r → At P T im n Q (Go.UK.popN (restPt 1 (Go.UK.adv T im [] n.n k p)) (upS (stPt (Go.UK.adv T im [] n.n k p)) ks (t x).1 m (t x).2.1 (t x).2.2))) (hi : isLp (Go.UK.adv T im [] n.n k p) = true := by kernel_rfl) (e : Option.bind X (fun o => sumC o F G) = some r) : At P T im n Q p := by
 obtain ⟨o, e1, g⟩ := obind e
 exact At.adv (gl := []) k fun hT hm => lp0 (fun i s => I o (fun ks m es bs new => JR n (upS (stPt (Go.UK.adv T im [] n.n k p)) ks es m bs new) s) i) N hi (h0 o e1) (le_js g (fun x hx => At.popN hT hm (hy x hx))) (h o g) hT hm
section
variable {l : List Oper} {C : List (List Nat)} {ms : List MI} {B : Env} {H0 : List Box} {cs : CS}
theorem dF (i : Nat) (x : AV) (bs : List (Nat × Box)) (new : List Box) {r : O2} (b : Big P n (opAt l i) (needOf C ms B i) (pre1 i H0 cs) x (upB bs new (pre1 i H0 cs))) (h : or2 P n l C ms cs B H0 r) : or2 P n l C ms cs B H0 ((i, fun H => (x, upB bs new H)) :: r) := ⟨b, h⟩
theorem allIn_map {q : List Box → Prop} {β : Type} {f g : List Box → β} (h : ∀ H, f H = g H → q H) : ∀ {S : List (List Box)}, S.map f = S.map g → allIn q S
 | [], _ => trivial
 | H :: r, e => by
  simp only [List.map_cons, List.cons.injEq] at e
  exact ⟨h H e.1, allIn_map h e.2⟩
theorem dEL (hT : TOK P T) (i : Nat) (x : AV) {α : Type} (g : α → AV) (m : Nat) {l' : List α} {j : Nat} {e : α} (hx : l'[j]? = some e) {r : O1} (h : or1Y P n l C ms B H0 cs r) (hd : dOK n.n (opAt l i).dst = true := by kernel_rfl)
  (hs : (stages C i H0 cs).map (fun H => (ldE T (opAt l i) (needOf C ms B i) H m (g e), ldX T (opAt l i) (needOf C ms B i) H m (g e))) = (stages C i H0 cs).map (fun _ => (some (l'.map g, j, offA (opAt l i) (needOf C ms B i), x), x)) := by kernel_rfl) : or1Y P n l C ms B H0 cs ((i, x) :: r) := by
 refine ⟨allIn_map (fun H hH => ?_) hs, h⟩
 simp only [Prod.mk.injEq] at hH
 have := big_ldE (P := P) (n := n) hT g m hx (o := opAt l i) (need := needOf C ms B i) (H := H) hd (by rw [hH.1, hH.2])
 rwa [hH.2] at this
end
end
theorem rtS1 {α1 β : Type} {v r : β} {o1 : Sum α1 β} {F1 : α1 → Option β} {p : β → Prop} (g1 : sumC o1 F1 (fun r => some r) = some r) (e : some (Sum.inr v) = some o1) (h : p v) : p r := by cases e; cases g1; exact h
theorem rtS2 {α1 α2 β : Type} {v r : β} {o1 : Sum α1 β} {o2 : Sum α2 β} {F1 : α1 → Option (Sum α2 β)} {F2 : α2 → Option β} {p : β → Prop} (g1 : sumC o1 F1 (fun r => some (Sum.inr r)) = some o2) (g2 : sumC o2 F2 (fun r => some r) = some r) (e : some (Sum.inr v) = some o1) (h : p v) : p r := by cases e; cases g1; cases g2; exact h
end Go.UK


