/- The own layer: abstract values, their memory, and the steps of the model over them: for any program. -/
import Derived.Test.YtbifjcmhomoppaaGreatLib12
namespace Go.UK
open Go
set_option linter.all false
variable [Globs]
section
variable {P : Program} {T : TypeId → Option TI} {im : Nat → Bool} {n : Fr} {Q : Exit → ASt → Prop} {p : Pt}
theorem At.of (im : Nat → Bool) (hT : TOK P T) (hm : P.follows .mixedOrders = true) {c : Code} {st : ASt} {π : Prop} (e : π) (h : π → At P T im n Q (.code c [] st)) : aw P n c Q st := h e hT hm
def codePt : Pt → Code
 | .code c _ _ => c
 | _ => .skip
theorem codeP_spec {q : Pt} {g : Operand} {a : Array Tmp} {x y : Code} (h : codePt q = .rangeFunc g a x y) : ∃ ks st, q = .code (.rangeFunc g a x y) ks st := by
 unfold codePt at h
 split at h
 ·subst h; exact ⟨_, _, rfl⟩
 ·cases h
theorem At.rg {π : Prop} (k : Nat) {s : Site} {env : Env} {Hc Hc' : List Box} {args : List AV} {ret : AV} {f : FuncId} (I : ItM P f s env Hc args ret Hc' none) (hf : callable P f) (g : Operand) (σ0 : List Nat) (t : ASt) (caps : List AV)
  (h : π → At P T im n Q (Go.UK.popN (ksPt (Go.UK.adv T im [] n.n k p)) t))
  (hcode : (codePt (Go.UK.adv T im [] n.n k p), rngE g (envPt (Go.UK.adv T im [] n.n k p)), n.ro, n.rg, n.n) = (.rangeFunc g s.ps.toArray s.assign s.body, some (f, caps), none, true, s.n) := by kernel_rfl)
  (hB : (fun r : Loop => rngB (boxPt (Go.UK.adv T im [] n.n k p)) σ0 Hc Hc' args env r) = (fun _ => true) := by kernel_rfl)
  (hE : (fun r : Loop => (wkL (.yld (boxPt (Go.UK.adv T im [] n.n k p)).length :: caps) (renL (rn (σ0 ++ [(boxPt (Go.UK.adv T im [] n.n k p)).length]) ((boxPt (Go.UK.adv T im [] n.n k p)).length + 1)) args), lentBoxes (boxPt (Go.UK.adv T im [] n.n k p) ++ [Box.loop r]) (σ0 ++ [(boxPt (Go.UK.adv T im [] n.n k p)).length]), cEnv (envPt (Go.UK.adv T im [] n.n k p)) (swE (rn (σ0 ++ [(boxPt (Go.UK.adv T im [] n.n k p)).length]) ((boxPt (Go.UK.adv T im [] n.n k p)).length + 1)) env)))
   = (fun r => (renL (rn (σ0 ++ [(boxPt (Go.UK.adv T im [] n.n k p)).length]) ((boxPt (Go.UK.adv T im [] n.n k p)).length + 1)) args, (Hc ++ [Box.loop r]).map (renB (rn (σ0 ++ [(boxPt (Go.UK.adv T im [] n.n k p)).length]) ((boxPt (Go.UK.adv T im [] n.n k p)).length + 1))), swE (rn (σ0 ++ [(boxPt (Go.UK.adv T im [] n.n k p)).length]) ((boxPt (Go.UK.adv T im [] n.n k p)).length + 1)) env)) := by kernel_rfl)
  (hj : (fun r : Loop => (cOK n ⟨envPt (Go.UK.adv T im [] n.n k p), putAll (boxPt (Go.UK.adv T im [] n.n k p)) σ0 (Hc'.map (renB (rn (σ0 ++ [(boxPt (Go.UK.adv T im [] n.n k p)).length]) ((boxPt (Go.UK.adv T im [] n.n k p)).length + 1)))) ++ [.loop r]⟩ t, cSt ⟨envPt (Go.UK.adv T im [] n.n k p), putAll (boxPt (Go.UK.adv T im [] n.n k p)) σ0 (Hc'.map (renB (rn (σ0 ++ [(boxPt (Go.UK.adv T im [] n.n k p)).length]) ((boxPt (Go.UK.adv T im [] n.n k p)).length + 1)))) ++ [.loop r]⟩ t)) = (fun _ => (true, t)) := by kernel_rfl) (e0 : π) : At P T im n Q p := by
 have h := h e0
 refine At.adv (gl := []) k ?_
 generalize Go.UK.adv T im [] n.n k p = q at *
 simp only [Prod.mk.injEq] at hcode
 obtain ⟨h1, h2, h3, h4, h5⟩ := hcode
 obtain ⟨ks, st, rfl⟩ := codeP_spec h1
 intro hT hm
 exact aw_range I hf rfl h3 h4 h5 h2 (fun r => congrFun hB r) (fun r => congrFun hE r) (fun r => Go.UK.jr (congrFun hj r)) (At.popN hT hm h)
theorem At.mid {π : Prop} (k : Nat) {m : Nat} {body : Code} {H' : List Box} {kk : Option Code} {r : Loop} (hb : ∀ r2, π → At P T im n (RndM H' kk r2) (.code body [] ⟨envPt (Go.UK.adv T im [] n.n k p), (boxPt (Go.UK.adv T im [] n.n k p)).set m (.loop r2)⟩))
  (hc : (outN (Go.UK.adv T im [] n.n k p), (boxPt (Go.UK.adv T im [] n.n k p))[m]?) = (true, some (.loop r)) := by kernel_rfl) (e0 : π) : At P T im n (MidM P n m body H' kk r) p := by
 refine At.adv (gl := []) k ?_
 generalize Go.UK.adv T im [] n.n k p = q at *
 simp only [Prod.mk.injEq] at hc
 rw [outN_spec hc.1]
 exact fun hT hm => mid_n hc.2 (fun r2 => hb r2 e0 hT hm)
theorem At.rnd (k : Nat) {H' : List Box} {kk : Option Code} {r : Loop}
  (hc : (outN (Go.UK.adv T im [] n.n k p), exitOf kk .normal, (noDead (H'.length + 1) (H' ++ [.loop r]) && (Nat.ble (H'.length + 1) (boxPt (Go.UK.adv T im [] n.n k p)).length && lowBoxes (H' ++ [.loop r]) (H' ++ [.loop r]))), cBoxes (boxPt (Go.UK.adv T im [] n.n k p)) (H' ++ [.loop r])) = (true, true, true, H' ++ [.loop r]) := by kernel_rfl) : At P T im n (RndM H' kk r) p := by
 refine At.adv (gl := []) k ?_
 generalize Go.UK.adv T im [] n.n k p = q at *
 simp only [Prod.mk.injEq] at hc
 obtain ⟨h1, h2, h3, h4⟩ := hc
 rw [outN_spec h1]
 exact fun hT hm => rnd_n (Prod.ext h2 (Prod.ext h3 h4))
theorem At.fnR (im : Nat → Bool) (hT : TOK P T) (hmo : P.follows .mixedOrders = true) {f : FuncId} {fn : Func} {c : Code} {rs : List ResultVar} {args : List AV} {ret : AV} {H H' : List Box} {m lo : Nat} (hf : P.funcs[f]? = some fn) (hb : fn.body = some c) (hres : fn.results = rs.toArray)
  {π : Prop} (e : π) (h : π → At P T im (Fr.f m lo true) (RetM T lo rs ret H') (.code c [] ⟨envOf 0 args, H⟩)) (hk : (Nat.beq fn.ntmps m && (Nat.ble args.length m && Nat.beq lo H.length)) = true := by kernel_rfl) : FnM P f H args ret H' :=
 fnM_of_awR hT hf hb hk hres (h e hT hmo)
end
end Go.UK


