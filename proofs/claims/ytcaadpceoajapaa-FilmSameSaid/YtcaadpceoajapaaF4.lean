/- A part of the proof: what the functions of the program compute. -/
import Derived.Test.YtcaadpceoajapaaF3
namespace Go.UK
open Go Go.Proofs
set_option maxRecDepth 20000
set_option linter.all false

attribute [local irreducible] owp awl aw Go.UK.Fn NatFn opS Stab TOK EqT

/-! umbra/film.Far -/
def p_film_Far (N : Nat) (a0 : Int) : Option (Int) :=
  Option.bind (p_fix_Floor N a0) fun r1 =>
  some (imin (imax r1 0) 65535)

theorem film_Far_ok (N : Nat) (a0 : Int) (r : Int) (h : p_film_Far N a0 = some r) : Fn Try.prog 35 [(eI .i64 a0)] (eI .i64 r) := by
  unfold p_film_Far at h
  refine fn_of_awR (n := ⟨7, 0⟩) (rs := [.tmp 2]) hT Try.func35 rfl rfl (by kernel_rfl) rfl ?_
  refine (show aw _ _ _ _ ⟨[(0, some (none, (eI .i64 a0)))], []⟩ from ?_)
  refine aw_sreg ?_
  refine awl_runD hT (fun _ => false) [] 1 [0] ⟨[(0, some (none, (eI .i64 a0)))], []⟩ (by kernel_rfl) ?_
  refine awl_nil ?_
  refine aw_sreg ?_
  refine awl_runD hT (fun _ => false) [] 1 [3] ⟨[(3, some (none, (eI .i64 a0)))], []⟩ (by kernel_rfl) ?_
  obtain ⟨r1, hr1, h⟩ := obind h
  refine awl_op (by kernel_rfl) (owp_call (avs := [(eI .i64 a0)]) (pavs := [(eI .i64 a0)]) (ret := (eI .i64 r1)) rfl rfl (by kernel_rfl) (by kernel_rfl) fix_Floor_ok_c (pubL_cons (pub_v _) pubL_nil) (fix_Floor_ok N a0 r1 hr1) (pub_v _)) ?_
  refine awl_runD hT (fun _ => false) [] 3 [2] ⟨[(2, some (none, (eI .i64 (imin (imax r1 0) 65535))))], []⟩ (by kernel_rfl) ?_
  refine awl_nil ?_
  refine aw_ret ?_
  obtain rfl := Option.some.inj h
  exact ⟨Or.inl rfl, [(eI .i64 (imin (imax r1 0) 65535))], by kernel_rfl, (pub_v _)⟩

theorem film_Far_ok_c : callable Try.prog 35 := ⟨_, Try.func35, by decide, rfl⟩

/-! umbra/umbralaw29.works -/
def p_umbralaw29_works (N : Nat) : Option (Bool) :=
  Option.bind (p_film_Tone N 4294967296) fun r1 =>
  letO (r1 == 32767) fun x2 =>
  Option.bind (cond x2 (
    Option.bind (p_film_Side N 0) fun r4 =>
    some (r4 == 32767)) (
    some false)) fun y3 =>
  letO y3 fun x5 =>
  Option.bind (cond x5 (
    Option.bind (p_film_Far N 300647710720000) fun r7 =>
    some (r7 == 65535)) (
    some false)) fun y6 =>
  some y6

theorem umbralaw29_works_ok (N : Nat) (r : Bool) (h : p_umbralaw29_works N = some r) : Fn Try.prog 39 [] (eB r) := by
  unfold p_umbralaw29_works at h
  refine fn_of_awR (n := ⟨11, 0⟩) (rs := [.tmp 0]) hT Try.func39 rfl rfl (by kernel_rfl) rfl ?_
  refine (show aw _ _ _ _ ⟨[], []⟩ from ?_)
  refine aw_sreg ?_
  refine awl_runD hT (fun _ => false) [] 1 [] ⟨[], []⟩ (by kernel_rfl) ?_
  refine awl_nil ?_
  refine aw_sreg ?_
  obtain ⟨r1, hr1, h⟩ := obind h
  refine awl_op (by kernel_rfl) (owp_call (avs := [(eI .i64 4294967296)]) (pavs := [(eI .i64 4294967296)]) (ret := (eI .i64 r1)) rfl rfl (by kernel_rfl) (by kernel_rfl) film_Tone_ok_c (pubL_cons (pub_v _) pubL_nil) (film_Tone_ok N 4294967296 r1 hr1) (pub_v _)) ?_
  refine awl_runD hT (fun _ => false) [] 2 [3] ⟨[(3, some (none, (eB (r1 == 32767))))], []⟩ (by kernel_rfl) ?_
  obtain ⟨x2, hx2, h⟩ := letO_ex h
  refine awl_runD hT (fun _ => false) [] 0 [3] ⟨[(3, some (none, (eB x2)))], []⟩ (by subst hx2; kernel_rfl) ?_
  obtain ⟨y3, h, gy3⟩ := obind h
  refine awl_take 3 (fun s => s = ⟨[(6, some (none, (eB y3)))], []⟩) ?_ ?_
  · refine boolC x2 (fun hc => ?_) (fun hc => ?_)
    · have h := cond_t hc h
      refine awl_runD hT (fun _ => false) [] 0 [3] ⟨[(3, some (none, (eB true)))], []⟩ (by subst hc; kernel_rfl) ?_
      obtain ⟨r4, hr4, h⟩ := obind h
      refine awl_op (by kernel_rfl) (owp_call (avs := [(eI .i64 0)]) (pavs := [(eI .i64 0)]) (ret := (eI .i64 r4)) rfl rfl (by kernel_rfl) (by kernel_rfl) film_Side_ok_c (pubL_cons (pub_v _) pubL_nil) (film_Side_ok N 0 r4 hr4) (pub_v _)) ?_
      refine awl_runD hT (fun _ => false) [3] 2 [6] ⟨[(6, some (none, (eB (r4 == 32767))))], []⟩ (by kernel_rfl) ?_
      refine awl_nil ?_
      obtain rfl := Option.some.inj h
      exact rfl
    · have h := cond_f hc h
      refine awl_runD hT (fun _ => false) [] 0 [3] ⟨[(3, some (none, (eB false)))], []⟩ (by subst hc; kernel_rfl) ?_
      refine awl_runD hT (fun _ => false) [3] 3 [6] ⟨[(6, some (none, (eB false)))], []⟩ (by kernel_rfl) ?_
      refine awl_nil ?_
      obtain rfl := Option.some.inj h
      exact rfl
  · rintro s rfl
    have h := gy3
    refine awl_runD hT (fun _ => false) [] 1 [7] ⟨[(7, some (none, (eB y3)))], []⟩ (by kernel_rfl) ?_
    obtain ⟨x5, hx5, h⟩ := letO_ex h
    refine awl_runD hT (fun _ => false) [] 0 [7] ⟨[(7, some (none, (eB x5)))], []⟩ (by subst hx5; kernel_rfl) ?_
    obtain ⟨y6, h, gy6⟩ := obind h
    refine awl_take 3 (fun s => s = ⟨[(10, some (none, (eB y6)))], []⟩) ?_ ?_
    · refine boolC x5 (fun hc => ?_) (fun hc => ?_)
      · have h := cond_t hc h
        refine awl_runD hT (fun _ => false) [] 0 [7] ⟨[(7, some (none, (eB true)))], []⟩ (by subst hc; kernel_rfl) ?_
        obtain ⟨r7, hr7, h⟩ := obind h
        refine awl_op (by kernel_rfl) (owp_call (avs := [(eI .i64 300647710720000)]) (pavs := [(eI .i64 300647710720000)]) (ret := (eI .i64 r7)) rfl rfl (by kernel_rfl) (by kernel_rfl) film_Far_ok_c (pubL_cons (pub_v _) pubL_nil) (film_Far_ok N 300647710720000 r7 hr7) (pub_v _)) ?_
        refine awl_runD hT (fun _ => false) [7] 2 [10] ⟨[(10, some (none, (eB (r7 == 65535))))], []⟩ (by kernel_rfl) ?_
        refine awl_nil ?_
        obtain rfl := Option.some.inj h
        exact rfl
      · have h := cond_f hc h
        refine awl_runD hT (fun _ => false) [] 0 [7] ⟨[(7, some (none, (eB false)))], []⟩ (by subst hc; kernel_rfl) ?_
        refine awl_runD hT (fun _ => false) [7] 3 [10] ⟨[(10, some (none, (eB false)))], []⟩ (by kernel_rfl) ?_
        refine awl_nil ?_
        obtain rfl := Option.some.inj h
        exact rfl
    · rintro s rfl
      have h := gy6
      refine awl_runD hT (fun _ => false) [] 1 [0] ⟨[(0, some (none, (eB y6)))], []⟩ (by kernel_rfl) ?_
      refine awl_nil ?_
      refine aw_ret ?_
      obtain rfl := Option.some.inj h
      exact ⟨Or.inl rfl, [(eB y6)], by kernel_rfl, (pub_v _)⟩

theorem umbralaw29_works_ok_c : callable Try.prog 39 := ⟨_, Try.func39, by decide, rfl⟩

/-! umbra/umbralaw29.FilmSame -/
def p_umbralaw29_FilmSame (N : Nat) (a0 : S_api_Image) (a1 : S_api_Image) : Option (Bool) :=
  Option.bind (p_film_Same N a0 a1) fun r1 =>
  Option.bind (p_umbraref29_Same N a0 a1) fun r2 =>
  letO (r1 == r2) fun x3 =>
  Option.bind (cond x3 (
    Option.bind (p_film_Same N a0 a0) fun r5 =>
    some r5) (
    some false)) fun y4 =>
  letO y4 fun x6 =>
  Option.bind (cond x6 (
    Option.bind (p_umbralaw29_works N ) fun r8 =>
    some r8) (
    some false)) fun y7 =>
  some y7

theorem umbralaw29_FilmSame_ok (N : Nat) (a0 : S_api_Image) (a1 : S_api_Image) (r : Bool) (h : p_umbralaw29_FilmSame N a0 a1 = some r) : Fn Try.prog 11 [(S_api_Image.enc a0), (S_api_Image.enc a1)] (eB r) := by
  unfold p_umbralaw29_FilmSame at h
  refine fn_of_awR (n := ⟨20, 0⟩) (rs := [.tmp 4]) hT Try.func11 rfl rfl (by kernel_rfl) rfl ?_
  refine (show aw _ _ _ _ ⟨[(0, some (none, (S_api_Image.enc a0))), (1, some (none, (S_api_Image.enc a1)))], []⟩ from ?_)
  refine aw_sreg ?_
  refine awl_runD hT (fun d => Nat.beq d 2 || Nat.beq d 3) [] 3 [2, 3] ⟨[(2, some (none, (.im (S_api_Image.enc a0)))), (3, some (none, (.im (S_api_Image.enc a1))))], []⟩ (by kernel_rfl) ?_
  refine awl_nil ?_
  obtain ⟨r1, hr1, h⟩ := obind h
  obtain ⟨r2, hr2, h⟩ := obind h
  refine aw_sdraw (by rfl) [⟨[2], 5, (none, (S_api_Image.enc a0))⟩, ⟨[3], 6, (none, (S_api_Image.enc a1))⟩, ⟨[5, 6], 7, (none, (eB r1))⟩, ⟨[2], 8, (none, (S_api_Image.enc a0))⟩, ⟨[3], 9, (none, (S_api_Image.enc a1))⟩, ⟨[8, 9], 10, (none, (eB r2))⟩, ⟨[7, 10], 11, (none, (eB (r1 == r2)))⟩, ⟨[11], 12, (none, (eB (r1 == r2)))⟩, ⟨[2, 12], 13, (some (12, true), (S_api_Image.enc a0))⟩, ⟨[2, 12], 14, (some (12, true), (S_api_Image.enc a0))⟩] [2, 3] [12, 13, 14] (none) (B := [(2, some (none, (.im (S_api_Image.enc a0)))), (3, some (none, (.im (S_api_Image.enc a1))))]) (st' := ⟨[(12, some (none, (eB (r1 == r2)))), (13, some (some (12, true), (S_api_Image.enc a0))), (14, some (some (12, true), (S_api_Image.enc a0)))], []⟩) (by kernel_rfl) (by kernel_rfl) (stab_all ⟨stab_ev hT (need := [(2, some (none, (.im (S_api_Image.enc a0))))]) rfl rfl (by kernel_rfl) (by kernel_rfl) rfl rfl (by kernel_rfl) (by kernel_rfl), stab_ev hT (need := [(3, some (none, (.im (S_api_Image.enc a1))))]) rfl rfl (by kernel_rfl) (by kernel_rfl) rfl rfl (by kernel_rfl) (by kernel_rfl), stab_owp (need := [(5, some (none, (S_api_Image.enc a0))), (6, some (none, (S_api_Image.enc a1)))]) rfl rfl (by kernel_rfl) (by kernel_rfl) rfl (fun env H' hs => (owp_call (avs := [(S_api_Image.enc a0), (S_api_Image.enc a1)]) (pavs := [(S_api_Image.enc a0), (S_api_Image.enc a1)]) (ret := (eB r1)) rfl rfl (by kernel_rfl) (sub_vals hs (by kernel_rfl)) film_Same_ok_c (pubL_cons (S_api_Image.pub a0) (pubL_cons (S_api_Image.pub a1) pubL_nil)) (film_Same_ok N a0 a1 r1 hr1) (pub_v _))), stab_ev hT (need := [(2, some (none, (.im (S_api_Image.enc a0))))]) rfl rfl (by kernel_rfl) (by kernel_rfl) rfl rfl (by kernel_rfl) (by kernel_rfl), stab_ev hT (need := [(3, some (none, (.im (S_api_Image.enc a1))))]) rfl rfl (by kernel_rfl) (by kernel_rfl) rfl rfl (by kernel_rfl) (by kernel_rfl), stab_owp (need := [(8, some (none, (S_api_Image.enc a0))), (9, some (none, (S_api_Image.enc a1)))]) rfl rfl (by kernel_rfl) (by kernel_rfl) rfl (fun env H' hs => (owp_call (avs := [(S_api_Image.enc a0), (S_api_Image.enc a1)]) (pavs := [(S_api_Image.enc a0), (S_api_Image.enc a1)]) (ret := (eB r2)) rfl rfl (by kernel_rfl) (sub_vals hs (by kernel_rfl)) umbraref29_Same_ok_c (pubL_cons (S_api_Image.pub a0) (pubL_cons (S_api_Image.pub a1) pubL_nil)) (umbraref29_Same_ok N a0 a1 r2 hr2) (pub_v _))), stab_ev hT (need := [(7, some (none, (eB r1))), (10, some (none, (eB r2)))]) rfl rfl (by kernel_rfl) (by kernel_rfl) rfl rfl (by kernel_rfl) (by kernel_rfl), stab_ev hT (need := [(11, some (none, (eB (r1 == r2))))]) rfl rfl (by kernel_rfl) (by kernel_rfl) rfl rfl (by kernel_rfl) (by kernel_rfl), stab_flag hT (b0 := r1 == r2) (j := 7) (dj := 12) (need := [(2, some (none, (.im (S_api_Image.enc a0)))), (12, some (none, (eB (r1 == r2))))]) rfl rfl (by kernel_rfl) (by kernel_rfl) rfl rfl rfl (by kernel_rfl) (by kernel_rfl) (by kernel_rfl) (by kernel_rfl), stab_flag hT (b0 := r1 == r2) (j := 7) (dj := 12) (need := [(2, some (none, (.im (S_api_Image.enc a0)))), (12, some (none, (eB (r1 == r2))))]) rfl rfl (by kernel_rfl) (by kernel_rfl) rfl rfl rfl (by kernel_rfl) (by kernel_rfl) (by kernel_rfl) (by kernel_rfl), trivial⟩) (by kernel_rfl) ?_
  obtain ⟨x3, hx3, h⟩ := letO_ex h
  refine awl_runD hT (fun _ => false) [] 0 [12, 13, 14] ⟨[(12, some (none, (eB x3))), (13, some (some (12, true), (S_api_Image.enc a0))), (14, some (some (12, true), (S_api_Image.enc a0)))], []⟩ (by subst hx3; kernel_rfl) ?_
  obtain ⟨y4, h, gy4⟩ := obind h
  refine awl_take 2 (fun s => s = ⟨[(16, some (none, (eB y4)))], []⟩) ?_ ?_
  · refine boolC x3 (fun hc => ?_) (fun hc => ?_)
    · have h := cond_t hc h
      refine awl_runD hT (fun _ => false) [] 0 [12, 13, 14] ⟨[(12, some (none, (eB true))), (13, some (some (12, true), (S_api_Image.enc a0))), (14, some (some (12, true), (S_api_Image.enc a0)))], []⟩ (by subst hc; kernel_rfl) ?_
      refine awl_settle 12 true (by kernel_rfl) ?_
      refine awl_runD hT (fun _ => false) [] 0 [12, 13, 14] ⟨[(12, some (none, (eB true))), (13, some (none, (S_api_Image.enc a0))), (14, some (none, (S_api_Image.enc a0)))], []⟩ (by kernel_rfl) ?_
      obtain ⟨r5, hr5, h⟩ := obind h
      refine awl_op (by kernel_rfl) (owp_call (avs := [(S_api_Image.enc a0), (S_api_Image.enc a0)]) (pavs := [(S_api_Image.enc a0), (S_api_Image.enc a0)]) (ret := (eB r5)) rfl rfl (by kernel_rfl) (by kernel_rfl) film_Same_ok_c (pubL_cons (S_api_Image.pub a0) (pubL_cons (S_api_Image.pub a0) pubL_nil)) (film_Same_ok N a0 a0 r5 hr5) (pub_v _)) ?_
      refine awl_runD hT (fun _ => false) [12] 1 [16] ⟨[(16, some (none, (eB r5)))], []⟩ (by kernel_rfl) ?_
      refine awl_nil ?_
      obtain rfl := Option.some.inj h
      exact rfl
    · have h := cond_f hc h
      refine awl_runD hT (fun _ => false) [] 0 [12, 13, 14] ⟨[(12, some (none, (eB false))), (13, some (some (12, true), (S_api_Image.enc a0))), (14, some (some (12, true), (S_api_Image.enc a0)))], []⟩ (by subst hc; kernel_rfl) ?_
      refine awl_settle 12 false (by kernel_rfl) ?_
      refine awl_runD hT (fun _ => false) [] 0 [12] ⟨[(12, some (none, (eB false)))], []⟩ (by kernel_rfl) ?_
      refine awl_runD hT (fun _ => false) [12] 2 [16] ⟨[(16, some (none, (eB false)))], []⟩ (by kernel_rfl) ?_
      refine awl_nil ?_
      obtain rfl := Option.some.inj h
      exact rfl
  · rintro s rfl
    have h := gy4
    refine awl_runD hT (fun _ => false) [] 1 [17] ⟨[(17, some (none, (eB y4)))], []⟩ (by kernel_rfl) ?_
    obtain ⟨x6, hx6, h⟩ := letO_ex h
    refine awl_runD hT (fun _ => false) [] 0 [17] ⟨[(17, some (none, (eB x6)))], []⟩ (by subst hx6; kernel_rfl) ?_
    obtain ⟨y7, h, gy7⟩ := obind h
    refine awl_take 2 (fun s => s = ⟨[(19, some (none, (eB y7)))], []⟩) ?_ ?_
    · refine boolC x6 (fun hc => ?_) (fun hc => ?_)
      · have h := cond_t hc h
        refine awl_runD hT (fun _ => false) [] 0 [17] ⟨[(17, some (none, (eB true)))], []⟩ (by subst hc; kernel_rfl) ?_
        obtain ⟨r8, hr8, h⟩ := obind h
        refine awl_op (by kernel_rfl) (owp_call (avs := []) (pavs := []) (ret := (eB r8)) rfl rfl (by kernel_rfl) (by kernel_rfl) umbralaw29_works_ok_c pubL_nil (umbralaw29_works_ok N  r8 hr8) (pub_v _)) ?_
        refine awl_runD hT (fun _ => false) [17] 1 [19] ⟨[(19, some (none, (eB r8)))], []⟩ (by kernel_rfl) ?_
        refine awl_nil ?_
        obtain rfl := Option.some.inj h
        exact rfl
      · have h := cond_f hc h
        refine awl_runD hT (fun _ => false) [] 0 [17] ⟨[(17, some (none, (eB false)))], []⟩ (by subst hc; kernel_rfl) ?_
        refine awl_runD hT (fun _ => false) [17] 2 [19] ⟨[(19, some (none, (eB false)))], []⟩ (by kernel_rfl) ?_
        refine awl_nil ?_
        obtain rfl := Option.some.inj h
        exact rfl
    · rintro s rfl
      have h := gy7
      refine awl_runD hT (fun _ => false) [] 1 [4] ⟨[(4, some (none, (eB y7)))], []⟩ (by kernel_rfl) ?_
      refine awl_nil ?_
      refine aw_ret ?_
      obtain rfl := Option.some.inj h
      exact ⟨Or.inl rfl, [(eB y7)], by kernel_rfl, (pub_v _)⟩

theorem umbralaw29_FilmSame_ok_c : callable Try.prog 11 := ⟨_, Try.func11, by decide, rfl⟩

end Go.UK
