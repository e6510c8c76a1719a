/- FnHeldPut's functions as plain functions, printed off the program; each 'ok' says that the code computes it. No conditions. -/
import Derived.Test.YtanjepehphnfhaaChecked
import Derived.Test.YtanjepehphnfhaaHvC
set_option maxHeartbeats 4000000
namespace Go.Ev
open Go.Proofs
set_option maxRecDepth 100000


set_option maxHeartbeats 0
noncomputable def tys : Types := look [(3, ⟨.int .i64, [.int .i64], 8⟩),
  (4, ⟨.bool, [.bool], 1⟩),
  (5, ⟨.int .u8, [.int .u8], 1⟩),
  (9, ⟨.str, [.str], 16⟩),
  (24, ⟨.slc 40, [.slc 40], 24⟩),
  (31, ⟨.slc 5, [.slc 5], 24⟩),
  (36, ⟨.slc 9, [.slc 9], 24⟩),
  (38, ⟨.struct [(0, 3), (1, 9), (2, 36)], [.int .i64, .str, .slc 9], 48⟩),
  (40, ⟨.struct [(0, 3), (1, 38)], [.int .i64, .int .i64, .str, .slc 9], 56⟩),
  (93, ⟨.slc 3, [.slc 3], 24⟩),
  (122, ⟨.ptr 207, [.ptr 207], 8⟩),
  (136, ⟨.fn, [.fn], 8⟩),
  (207, ⟨.struct [(0, 31), (1, 3), (2, 3)], [.slc 5, .int .i64, .int .i64], 40⟩)]
def eql : List TypeId := []
def eqs (t : TypeId) : Bool := idIn (t, 0) (eql.map fun t => (t, 0))
theorem tysOk : TyOk Try.prog tys := tyOk_of (by kernel_rfl)
theorem eqsOk : ∀ t, eqs t = true → EqOk Try.prog t (cksOf tys t) := eqOk_of (by kernel_rfl)
theorem mixed : Try.prog.follows .mixedOrders = true := by kernel_rfl
/-! ### 83: loop.example/g00106/spec.l1In -/
noncomputable def f83 (a0 : Int) (a1 : Int) (a2 : Int) : Option (List D) :=
  if (leI a1 a0) = true then
    some [D.bool (leI a0 a2)]
  else
    some [D.bool false]
noncomputable def live83 : Nat → List (Nat × LHint) := fun n => match n with
  | _ => []
noncomputable def env83 : Env := ⟨tys, look [], eqs⟩
noncomputable def fi83 : FI := { ps := [.val false [(.int .i64, 0)], .val false [(.int .i64, 0)], .val false [(.int .i64, 0)]], rs := [.val false [(.bool, 0)]], fresh := true, run := fun ds => f83 ((ds.headD .undef).asInt) (((ds.drop 1).headD .undef).asInt) ((((ds.drop 1).drop 1).headD .undef).asInt) }
theorem run83 (ds : List D) : evalFW env83 live83 Try.f83 [.val false [(.int .i64, 0)], .val false [(.int .i64, 0)], .val false [(.int .i64, 0)]] [.val false [(.bool, 0)]] ds = fi83.run ds := by kernel_rfl
theorem ok83 : FnOk Try.prog tys 83 fi83 :=
  evalF_ok (live := live83) mixed tysOk (E := env83) rfl (envOk (trivial) eqsOk) Try.func83 (c := (Try.f83.body).getD .skip) (by kernel_rfl) (by rw [show Try.f83.name = "loop.example/g00106/spec.l1In" by kernel_rfl]; decide) (fun ds out h => evalFW_some ((run83 ds).trans h)) (by decide) (by decide) (fun _ => by kernel_rfl)
/-! ### 81: loop.example/g00106/spec.l1Min -/
noncomputable def f81 (a0 : Int) (a1 : Int) : Option (List D) :=
  if (ltI a0 a1) = true then
    some [D.int .i64 a0]
  else
    some [D.int .i64 a1]
noncomputable def live81 : Nat → List (Nat × LHint) := fun n => match n with
  | _ => []
noncomputable def env81 : Env := ⟨tys, look [], eqs⟩
noncomputable def fi81 : FI := { ps := [.val false [(.int .i64, 0)], .val false [(.int .i64, 0)]], rs := [.val false [(.int .i64, 0)]], fresh := true, run := fun ds => f81 ((ds.headD .undef).asInt) (((ds.drop 1).headD .undef).asInt) }
theorem run81 (ds : List D) : evalFW env81 live81 Try.f81 [.val false [(.int .i64, 0)], .val false [(.int .i64, 0)]] [.val false [(.int .i64, 0)]] ds = fi81.run ds := by kernel_rfl
theorem ok81 : FnOk Try.prog tys 81 fi81 :=
  evalF_ok (live := live81) mixed tysOk (E := env81) rfl (envOk (trivial) eqsOk) Try.func81 (c := (Try.f81.body).getD .skip) (by kernel_rfl) (by rw [show Try.f81.name = "loop.example/g00106/spec.l1Min" by kernel_rfl]; decide) (fun ds out h => evalFW_some ((run81 ds).trans h)) (by decide) (by decide) (fun _ => by kernel_rfl)
/-! ### 158: loop.example/g00106/spec.l9Long -/
noncomputable def f158 (a0 : Int) (a1 : Int) : Option (List D) :=
  callB (f81 16 (IntKind.wrap .i64 (a0 - (IntKind.wrap .i64 (a1 * 16))))) fun r1 =>
  some [D.int .i64 ((r1.headD .undef).asInt)]
noncomputable def live158 : Nat → List (Nat × LHint) := fun n => match n with
  | _ => []
noncomputable def env158 : Env := ⟨tys, look [(81, fi81)], eqs⟩
noncomputable def fi158 : FI := { ps := [.val false [(.int .i64, 0)], .val false [(.int .i64, 0)]], rs := [.val false [(.int .i64, 0)]], fresh := true, run := fun ds => f158 ((ds.headD .undef).asInt) (((ds.drop 1).headD .undef).asInt) }
theorem run158 (ds : List D) : evalFW env158 live158 Try.f158 [.val false [(.int .i64, 0)], .val false [(.int .i64, 0)]] [.val false [(.int .i64, 0)]] ds = fi158.run ds := by kernel_rfl
theorem ok158 : FnOk Try.prog tys 158 fi158 :=
  evalF_ok (live := live158) mixed tysOk (E := env158) rfl (envOk (⟨ok81, trivial⟩) eqsOk) Try.func158 (c := (Try.f158.body).getD .skip) (by kernel_rfl) (by rw [show Try.f158.name = "loop.example/g00106/spec.l9Long" by kernel_rfl]; decide) (fun ds out h => evalFW_some ((run158 ds).trans h)) (by decide) (by decide) (fun _ => by kernel_rfl)
/-! ### 168: loop.example/g00106/spec.PartsOf -/
noncomputable def f168 (a0 : Int) : Option (List D) :=
  callB (f83 a0 0 1000) fun r1 =>
  if (!((r1.headD .undef).asBool)) = true then
    some [D.int .i64 (-1)]
  else
    let v2 : Int := IntKind.wrap .i64 (Int.tdiv (IntKind.wrap .i64 ((IntKind.wrap .i64 (a0 + 16)) - 1)) 16)
    some [D.int .i64 v2]
noncomputable def live168 : Nat → List (Nat × LHint) := fun n => match n with
  | _ => []
noncomputable def env168 : Env := ⟨tys, look [(83, fi83)], eqs⟩
noncomputable def fi168 : FI := { ps := [.val false [(.int .i64, 0)]], rs := [.val false [(.int .i64, 0)]], fresh := true, run := fun ds => f168 ((ds.headD .undef).asInt) }
theorem run168 (ds : List D) : evalFW env168 live168 Try.f168 [.val false [(.int .i64, 0)]] [.val false [(.int .i64, 0)]] ds = fi168.run ds := by kernel_rfl
theorem ok168 : FnOk Try.prog tys 168 fi168 :=
  evalF_ok (live := live168) mixed tysOk (E := env168) rfl (envOk (⟨ok83, trivial⟩) eqsOk) Try.func168 (c := (Try.f168.body).getD .skip) (by kernel_rfl) (by rw [show Try.f168.name = "loop.example/g00106/spec.PartsOf" by kernel_rfl]; decide) (fun ds out h => evalFW_some ((run168 ds).trans h)) (by decide) (by decide) (fun _ => by kernel_rfl)
/-! ### 84: loop.example/g00106/spec.ParcelOk -/
noncomputable def b84_4 (a0 : Int) (a1 : ByteArray) (a2 : List (List D)) (a3 : Int) : Option (Nat × List D) :=
  if (ltI a3 ((a2.length : Int))) = true then
    if (leI 0 a3 && ltI a3 ((a2.length : Int))) = true then
      if ((((rS (a2.getD a3.toNat []) 0).size : Int)) != 0) = true then
        if (leI 0 a3 && ltI a3 ((a2.length : Int))) = true then
          callB (f158 a0 a3) fun r1 =>
          let v2 : Bool := (((rS (a2.getD a3.toNat []) 0).size : Int)) != ((r1.headD .undef).asInt)
          if v2 = true then
            some (1, [D.bool false])
          else
            some (0, [D.int .i64 a0, D.str a1, D.slc a2, D.int .i64 (IntKind.wrap .i64 (a3 + 1))])
        else
          none
      else
        some (0, [D.int .i64 a0, D.str a1, D.slc a2, D.int .i64 (IntKind.wrap .i64 (a3 + 1))])
    else
      none
  else
    some (2, [D.int .i64 a0, D.str a1, D.slc a2, D.int .i64 a3])
noncomputable def B84_4 : Step := fun ds => b84_4 ((ds.headD .undef).asInt) ((ds.tail.headD .undef).asStr) ((ds.tail.tail.headD .undef).asRows) (((ds.drop 3).headD .undef).asInt)
noncomputable def f84 (a0 : Int) (a1 : ByteArray) (a2 : List (List D)) : Option (List D) :=
  callB (f168 a0) fun r1 =>
  if (ltI ((r1.headD .undef).asInt) 0) = true then
    some [D.bool false]
  else
    if (((a1.size : Int)) != 32) = true then
      some [D.bool false]
    else
      callB (f168 a0) fun r2 =>
      if (((a2.length : Int)) != ((r2.headD .undef).asInt)) = true then
        some [D.bool false]
      else
        getB (whileW B84_4 [D.int .i64 a0, D.str a1, D.slc a2, D.int .i64 0]) fun x3 =>
        if (Nat.beq x3.1 2) = true then
          some [D.bool true]
        else
          if (Nat.beq x3.1 1) = true then
            some x3.2
          else
            none
noncomputable def live84 : Nat → List (Nat × LHint) := fun n => match n with
  | 4 => [(1, .auto []), (3, .auto [.int .i64])]
  | _ => []
noncomputable def env84 : Env := ⟨tys, look [(158, fi158), (168, fi168)], eqs⟩
noncomputable def fi84 : FI := { ps := [.val true [(.int .i64, 0), (.str, 0), (.slc 9, 0)]], rs := [.val false [(.bool, 0)]], fresh := true, run := fun ds => f84 ((ds.headD .undef).asInt) ((ds.tail.headD .undef).asStr) ((ds.tail.tail.headD .undef).asRows) }
theorem run84 (ds : List D) : evalFW env84 live84 Try.f84 [.val true [(.int .i64, 0), (.str, 0), (.slc 9, 0)]] [.val false [(.bool, 0)]] ds = fi84.run ds := by kernel_rfl
theorem ok84 : FnOk Try.prog tys 84 fi84 :=
  evalF_ok (live := live84) mixed tysOk (E := env84) rfl (envOk (⟨ok158, ⟨ok168, trivial⟩⟩) eqsOk) Try.func84 (c := (Try.f84.body).getD .skip) (by kernel_rfl) (by rw [show Try.f84.name = "loop.example/g00106/spec.ParcelOk" by kernel_rfl]; decide) (fun ds out h => evalFW_some ((run84 ds).trans h)) (by decide) (by decide) (fun _ => by kernel_rfl)
/-! ### 21: loop.example/g00106/spec.HeldsOk -/
noncomputable def b21_4 (a0 : List (List D)) (a1 : Int) : Option (Nat × List D) :=
  if (ltI a1 ((a0.length : Int))) = true then
    if (leI 0 a1 && ltI a1 ((a0.length : Int))) = true then
      callB (f83 (rI (a0.getD a1.toNat []) 0) 1 1000) fun r1 =>
      if (!((r1.headD .undef).asBool)) = true then
        some (1, [D.bool false])
      else
        if (ltI 0 a1) = true then
          if (leI 0 (IntKind.wrap .i64 (a1 - 1)) && ltI (IntKind.wrap .i64 (a1 - 1)) ((a0.length : Int))) = true then
            if (leI 0 a1 && ltI a1 ((a0.length : Int))) = true then
              let v2 : Bool := leI (rI (a0.getD a1.toNat []) 0) (rI (a0.getD ((IntKind.wrap .i64 (a1 - 1)).toNat) []) 0)
              if v2 = true then
                some (1, [D.bool false])
              else
                if (leI 0 a1 && ltI a1 ((a0.length : Int))) = true then
                  callB (f84 (rI (a0.getD a1.toNat []) 1) (rS (a0.getD a1.toNat []) 2) (rL (a0.getD a1.toNat []) 3)) fun r3 =>
                  if (!((r3.headD .undef).asBool)) = true then
                    some (1, [D.bool false])
                  else
                    some (0, [D.slc a0, D.int .i64 (IntKind.wrap .i64 (a1 + 1))])
                else
                  none
            else
              none
          else
            none
        else
          if (leI 0 a1 && ltI a1 ((a0.length : Int))) = true then
            callB (f84 (rI (a0.getD a1.toNat []) 1) (rS (a0.getD a1.toNat []) 2) (rL (a0.getD a1.toNat []) 3)) fun r4 =>
            if (!((r4.headD .undef).asBool)) = true then
              some (1, [D.bool false])
            else
              some (0, [D.slc a0, D.int .i64 (IntKind.wrap .i64 (a1 + 1))])
          else
            none
    else
      none
  else
    some (2, [D.slc a0, D.int .i64 a1])
noncomputable def B21_4 : Step := fun ds => b21_4 ((ds.headD .undef).asRows) (((ds.drop 1).headD .undef).asInt)
noncomputable def f21 (a0 : List (List D)) : Option (List D) :=
  if (ltI 8 ((a0.length : Int))) = true then
    some [D.bool false]
  else
    getB (whileW B21_4 [D.slc a0, D.int .i64 0]) fun x1 =>
    if (Nat.beq x1.1 2) = true then
      some [D.bool true]
    else
      if (Nat.beq x1.1 1) = true then
        some x1.2
      else
        none
noncomputable def live21 : Nat → List (Nat × LHint) := fun n => match n with
  | 4 => [(0, .auto [.slc 40]), (3, .auto [.int .i64])]
  | _ => []
noncomputable def env21 : Env := ⟨tys, look [(83, fi83), (84, fi84)], eqs⟩
noncomputable def fi21 : FI := { ps := [.val false [(.slc 40, 0)]], rs := [.val false [(.bool, 0)]], fresh := true, run := fun ds => f21 ((ds.headD .undef).asRows) }
theorem run21 (ds : List D) : evalFW env21 live21 Try.f21 [.val false [(.slc 40, 0)]] [.val false [(.bool, 0)]] ds = fi21.run ds := by kernel_rfl
theorem ok21 : FnOk Try.prog tys 21 fi21 :=
  evalF_ok (live := live21) mixed tysOk (E := env21) rfl (envOk (⟨ok83, ⟨ok84, trivial⟩⟩) eqsOk) Try.func21 (c := (Try.f21.body).getD .skip) (by kernel_rfl) (by rw [show Try.f21.name = "loop.example/g00106/spec.HeldsOk" by kernel_rfl]; decide) (fun ds out h => evalFW_some ((run21 ds).trans h)) (by decide) (by decide) (fun _ => by kernel_rfl)
/-! ### 88: loop.example/g00106/spec.l9Copy -/
noncomputable def f88 (a0 : Int) (a1 : ByteArray) (a2 : List (List D)) : Option (List D) :=
  if (lenB (0 + a2.length) 16) = true then
    some [D.int .i64 a0, D.str a1, D.slc (([]) ++ a2)]
  else
    none
noncomputable def live88 : Nat → List (Nat × LHint) := fun n => match n with
  | _ => []
noncomputable def env88 : Env := ⟨tys, look [], eqs⟩
noncomputable def fi88 : FI := { ps := [.val true [(.int .i64, 0), (.str, 0), (.slc 9, 0)]], rs := [.val true [(.int .i64, 0), (.str, 0), (.slc 9, 1)]], fresh := true, run := fun ds => f88 ((ds.headD .undef).asInt) ((ds.tail.headD .undef).asStr) ((ds.tail.tail.headD .undef).asRows) }
theorem run88 (ds : List D) : evalFW env88 live88 Try.f88 [.val true [(.int .i64, 0), (.str, 0), (.slc 9, 0)]] [.val true [(.int .i64, 0), (.str, 0), (.slc 9, 1)]] ds = fi88.run ds := by kernel_rfl
theorem ok88 : FnOk Try.prog tys 88 fi88 :=
  evalF_ok (live := live88) mixed tysOk (E := env88) rfl (envOk (trivial) eqsOk) Try.func88 (c := (Try.f88.body).getD .skip) (by kernel_rfl) (by rw [show Try.f88.name = "loop.example/g00106/spec.l9Copy" by kernel_rfl]; decide) (fun ds out h => evalFW_some ((run88 ds).trans h)) (by decide) (by decide) (fun _ => by kernel_rfl)
/-! ### 64: loop.example/g00106/spec.l14Copy -/
noncomputable def b64_3 (a0 : List (List D)) (a1 : List (List D)) (a2 : Int) : Option (Nat × List D) :=
  if (ltI a2 ((a0.length : Int))) = true then
    if (leI 0 a2 && ltI a2 ((a0.length : Int))) = true then
      if (leI 0 a2 && ltI a2 ((a0.length : Int))) = true then
        callB (f88 (rI (a0.getD a2.toNat []) 1) (rS (a0.getD a2.toNat []) 2) (rL (a0.getD a2.toNat []) 3)) fun r1 =>
        if (lenB (a1.length + 1) 56) = true then
          let v2 : List (List D) := a1 ++ ([[D.int .i64 (rI (a0.getD a2.toNat []) 0), D.int .i64 ((r1.headD .undef).asInt), D.str ((r1.tail.headD .undef).asStr), D.slc (((r1.tail.tail.headD .undef)).asRows)]])
          some (0, [D.slc a0, D.slc v2, D.int .i64 (IntKind.wrap .i64 (a2 + 1))])
        else
          none
      else
        none
    else
      none
  else
    some (2, [D.slc a0, D.slc a1, D.int .i64 a2])
noncomputable def B64_3 : Step := fun ds => b64_3 ((ds.headD .undef).asRows) (((ds.drop 1).headD .undef).asRows) ((((ds.drop 1).drop 1).headD .undef).asInt)
noncomputable def f64 (a0 : List (List D)) : Option (List D) :=
  getB (whileW B64_3 [D.slc a0, D.slc ([]), D.int .i64 0]) fun x1 =>
  if (Nat.beq x1.1 2) = true then
    some [D.slc ((((x1.2.drop 1).headD .undef)).asRows)]
  else
    if (Nat.beq x1.1 1) = true then
      some x1.2
    else
      none
noncomputable def live64 : Nat → List (Nat × LHint) := fun n => match n with
  | 3 => [(0, .auto [.slc 40]), (3, .fixed (.val false [(.slc 40, 2)])), (4, .auto [.int .i64])]
  | _ => []
noncomputable def env64 : Env := ⟨tys, look [(88, fi88)], eqs⟩
noncomputable def fi64 : FI := { ps := [.val false [(.slc 40, 0)]], rs := [.val false [(.slc 40, 2)]], fresh := true, run := fun ds => f64 ((ds.headD .undef).asRows) }
theorem run64 (ds : List D) : evalFW env64 live64 Try.f64 [.val false [(.slc 40, 0)]] [.val false [(.slc 40, 2)]] ds = fi64.run ds := by kernel_rfl
theorem ok64 : FnOk Try.prog tys 64 fi64 :=
  evalF_ok (live := live64) mixed tysOk (E := env64) rfl (envOk (⟨ok88, trivial⟩) eqsOk) Try.func64 (c := (Try.f64.body).getD .skip) (by kernel_rfl) (by rw [show Try.f64.name = "loop.example/g00106/spec.l14Copy" by kernel_rfl]; decide) (fun ds out h => evalFW_some ((run64 ds).trans h)) (by decide) (by decide) (fun _ => by kernel_rfl)
/-! ### 65: loop.example/g00106/spec.l14Find -/
noncomputable def b65_2 (a0 : List (List D)) (a1 : Int) (a2 : Int) : Option (Nat × List D) :=
  if (ltI a2 ((a0.length : Int))) = true then
    if (leI 0 a2 && ltI a2 ((a0.length : Int))) = true then
      if ((rI (a0.getD a2.toNat []) 0) == a1) = true then
        some (1, [D.int .i64 a2])
      else
        some (0, [D.slc a0, D.int .i64 a1, D.int .i64 (IntKind.wrap .i64 (a2 + 1))])
    else
      none
  else
    some (2, [D.slc a0, D.int .i64 a1, D.int .i64 a2])
noncomputable def B65_2 : Step := fun ds => b65_2 ((ds.headD .undef).asRows) (((ds.drop 1).headD .undef).asInt) ((((ds.drop 1).drop 1).headD .undef).asInt)
noncomputable def f65 (a0 : List (List D)) (a1 : Int) : Option (List D) :=
  getB (whileW B65_2 [D.slc a0, D.int .i64 a1, D.int .i64 0]) fun x1 =>
  if (Nat.beq x1.1 2) = true then
    some [D.int .i64 (-1)]
  else
    if (Nat.beq x1.1 1) = true then
      some x1.2
    else
      none
noncomputable def live65 : Nat → List (Nat × LHint) := fun n => match n with
  | 2 => [(0, .auto [.slc 40]), (1, .auto [.int .i64]), (5, .auto [.int .i64])]
  | _ => []
noncomputable def env65 : Env := ⟨tys, look [], eqs⟩
noncomputable def fi65 : FI := { ps := [.val false [(.slc 40, 0)], .val false [(.int .i64, 0)]], rs := [.val false [(.int .i64, 0)]], fresh := true, run := fun ds => f65 ((ds.headD .undef).asRows) (((ds.drop 1).headD .undef).asInt) }
theorem run65 (ds : List D) : evalFW env65 live65 Try.f65 [.val false [(.slc 40, 0)], .val false [(.int .i64, 0)]] [.val false [(.int .i64, 0)]] ds = fi65.run ds := by kernel_rfl
theorem ok65 : FnOk Try.prog tys 65 fi65 :=
  evalF_ok (live := live65) mixed tysOk (E := env65) rfl (envOk (trivial) eqsOk) Try.func65 (c := (Try.f65.body).getD .skip) (by kernel_rfl) (by rw [show Try.f65.name = "loop.example/g00106/spec.l14Find" by kernel_rfl]; decide) (fun ds out h => evalFW_some ((run65 ds).trans h)) (by decide) (by decide) (fun _ => by kernel_rfl)
/-! ### 66: loop.example/g00106/spec.ParcelPut -/
noncomputable def f66 (a0 : Int) (a1 : ByteArray) (a2 : List (List D)) (a3 : Int) (a4 : ByteArray) : Option (List D) :=
  callB (f84 a0 a1 a2) fun r1 =>
  if (!((r1.headD .undef).asBool)) = true then
    some [D.int .i64 0, D.str ByteArray.empty, D.slc ([]), D.int .i64 1]
  else
    callB (f83 a3 0 (IntKind.wrap .i64 (((a2.length : Int)) - 1))) fun r2 =>
    if (!((r2.headD .undef).asBool)) = true then
      some [D.int .i64 0, D.str ByteArray.empty, D.slc ([]), D.int .i64 1]
    else
      callB (f158 a0 a3) fun r3 =>
      if (((a4.size : Int)) != ((r3.headD .undef).asInt)) = true then
        some [D.int .i64 0, D.str ByteArray.empty, D.slc ([]), D.int .i64 1]
      else
        callB (f88 a0 a1 a2) fun r4 =>
        if (leI 0 a3 && ltI a3 ((a2.length : Int))) = true then
          if ((rS (a2.getD a3.toNat []) 0).toList == a4.toList) = true then
            some [D.int .i64 ((r4.headD .undef).asInt), D.str ((r4.tail.headD .undef).asStr), D.slc (((r4.tail.tail.headD .undef)).asRows), D.int .i64 2]
          else
            if (leI 0 a3 && ltI a3 ((a2.length : Int))) = true then
              if (!((rS (a2.getD a3.toNat []) 0).toList == (bs []).toList)) = true then
                some [D.int .i64 ((r4.headD .undef).asInt), D.str ((r4.tail.headD .undef).asStr), D.slc (((r4.tail.tail.headD .undef)).asRows), D.int .i64 3]
              else
                if (leI 0 a3 && ltI a3 (((((r4.tail.tail.headD .undef)).asRows).length : Int))) = true then
                  some [D.int .i64 ((r4.headD .undef).asInt), D.str ((r4.tail.headD .undef).asStr), D.slc ((((r4.tail.tail.headD .undef)).asRows).set a3.toNat (splice ((((r4.tail.tail.headD .undef)).asRows).getD a3.toNat []) 0 [D.str a4])), D.int .i64 0]
                else
                  none
            else
              none
        else
          none
noncomputable def live66 : Nat → List (Nat × LHint) := fun n => match n with
  | _ => []
noncomputable def env66 : Env := ⟨tys, look [(83, fi83), (84, fi84), (88, fi88), (158, fi158)], eqs⟩
noncomputable def fi66 : FI := { ps := [.val true [(.int .i64, 0), (.str, 0), (.slc 9, 0)], .val false [(.int .i64, 0)], .val false [(.str, 0)]], rs := [.val true [(.int .i64, 0), (.str, 0), (.slc 9, 1)], .val false [(.int .i64, 0)]], fresh := true, run := fun ds => f66 ((ds.headD .undef).asInt) ((ds.tail.headD .undef).asStr) ((ds.tail.tail.headD .undef).asRows) (((ds.drop 3).headD .undef).asInt) ((((ds.drop 3).drop 1).headD .undef).asStr) }
theorem run66 (ds : List D) : evalFW env66 live66 Try.f66 [.val true [(.int .i64, 0), (.str, 0), (.slc 9, 0)], .val false [(.int .i64, 0)], .val false [(.str, 0)]] [.val true [(.int .i64, 0), (.str, 0), (.slc 9, 1)], .val false [(.int .i64, 0)]] ds = fi66.run ds := by kernel_rfl
theorem ok66 : FnOk Try.prog tys 66 fi66 :=
  evalF_ok (live := live66) mixed tysOk (E := env66) rfl (envOk (⟨ok83, ⟨ok84, ⟨ok88, ⟨ok158, trivial⟩⟩⟩⟩) eqsOk) Try.func66 (c := (Try.f66.body).getD .skip) (by kernel_rfl) (by rw [show Try.f66.name = "loop.example/g00106/spec.ParcelPut" by kernel_rfl]; decide) (fun ds out h => evalFW_some ((run66 ds).trans h)) (by decide) (by decide) (fun _ => by kernel_rfl)
/-! ### 13: loop.example/g00106/spec.HeldPut -/
noncomputable def f13 (a0 : List (List D)) (a1 : Int) (a2 : Int) (a3 : ByteArray) : Option (List D) :=
  callB (f21 a0) fun r1 =>
  if (!((r1.headD .undef).asBool)) = true then
    some [D.slc ([]), D.int .i64 1]
  else
    callB (f64 a0) fun r2 =>
    callB (f65 a0 a1) fun r3 =>
    if (ltI ((r3.headD .undef).asInt) 0) = true then
      some [D.slc (((r2.headD .undef)).asRows), D.int .i64 1]
    else
      if (leI 0 ((r3.headD .undef).asInt) && ltI ((r3.headD .undef).asInt) ((a0.length : Int))) = true then
        callB (f66 (rI (a0.getD (((r3.headD .undef).asInt).toNat) []) 1) (rS (a0.getD (((r3.headD .undef).asInt).toNat) []) 2) (rL (a0.getD (((r3.headD .undef).asInt).toNat) []) 3) a2 a3) fun r4 =>
        if (((r4.tail.tail.tail.headD .undef).asInt) == 0) = true then
          if (leI 0 ((r3.headD .undef).asInt) && ltI ((r3.headD .undef).asInt) (((((r2.headD .undef)).asRows).length : Int))) = true then
            some [D.slc ((((r2.headD .undef)).asRows).set (((r3.headD .undef).asInt).toNat) (splice ((((r2.headD .undef)).asRows).getD (((r3.headD .undef).asInt).toNat) []) 1 [D.int .i64 ((r4.headD .undef).asInt), D.str ((r4.tail.headD .undef).asStr), D.slc (((r4.tail.tail.headD .undef)).asRows)])), D.int .i64 ((r4.tail.tail.tail.headD .undef).asInt)]
          else
            none
        else
          some [D.slc (((r2.headD .undef)).asRows), D.int .i64 ((r4.tail.tail.tail.headD .undef).asInt)]
      else
        none
noncomputable def live13 : Nat → List (Nat × LHint) := fun n => match n with
  | _ => []
noncomputable def env13 : Env := ⟨tys, look [(21, fi21), (64, fi64), (65, fi65), (66, fi66)], eqs⟩
noncomputable def fi13 : FI := { ps := [.val false [(.slc 40, 0)], .val false [(.int .i64, 0)], .val false [(.int .i64, 0)], .val false [(.str, 0)]], rs := [.val false [(.slc 40, 2)], .val false [(.int .i64, 0)]], fresh := true, run := fun ds => f13 ((ds.headD .undef).asRows) (((ds.drop 1).headD .undef).asInt) ((((ds.drop 1).drop 1).headD .undef).asInt) (((((ds.drop 1).drop 1).drop 1).headD .undef).asStr) }
theorem run13 (ds : List D) : evalFW env13 live13 Try.f13 [.val false [(.slc 40, 0)], .val false [(.int .i64, 0)], .val false [(.int .i64, 0)], .val false [(.str, 0)]] [.val false [(.slc 40, 2)], .val false [(.int .i64, 0)]] ds = fi13.run ds := by kernel_rfl
theorem ok13 : FnOk Try.prog tys 13 fi13 :=
  evalF_ok (live := live13) mixed tysOk (E := env13) rfl (envOk (⟨ok21, ⟨ok64, ⟨ok65, ⟨ok66, trivial⟩⟩⟩⟩) eqsOk) Try.func13 (c := (Try.f13.body).getD .skip) (by kernel_rfl) (by rw [show Try.f13.name = "loop.example/g00106/spec.HeldPut" by kernel_rfl]; decide) (fun ds out h => evalFW_some ((run13 ds).trans h)) (by decide) (by decide) (fun _ => by kernel_rfl)
/-! ### 116: loop.example/g00106/impl.within -/
noncomputable def f116 (a0 : Int) (a1 : Int) (a2 : Int) : Option (List D) :=
  if (leI a1 a0) = true then
    some [D.bool (leI a0 a2)]
  else
    some [D.bool false]
noncomputable def live116 : Nat → List (Nat × LHint) := fun n => match n with
  | _ => []
noncomputable def env116 : Env := ⟨tys, look [], eqs⟩
noncomputable def fi116 : FI := { ps := [.val false [(.int .i64, 0)], .val false [(.int .i64, 0)], .val false [(.int .i64, 0)]], rs := [.val false [(.bool, 0)]], fresh := true, run := fun ds => f116 ((ds.headD .undef).asInt) (((ds.drop 1).headD .undef).asInt) ((((ds.drop 1).drop 1).headD .undef).asInt) }
theorem run116 (ds : List D) : evalFW env116 live116 Try.f116 [.val false [(.int .i64, 0)], .val false [(.int .i64, 0)], .val false [(.int .i64, 0)]] [.val false [(.bool, 0)]] ds = fi116.run ds := by kernel_rfl
theorem ok116 : FnOk Try.prog tys 116 fi116 :=
  evalF_ok (live := live116) mixed tysOk (E := env116) rfl (envOk (trivial) eqsOk) Try.func116 (c := (Try.f116.body).getD .skip) (by kernel_rfl) (by rw [show Try.f116.name = "loop.example/g00106/impl.within" by kernel_rfl]; decide) (fun ds out h => evalFW_some ((run116 ds).trans h)) (by decide) (by decide) (fun _ => by kernel_rfl)
/-! ### 85: loop.example/g00106/impl.isRelease -/
noncomputable def f85 (a0 : Int) : Option (List D) :=
  callB (f116 a0 1 1000) fun r1 =>
  some [D.bool ((r1.headD .undef).asBool)]
noncomputable def live85 : Nat → List (Nat × LHint) := fun n => match n with
  | _ => []
noncomputable def env85 : Env := ⟨tys, look [(116, fi116)], eqs⟩
noncomputable def fi85 : FI := { ps := [.val false [(.int .i64, 0)]], rs := [.val false [(.bool, 0)]], fresh := true, run := fun ds => f85 ((ds.headD .undef).asInt) }
theorem run85 (ds : List D) : evalFW env85 live85 Try.f85 [.val false [(.int .i64, 0)]] [.val false [(.bool, 0)]] ds = fi85.run ds := by kernel_rfl
theorem ok85 : FnOk Try.prog tys 85 fi85 :=
  evalF_ok (live := live85) mixed tysOk (E := env85) rfl (envOk (⟨ok116, trivial⟩) eqsOk) Try.func85 (c := (Try.f85.body).getD .skip) (by kernel_rfl) (by rw [show Try.f85.name = "loop.example/g00106/impl.isRelease" by kernel_rfl]; decide) (fun ds out h => evalFW_some ((run85 ds).trans h)) (by decide) (by decide) (fun _ => by kernel_rfl)
/-! ### 119: loop.example/g00106/impl.isSize -/
noncomputable def f119 (a0 : Int) : Option (List D) :=
  callB (f116 a0 0 1000) fun r1 =>
  some [D.bool ((r1.headD .undef).asBool)]
noncomputable def live119 : Nat → List (Nat × LHint) := fun n => match n with
  | _ => []
noncomputable def env119 : Env := ⟨tys, look [(116, fi116)], eqs⟩
noncomputable def fi119 : FI := { ps := [.val false [(.int .i64, 0)]], rs := [.val false [(.bool, 0)]], fresh := true, run := fun ds => f119 ((ds.headD .undef).asInt) }
theorem run119 (ds : List D) : evalFW env119 live119 Try.f119 [.val false [(.int .i64, 0)]] [.val false [(.bool, 0)]] ds = fi119.run ds := by kernel_rfl
theorem ok119 : FnOk Try.prog tys 119 fi119 :=
  evalF_ok (live := live119) mixed tysOk (E := env119) rfl (envOk (⟨ok116, trivial⟩) eqsOk) Try.func119 (c := (Try.f119.body).getD .skip) (by kernel_rfl) (by rw [show Try.f119.name = "loop.example/g00106/impl.isSize" by kernel_rfl]; decide) (fun ds out h => evalFW_some ((run119 ds).trans h)) (by decide) (by decide) (fun _ => by kernel_rfl)
/-! ### 163: loop.example/g00106/impl.partLong -/
noncomputable def f163 (a0 : Int) (a1 : Int) : Option (List D) :=
  let v1 : Int := minI 16 (IntKind.wrap .i64 (a0 - (IntKind.wrap .i64 (a1 * 16))))
  some [D.int .i64 v1]
noncomputable def live163 : Nat → List (Nat × LHint) := fun n => match n with
  | _ => []
noncomputable def env163 : Env := ⟨tys, look [], eqs⟩
noncomputable def fi163 : FI := { ps := [.val false [(.int .i64, 0)], .val false [(.int .i64, 0)]], rs := [.val false [(.int .i64, 0)]], fresh := true, run := fun ds => f163 ((ds.headD .undef).asInt) (((ds.drop 1).headD .undef).asInt) }
theorem run163 (ds : List D) : evalFW env163 live163 Try.f163 [.val false [(.int .i64, 0)], .val false [(.int .i64, 0)]] [.val false [(.int .i64, 0)]] ds = fi163.run ds := by kernel_rfl
theorem ok163 : FnOk Try.prog tys 163 fi163 :=
  evalF_ok (live := live163) mixed tysOk (E := env163) rfl (envOk (trivial) eqsOk) Try.func163 (c := (Try.f163.body).getD .skip) (by kernel_rfl) (by rw [show Try.f163.name = "loop.example/g00106/impl.partLong" by kernel_rfl]; decide) (fun ds out h => evalFW_some ((run163 ds).trans h)) (by decide) (by decide) (fun _ => by kernel_rfl)
/-! ### 169: loop.example/g00106/impl.PartsOf -/
noncomputable def f169 (a0 : Int) : Option (List D) :=
  callB (f119 a0) fun r1 =>
  if (!((r1.headD .undef).asBool)) = true then
    some [D.int .i64 (-1)]
  else
    let v2 : Int := IntKind.wrap .i64 (Int.tdiv (IntKind.wrap .i64 ((IntKind.wrap .i64 (a0 + 16)) - 1)) 16)
    some [D.int .i64 v2]
noncomputable def live169 : Nat → List (Nat × LHint) := fun n => match n with
  | _ => []
noncomputable def env169 : Env := ⟨tys, look [(119, fi119)], eqs⟩
noncomputable def fi169 : FI := { ps := [.val false [(.int .i64, 0)]], rs := [.val false [(.int .i64, 0)]], fresh := true, run := fun ds => f169 ((ds.headD .undef).asInt) }
theorem run169 (ds : List D) : evalFW env169 live169 Try.f169 [.val false [(.int .i64, 0)]] [.val false [(.int .i64, 0)]] ds = fi169.run ds := by kernel_rfl
theorem ok169 : FnOk Try.prog tys 169 fi169 :=
  evalF_ok (live := live169) mixed tysOk (E := env169) rfl (envOk (⟨ok119, trivial⟩) eqsOk) Try.func169 (c := (Try.f169.body).getD .skip) (by kernel_rfl) (by rw [show Try.f169.name = "loop.example/g00106/impl.PartsOf" by kernel_rfl]; decide) (fun ds out h => evalFW_some ((run169 ds).trans h)) (by decide) (by decide) (fun _ => by kernel_rfl)
/-! ### 86: loop.example/g00106/impl.ParcelOk -/
noncomputable def b86_4 (a0 : Int) (a1 : ByteArray) (a2 : List (List D)) (a3 : List (List D)) (a4 : Int) (a5 : Int) : Option (Nat × List D) :=
  if (ltI a5 a4) = true then
    if (leI 0 a5 && ltI a5 ((a3.length : Int))) = true then
      if (!((rS (a3.getD a5.toNat []) 0).toList == (bs []).toList)) = true then
        callB (f163 a0 a5) fun r1 =>
        let v2 : Bool := (((rS (a3.getD a5.toNat []) 0).size : Int)) != ((r1.headD .undef).asInt)
        if v2 = true then
          some (1, [D.bool false])
        else
          some (0, [D.int .i64 a0, D.str a1, D.slc a2, D.slc a3, D.int .i64 a4, D.int .i64 (IntKind.wrap .i64 (a5 + 1))])
      else
        some (0, [D.int .i64 a0, D.str a1, D.slc a2, D.slc a3, D.int .i64 a4, D.int .i64 (IntKind.wrap .i64 (a5 + 1))])
    else
      none
  else
    some (2, [D.int .i64 a0, D.str a1, D.slc a2, D.slc a3, D.int .i64 a4, D.int .i64 a5])
noncomputable def B86_4 : Step := fun ds => b86_4 ((ds.headD .undef).asInt) ((ds.tail.headD .undef).asStr) ((ds.tail.tail.headD .undef).asRows) (((ds.drop 3).headD .undef).asRows) ((((ds.drop 3).drop 1).headD .undef).asInt) (((((ds.drop 3).drop 1).drop 1).headD .undef).asInt)
noncomputable def f86 (a0 : Int) (a1 : ByteArray) (a2 : List (List D)) : Option (List D) :=
  callB (f119 a0) fun r1 =>
  if (!((r1.headD .undef).asBool)) = true then
    some [D.bool false]
  else
    if (((a1.size : Int)) != 32) = true then
      some [D.bool false]
    else
      callB (f169 a0) fun r2 =>
      if (((a2.length : Int)) != ((r2.headD .undef).asInt)) = true then
        some [D.bool false]
      else
        getB (whileW B86_4 [D.int .i64 a0, D.str a1, D.slc a2, D.slc a2, D.int .i64 ((a2.length : Int)), D.int .i64 0]) fun x3 =>
        if (Nat.beq x3.1 2) = true then
          some [D.bool true]
        else
          if (Nat.beq x3.1 1) = true then
            some x3.2
          else
            none
noncomputable def live86 : Nat → List (Nat × LHint) := fun n => match n with
  | 4 => [(1, .auto []), (25, .auto [.slc 9]), (26, .auto [.int .i64]), (27, .auto [.int .i64])]
  | _ => []
noncomputable def env86 : Env := ⟨tys, look [(119, fi119), (163, fi163), (169, fi169)], eqs⟩
noncomputable def fi86 : FI := { ps := [.val true [(.int .i64, 0), (.str, 0), (.slc 9, 0)]], rs := [.val false [(.bool, 0)]], fresh := true, run := fun ds => f86 ((ds.headD .undef).asInt) ((ds.tail.headD .undef).asStr) ((ds.tail.tail.headD .undef).asRows) }
theorem run86 (ds : List D) : evalFW env86 live86 Try.f86 [.val true [(.int .i64, 0), (.str, 0), (.slc 9, 0)]] [.val false [(.bool, 0)]] ds = fi86.run ds := by kernel_rfl
theorem ok86 : FnOk Try.prog tys 86 fi86 :=
  evalF_ok (live := live86) mixed tysOk (E := env86) rfl (envOk (⟨ok119, ⟨ok163, ⟨ok169, trivial⟩⟩⟩) eqsOk) Try.func86 (c := (Try.f86.body).getD .skip) (by kernel_rfl) (by rw [show Try.f86.name = "loop.example/g00106/impl.ParcelOk" by kernel_rfl]; decide) (fun ds out h => evalFW_some ((run86 ds).trans h)) (by decide) (by decide) (fun _ => by kernel_rfl)
/-! ### 22: loop.example/g00106/impl.HeldsOk -/
noncomputable def b22_2 (a0 : List (List D)) (a1 : List (List D)) (a2 : Int) (a3 : Int) : Option (Nat × List D) :=
  if (ltI a3 a2) = true then
    if (leI 0 a3 && ltI a3 ((a1.length : Int))) = true then
      callB (f85 (rI (a1.getD a3.toNat []) 0)) fun r1 =>
      if (!((r1.headD .undef).asBool)) = true then
        some (1, [D.bool false])
      else
        if (ltI 0 a3) = true then
          if (leI 0 (IntKind.wrap .i64 (a3 - 1)) && ltI (IntKind.wrap .i64 (a3 - 1)) ((a0.length : Int))) = true then
            let v2 : Bool := leI (rI (a1.getD a3.toNat []) 0) (rI (a0.getD ((IntKind.wrap .i64 (a3 - 1)).toNat) []) 0)
            if v2 = true then
              some (1, [D.bool false])
            else
              callB (f86 (rI (a1.getD a3.toNat []) 1) (rS (a1.getD a3.toNat []) 2) (rL (a1.getD a3.toNat []) 3)) fun r3 =>
              if (!((r3.headD .undef).asBool)) = true then
                some (1, [D.bool false])
              else
                some (0, [D.slc a0, D.slc a1, D.int .i64 a2, D.int .i64 (IntKind.wrap .i64 (a3 + 1))])
          else
            none
        else
          callB (f86 (rI (a1.getD a3.toNat []) 1) (rS (a1.getD a3.toNat []) 2) (rL (a1.getD a3.toNat []) 3)) fun r4 =>
          if (!((r4.headD .undef).asBool)) = true then
            some (1, [D.bool false])
          else
            some (0, [D.slc a0, D.slc a1, D.int .i64 a2, D.int .i64 (IntKind.wrap .i64 (a3 + 1))])
    else
      none
  else
    some (2, [D.slc a0, D.slc a1, D.int .i64 a2, D.int .i64 a3])
noncomputable def B22_2 : Step := fun ds => b22_2 ((ds.headD .undef).asRows) (((ds.drop 1).headD .undef).asRows) ((((ds.drop 1).drop 1).headD .undef).asInt) (((((ds.drop 1).drop 1).drop 1).headD .undef).asInt)
noncomputable def f22 (a0 : List (List D)) : Option (List D) :=
  getB (whileW B22_2 [D.slc a0, D.slc a0, D.int .i64 ((a0.length : Int)), D.int .i64 0]) fun x1 =>
  if (Nat.beq x1.1 2) = true then
    some [D.bool (leI ((((x1.2.headD .undef).asRows).length : Int)) 8)]
  else
    if (Nat.beq x1.1 1) = true then
      some x1.2
    else
      none
noncomputable def live22 : Nat → List (Nat × LHint) := fun n => match n with
  | 2 => [(0, .auto [.slc 40]), (5, .auto [.slc 40]), (6, .auto [.int .i64]), (7, .auto [.int .i64])]
  | _ => []
noncomputable def env22 : Env := ⟨tys, look [(85, fi85), (86, fi86)], eqs⟩
noncomputable def fi22 : FI := { ps := [.val false [(.slc 40, 0)]], rs := [.val false [(.bool, 0)]], fresh := true, run := fun ds => f22 ((ds.headD .undef).asRows) }
theorem run22 (ds : List D) : evalFW env22 live22 Try.f22 [.val false [(.slc 40, 0)]] [.val false [(.bool, 0)]] ds = fi22.run ds := by kernel_rfl
theorem ok22 : FnOk Try.prog tys 22 fi22 :=
  evalF_ok (live := live22) mixed tysOk (E := env22) rfl (envOk (⟨ok85, ⟨ok86, trivial⟩⟩) eqsOk) Try.func22 (c := (Try.f22.body).getD .skip) (by kernel_rfl) (by rw [show Try.f22.name = "loop.example/g00106/impl.HeldsOk" by kernel_rfl]; decide) (fun ds out h => evalFW_some ((run22 ds).trans h)) (by decide) (by decide) (fun _ => by kernel_rfl)
/-! ### 231: loop.example/g00106/impl.copyTexts -/
noncomputable def f231 (a0 : List (List D)) : Option (List D) :=
  if (lenB (0 + a0.length) 16) = true then
    some [D.slc (([]) ++ a0)]
  else
    none
noncomputable def live231 : Nat → List (Nat × LHint) := fun n => match n with
  | _ => []
noncomputable def env231 : Env := ⟨tys, look [], eqs⟩
noncomputable def fi231 : FI := { ps := [.val false [(.slc 9, 0)]], rs := [.val false [(.slc 9, 1)]], fresh := true, run := fun ds => f231 ((ds.headD .undef).asRows) }
theorem run231 (ds : List D) : evalFW env231 live231 Try.f231 [.val false [(.slc 9, 0)]] [.val false [(.slc 9, 1)]] ds = fi231.run ds := by kernel_rfl
theorem ok231 : FnOk Try.prog tys 231 fi231 :=
  evalF_ok (live := live231) mixed tysOk (E := env231) rfl (envOk (trivial) eqsOk) Try.func231 (c := (Try.f231.body).getD .skip) (by kernel_rfl) (by rw [show Try.f231.name = "loop.example/g00106/impl.copyTexts" by kernel_rfl]; decide) (fun ds out h => evalFW_some ((run231 ds).trans h)) (by decide) (by decide) (fun _ => by kernel_rfl)
/-! ### 160: loop.example/g00106/impl.copyParcel -/
noncomputable def f160 (a0 : Int) (a1 : ByteArray) (a2 : List (List D)) : Option (List D) :=
  callB (f231 a2) fun r1 =>
  some [D.int .i64 a0, D.str a1, D.slc (((r1.headD .undef)).asRows)]
noncomputable def live160 : Nat → List (Nat × LHint) := fun n => match n with
  | _ => []
noncomputable def env160 : Env := ⟨tys, look [(231, fi231)], eqs⟩
noncomputable def fi160 : FI := { ps := [.val true [(.int .i64, 0), (.str, 0), (.slc 9, 0)]], rs := [.val true [(.int .i64, 0), (.str, 0), (.slc 9, 1)]], fresh := true, run := fun ds => f160 ((ds.headD .undef).asInt) ((ds.tail.headD .undef).asStr) ((ds.tail.tail.headD .undef).asRows) }
theorem run160 (ds : List D) : evalFW env160 live160 Try.f160 [.val true [(.int .i64, 0), (.str, 0), (.slc 9, 0)]] [.val true [(.int .i64, 0), (.str, 0), (.slc 9, 1)]] ds = fi160.run ds := by kernel_rfl
theorem ok160 : FnOk Try.prog tys 160 fi160 :=
  evalF_ok (live := live160) mixed tysOk (E := env160) rfl (envOk (⟨ok231, trivial⟩) eqsOk) Try.func160 (c := (Try.f160.body).getD .skip) (by kernel_rfl) (by rw [show Try.f160.name = "loop.example/g00106/impl.copyParcel" by kernel_rfl]; decide) (fun ds out h => evalFW_some ((run160 ds).trans h)) (by decide) (by decide) (fun _ => by kernel_rfl)
/-! ### 68: loop.example/g00106/impl.copyHelds -/
noncomputable def b68_3 (a0 : List (List D)) (a1 : List (List D)) (a2 : Int) (a3 : Int) : Option (Nat × List D) :=
  if (ltI a3 a2) = true then
    if (leI 0 a3 && ltI a3 ((a1.length : Int))) = true then
      callB (f160 (rI (a1.getD a3.toNat []) 1) (rS (a1.getD a3.toNat []) 2) (rL (a1.getD a3.toNat []) 3)) fun r1 =>
      if (lenB (a0.length + 1) 56) = true then
        let v2 : List (List D) := a0 ++ ([[D.int .i64 (rI (a1.getD a3.toNat []) 0), D.int .i64 ((r1.headD .undef).asInt), D.str ((r1.tail.headD .undef).asStr), D.slc (((r1.tail.tail.headD .undef)).asRows)]])
        some (0, [D.slc v2, D.slc a1, D.int .i64 a2, D.int .i64 (IntKind.wrap .i64 (a3 + 1))])
      else
        none
    else
      none
  else
    some (2, [D.slc a0, D.slc a1, D.int .i64 a2, D.int .i64 a3])
noncomputable def B68_3 : Step := fun ds => b68_3 ((ds.headD .undef).asRows) (((ds.drop 1).headD .undef).asRows) ((((ds.drop 1).drop 1).headD .undef).asInt) (((((ds.drop 1).drop 1).drop 1).headD .undef).asInt)
noncomputable def f68 (a0 : List (List D)) : Option (List D) :=
  getB (whileW B68_3 [D.slc ([]), D.slc a0, D.int .i64 ((a0.length : Int)), D.int .i64 0]) fun x1 =>
  if (Nat.beq x1.1 2) = true then
    some [D.slc (((x1.2.headD .undef)).asRows)]
  else
    if (Nat.beq x1.1 1) = true then
      some x1.2
    else
      none
noncomputable def live68 : Nat → List (Nat × LHint) := fun n => match n with
  | 3 => [(3, .fixed (.val false [(.slc 40, 2)])), (7, .auto [.slc 40]), (8, .auto [.int .i64]), (9, .auto [.int .i64])]
  | _ => []
noncomputable def env68 : Env := ⟨tys, look [(160, fi160)], eqs⟩
noncomputable def fi68 : FI := { ps := [.val false [(.slc 40, 0)]], rs := [.val false [(.slc 40, 2)]], fresh := true, run := fun ds => f68 ((ds.headD .undef).asRows) }
theorem run68 (ds : List D) : evalFW env68 live68 Try.f68 [.val false [(.slc 40, 0)]] [.val false [(.slc 40, 2)]] ds = fi68.run ds := by kernel_rfl
theorem ok68 : FnOk Try.prog tys 68 fi68 :=
  evalF_ok (live := live68) mixed tysOk (E := env68) rfl (envOk (⟨ok160, trivial⟩) eqsOk) Try.func68 (c := (Try.f68.body).getD .skip) (by kernel_rfl) (by rw [show Try.f68.name = "loop.example/g00106/impl.copyHelds" by kernel_rfl]; decide) (fun ds out h => evalFW_some ((run68 ds).trans h)) (by decide) (by decide) (fun _ => by kernel_rfl)
/-! ### 162: loop.example/g00106/impl.heldAt$1 -/
noncomputable def f162 (a0 : Int) (_a1 : Int) (_a2 : ByteArray) (_a3 : List (List D)) (a4 : D) : Option (List D) :=
  some [D.bool (a0 == (rI a4.asRow 0))]
noncomputable def live162 : Nat → List (Nat × LHint) := fun n => match n with
  | _ => []
noncomputable def env162 : Env := ⟨tys, look [], eqs⟩
noncomputable def fi162 : FI := { ps := [.val true [(.int .i64, 0), (.int .i64, 0), (.str, 0), (.slc 9, 0)], .val false [(.boxc 3, 0)]], rs := [.val false [(.bool, 0)]], fresh := true, run := fun ds => f162 ((ds.headD .undef).asInt) ((ds.tail.headD .undef).asInt) ((ds.tail.tail.headD .undef).asStr) ((ds.tail.tail.tail.headD .undef).asRows) ((ds.drop 4).headD .undef) }
theorem run162 (ds : List D) : evalFW env162 live162 Try.f162 [.val true [(.int .i64, 0), (.int .i64, 0), (.str, 0), (.slc 9, 0)], .val false [(.boxc 3, 0)]] [.val false [(.bool, 0)]] ds = fi162.run ds := by kernel_rfl
theorem ok162 : FnOk Try.prog tys 162 fi162 :=
  evalF_ok (live := live162) mixed tysOk (E := env162) rfl (envOk (trivial) eqsOk) Try.func162 (c := (Try.f162.body).getD .skip) (by kernel_rfl) (by rw [show Try.f162.name = "loop.example/g00106/impl.heldAt$1" by kernel_rfl]; decide) (fun ds out h => evalFW_some ((run162 ds).trans h)) (by decide) (by decide) (fun _ => by kernel_rfl)
/-! ### 161_162: slices.IndexFunc[[]loop.example/g00106/impl.Held,loop.example/g00106/impl.Held] -/
noncomputable def b161_162_2 (a0 : List (List D)) (a1 : D) (a2 : Int) (a3 : Int) : Option (Nat × List D) :=
  if (ltI a3 a2) = true then
    if (leI 0 a3 && ltI a3 ((a0.length : Int))) = true then
      callB (f162 (rI (a0.getD a3.toNat []) 0) (rI (a0.getD a3.toNat []) 1) (rS (a0.getD a3.toNat []) 2) (rL (a0.getD a3.toNat []) 3) (D.box 3 ((a1.asCaps.headD .undef).asRow))) fun r1 =>
      if ((r1.headD .undef).asBool) = true then
        some (1, [D.int .i64 a3])
      else
        some (0, [D.slc a0, D.fn 162 [D.box 3 ((a1.asCaps.headD .undef).asRow)], D.int .i64 a2, D.int .i64 (IntKind.wrap .i64 (a3 + 1))])
    else
      none
  else
    some (2, [D.slc a0, D.fn 162 [D.box 3 ((a1.asCaps.headD .undef).asRow)], D.int .i64 a2, D.int .i64 a3])
noncomputable def B161_162_2 : Step := fun ds => b161_162_2 ((ds.headD .undef).asRows) ((ds.drop 1).headD .undef) ((((ds.drop 1).drop 1).headD .undef).asInt) (((((ds.drop 1).drop 1).drop 1).headD .undef).asInt)
noncomputable def f161_162 (a0 : List (List D)) (a1 : D) : Option (List D) :=
  getB (whileW B161_162_2 [D.slc a0, D.fn 162 [D.box 3 ((a1.asCaps.headD .undef).asRow)], D.int .i64 ((a0.length : Int)), D.int .i64 0]) fun x1 =>
  if (Nat.beq x1.1 2) = true then
    some [D.int .i64 (-1)]
  else
    if (Nat.beq x1.1 1) = true then
      some x1.2
    else
      none
noncomputable def live161_162 : Nat → List (Nat × LHint) := fun n => match n with
  | 2 => [(0, .auto [.slc 40]), (1, .auto [.fnc 162 [3]]), (7, .auto [.int .i64]), (8, .auto [.int .i64])]
  | _ => []
noncomputable def env161_162 : Env := ⟨tys, look [(162, fi162)], eqs⟩
noncomputable def fi161_162 : FI := { ps := [.val false [(.slc 40, 0)], .val false [(.fnc 162 [3], 0)]], rs := [.val false [(.int .i64, 0)]], fresh := true, run := fun ds => f161_162 ((ds.headD .undef).asRows) ((ds.drop 1).headD .undef) }
theorem run161_162 (ds : List D) : evalFW env161_162 live161_162 Try.f161 [.val false [(.slc 40, 0)], .val false [(.fnc 162 [3], 0)]] [.val false [(.int .i64, 0)]] ds = fi161_162.run ds := by kernel_rfl
theorem ok161_162 : FnOk Try.prog tys 161 fi161_162 :=
  evalF_ok (live := live161_162) mixed tysOk (E := env161_162) rfl (envOk (⟨ok162, trivial⟩) eqsOk) Try.func161 (c := (Try.f161.body).getD .skip) (by kernel_rfl) (by rw [show Try.f161.name = "slices.IndexFunc[[]loop.example/g00106/impl.Held,loop.example/g00106/impl.Held]" by kernel_rfl]; decide) (fun ds out h => evalFW_some ((run161_162 ds).trans h)) (by decide) (by decide) (fun _ => by kernel_rfl)
/-! ### 69: loop.example/g00106/impl.heldAt -/
noncomputable def f69 (a0 : List (List D)) (a1 : Int) : Option (List D) :=
  callB (f161_162 a0 (D.fn 162 [D.box 3 ([D.int .i64 a1])])) fun r1 =>
  some [D.int .i64 ((r1.headD .undef).asInt)]
noncomputable def live69 : Nat → List (Nat × LHint) := fun n => match n with
  | _ => []
noncomputable def env69 : Env := ⟨tys, look [(161, fi161_162)], eqs⟩
noncomputable def fi69 : FI := { ps := [.val false [(.slc 40, 0)], .val false [(.int .i64, 0)]], rs := [.val false [(.int .i64, 0)]], fresh := true, run := fun ds => f69 ((ds.headD .undef).asRows) (((ds.drop 1).headD .undef).asInt) }
theorem run69 (ds : List D) : evalFW env69 live69 Try.f69 [.val false [(.slc 40, 0)], .val false [(.int .i64, 0)]] [.val false [(.int .i64, 0)]] ds = fi69.run ds := by kernel_rfl
theorem ok69 : FnOk Try.prog tys 69 fi69 :=
  evalF_ok (live := live69) mixed tysOk (E := env69) rfl (envOk (⟨ok161_162, trivial⟩) eqsOk) Try.func69 (c := (Try.f69.body).getD .skip) (by kernel_rfl) (by rw [show Try.f69.name = "loop.example/g00106/impl.heldAt" by kernel_rfl]; decide) (fun ds out h => evalFW_some ((run69 ds).trans h)) (by decide) (by decide) (fun _ => by kernel_rfl)
/-! ### 70: loop.example/g00106/impl.ParcelPut -/
noncomputable def f70 (a0 : Int) (a1 : ByteArray) (a2 : List (List D)) (a3 : Int) (a4 : ByteArray) : Option (List D) :=
  callB (f86 a0 a1 a2) fun r1 =>
  if (!((r1.headD .undef).asBool)) = true then
    some [D.int .i64 0, D.str ByteArray.empty, D.slc ([]), D.int .i64 1]
  else
    callB (f116 a3 0 (IntKind.wrap .i64 (((a2.length : Int)) - 1))) fun r2 =>
    if (!((r2.headD .undef).asBool)) = true then
      some [D.int .i64 0, D.str ByteArray.empty, D.slc ([]), D.int .i64 1]
    else
      callB (f163 a0 a3) fun r3 =>
      if (((a4.size : Int)) != ((r3.headD .undef).asInt)) = true then
        some [D.int .i64 0, D.str ByteArray.empty, D.slc ([]), D.int .i64 1]
      else
        callB (f160 a0 a1 a2) fun r4 =>
        if (leI 0 a3 && ltI a3 ((a2.length : Int))) = true then
          if ((rS (a2.getD a3.toNat []) 0).toList == (bs []).toList) = true then
            if (leI 0 a3 && ltI a3 (((((r4.tail.tail.headD .undef)).asRows).length : Int))) = true then
              some [D.int .i64 ((r4.headD .undef).asInt), D.str ((r4.tail.headD .undef).asStr), D.slc ((((r4.tail.tail.headD .undef)).asRows).set a3.toNat (splice ((((r4.tail.tail.headD .undef)).asRows).getD a3.toNat []) 0 [D.str a4])), D.int .i64 0]
            else
              none
          else
            if ((rS (a2.getD a3.toNat []) 0).toList == a4.toList) = true then
              some [D.int .i64 ((r4.headD .undef).asInt), D.str ((r4.tail.headD .undef).asStr), D.slc (((r4.tail.tail.headD .undef)).asRows), D.int .i64 2]
            else
              some [D.int .i64 ((r4.headD .undef).asInt), D.str ((r4.tail.headD .undef).asStr), D.slc (((r4.tail.tail.headD .undef)).asRows), D.int .i64 3]
        else
          none
noncomputable def live70 : Nat → List (Nat × LHint) := fun n => match n with
  | _ => []
noncomputable def env70 : Env := ⟨tys, look [(86, fi86), (116, fi116), (160, fi160), (163, fi163)], eqs⟩
noncomputable def fi70 : FI := { ps := [.val true [(.int .i64, 0), (.str, 0), (.slc 9, 0)], .val false [(.int .i64, 0)], .val false [(.str, 0)]], rs := [.val true [(.int .i64, 0), (.str, 0), (.slc 9, 1)], .val false [(.int .i64, 0)]], fresh := true, run := fun ds => f70 ((ds.headD .undef).asInt) ((ds.tail.headD .undef).asStr) ((ds.tail.tail.headD .undef).asRows) (((ds.drop 3).headD .undef).asInt) ((((ds.drop 3).drop 1).headD .undef).asStr) }
theorem run70 (ds : List D) : evalFW env70 live70 Try.f70 [.val true [(.int .i64, 0), (.str, 0), (.slc 9, 0)], .val false [(.int .i64, 0)], .val false [(.str, 0)]] [.val true [(.int .i64, 0), (.str, 0), (.slc 9, 1)], .val false [(.int .i64, 0)]] ds = fi70.run ds := by kernel_rfl
theorem ok70 : FnOk Try.prog tys 70 fi70 :=
  evalF_ok (live := live70) mixed tysOk (E := env70) rfl (envOk (⟨ok86, ⟨ok116, ⟨ok160, ⟨ok163, trivial⟩⟩⟩⟩) eqsOk) Try.func70 (c := (Try.f70.body).getD .skip) (by kernel_rfl) (by rw [show Try.f70.name = "loop.example/g00106/impl.ParcelPut" by kernel_rfl]; decide) (fun ds out h => evalFW_some ((run70 ds).trans h)) (by decide) (by decide) (fun _ => by kernel_rfl)
/-! ### 15: loop.example/g00106/impl.HeldPut -/
noncomputable def f15 (a0 : List (List D)) (a1 : Int) (a2 : Int) (a3 : ByteArray) : Option (List D) :=
  callB (f22 a0) fun r1 =>
  if (!((r1.headD .undef).asBool)) = true then
    some [D.slc ([]), D.int .i64 1]
  else
    callB (f68 a0) fun r2 =>
    callB (f69 a0 a1) fun r3 =>
    if (ltI ((r3.headD .undef).asInt) 0) = true then
      some [D.slc (((r2.headD .undef)).asRows), D.int .i64 1]
    else
      if (leI 0 ((r3.headD .undef).asInt) && ltI ((r3.headD .undef).asInt) ((a0.length : Int))) = true then
        callB (f70 (rI (a0.getD (((r3.headD .undef).asInt).toNat) []) 1) (rS (a0.getD (((r3.headD .undef).asInt).toNat) []) 2) (rL (a0.getD (((r3.headD .undef).asInt).toNat) []) 3) a2 a3) fun r4 =>
        if (((r4.tail.tail.tail.headD .undef).asInt) == 0) = true then
          if (leI 0 ((r3.headD .undef).asInt) && ltI ((r3.headD .undef).asInt) (((((r2.headD .undef)).asRows).length : Int))) = true then
            some [D.slc ((((r2.headD .undef)).asRows).set (((r3.headD .undef).asInt).toNat) (splice ((((r2.headD .undef)).asRows).getD (((r3.headD .undef).asInt).toNat) []) 1 [D.int .i64 ((r4.headD .undef).asInt), D.str ((r4.tail.headD .undef).asStr), D.slc (((r4.tail.tail.headD .undef)).asRows)])), D.int .i64 ((r4.tail.tail.tail.headD .undef).asInt)]
          else
            none
        else
          some [D.slc (((r2.headD .undef)).asRows), D.int .i64 ((r4.tail.tail.tail.headD .undef).asInt)]
      else
        none
noncomputable def live15 : Nat → List (Nat × LHint) := fun n => match n with
  | _ => []
noncomputable def env15 : Env := ⟨tys, look [(22, fi22), (68, fi68), (69, fi69), (70, fi70)], eqs⟩
noncomputable def fi15 : FI := { ps := [.val false [(.slc 40, 0)], .val false [(.int .i64, 0)], .val false [(.int .i64, 0)], .val false [(.str, 0)]], rs := [.val false [(.slc 40, 2)], .val false [(.int .i64, 0)]], fresh := true, run := fun ds => f15 ((ds.headD .undef).asRows) (((ds.drop 1).headD .undef).asInt) ((((ds.drop 1).drop 1).headD .undef).asInt) (((((ds.drop 1).drop 1).drop 1).headD .undef).asStr) }
theorem run15 (ds : List D) : evalFW env15 live15 Try.f15 [.val false [(.slc 40, 0)], .val false [(.int .i64, 0)], .val false [(.int .i64, 0)], .val false [(.str, 0)]] [.val false [(.slc 40, 2)], .val false [(.int .i64, 0)]] ds = fi15.run ds := by kernel_rfl
theorem ok15 : FnOk Try.prog tys 15 fi15 :=
  evalF_ok (live := live15) mixed tysOk (E := env15) rfl (envOk (⟨ok22, ⟨ok68, ⟨ok69, ⟨ok70, trivial⟩⟩⟩⟩) eqsOk) Try.func15 (c := (Try.f15.body).getD .skip) (by kernel_rfl) (by rw [show Try.f15.name = "loop.example/g00106/impl.HeldPut" by kernel_rfl]; decide) (fun ds out h => evalFW_some ((run15 ds).trans h)) (by decide) (by decide) (fun _ => by kernel_rfl)
/-! ### 19: loop.example/g00106/laws.big -/
noncomputable def f19 (a0 : List (List D)) : Option (List D) :=
  some [D.bool (ltI 1048576 ((a0.length : Int)))]
noncomputable def live19 : Nat → List (Nat × LHint) := fun n => match n with
  | _ => []
noncomputable def env19 : Env := ⟨tys, look [], eqs⟩
noncomputable def fi19 : FI := { ps := [.val false [(.slc 5, 0)]], rs := [.val false [(.bool, 0)]], fresh := true, run := fun ds => f19 ((ds.headD .undef).asRows) }
theorem run19 (ds : List D) : evalFW env19 live19 Try.f19 [.val false [(.slc 5, 0)]] [.val false [(.bool, 0)]] ds = fi19.run ds := by kernel_rfl
theorem ok19 : FnOk Try.prog tys 19 fi19 :=
  evalF_ok (live := live19) mixed tysOk (E := env19) rfl (envOk (trivial) eqsOk) Try.func19 (c := (Try.f19.body).getD .skip) (by kernel_rfl) (by rw [show Try.f19.name = "loop.example/g00106/laws.big" by kernel_rfl]; decide) (fun ds out h => evalFW_some ((run19 ds).trans h)) (by decide) (by decide) (fun _ => by kernel_rfl)
/-! ### 75: loop.example/g00106/spec.l1New -/
noncomputable def b75_3 (a0 : List (List D)) (a1 : Int) (a2 : Int) : Option (Nat × List D) :=
  if (ltI a2 ((a0.length : Int))) = true then
    if (ltI a2 4000) = true then
      if (leI 0 a2 && ltI a2 ((a0.length : Int))) = true then
        let v1 : Int := IntKind.wrap .i64 ((IntKind.wrap .i64 (a1 * 131)) + (IntKind.wrap .i64 (rI (a0.getD a2.toNat []) 0)))
        some (0, [D.slc a0, D.int .i64 (band .i64 (IntKind.wrap .i64 (v1 + 7)) 1073741823), D.int .i64 (IntKind.wrap .i64 (a2 + 1))])
      else
        none
    else
      some (2, [D.slc a0, D.int .i64 a1, D.int .i64 a2])
  else
    some (2, [D.slc a0, D.int .i64 a1, D.int .i64 a2])
noncomputable def B75_3 : Step := fun ds => b75_3 ((ds.headD .undef).asRows) (((ds.drop 1).headD .undef).asInt) ((((ds.drop 1).drop 1).headD .undef).asInt)
noncomputable def f75 (a0 : List (List D)) : Option (List D) :=
  getB (whileW B75_3 [D.slc a0, D.int .i64 (IntKind.wrap .i64 (10677 + ((a0.length : Int)))), D.int .i64 0]) fun x1 =>
  if (Nat.beq x1.1 2) = true then
    some [D.box 207 ([D.slc ((x1.2.headD .undef).asRows), D.int .i64 0, D.int .i64 (((x1.2.drop 1).headD .undef).asInt)])]
  else
    if (Nat.beq x1.1 1) = true then
      some x1.2
    else
      none
noncomputable def live75 : Nat → List (Nat × LHint) := fun n => match n with
  | 3 => [(0, .auto [.slc 5]), (3, .auto [.int .i64]), (4, .auto [.int .i64])]
  | _ => []
noncomputable def env75 : Env := ⟨tys, look [], eqs⟩
noncomputable def fi75 : FI := { ps := [.val false [(.slc 5, 0)]], rs := [.box 207 [(.slc 5, 0), (.int .i64, 0), (.int .i64, 0)]], fresh := false, run := fun ds => f75 ((ds.headD .undef).asRows) }
theorem run75 (ds : List D) : evalFW env75 live75 Try.f75 [.val false [(.slc 5, 0)]] [.box 207 [(.slc 5, 0), (.int .i64, 0), (.int .i64, 0)]] ds = fi75.run ds := by kernel_rfl
theorem ok75 : FnOk Try.prog tys 75 fi75 :=
  evalF_ok (live := live75) mixed tysOk (E := env75) rfl (envOk (trivial) eqsOk) Try.func75 (c := (Try.f75.body).getD .skip) (by kernel_rfl) (by rw [show Try.f75.name = "loop.example/g00106/spec.l1New" by kernel_rfl]; decide) (fun ds out h => evalFW_some ((run75 ds).trans h)) (by decide) (by decide) (fun h => by cases h)
/-! ### 166: loop.example/g00106/spec.l1Byte -/
noncomputable def f166 (a0 : List (List D)) (a1 : Int) (a2 : Int) : Option (List D) :=
  let v1 : Int := IntKind.wrap .i64 ((IntKind.wrap .i64 (a2 * 6364136223846793005)) + 1442695040888963407)
  let v2 : Int := band .i64 (bxor .i64 (v1.fdiv (2 ^ 33)) (v1.fdiv (2 ^ 45))) 255
  if (ltI a1 ((a0.length : Int))) = true then
    if (leI 0 a1 && ltI a1 ((a0.length : Int))) = true then
      let v3 : Int := IntKind.wrap .i64 (v2 + (IntKind.wrap .i64 (rI (a0.getD a1.toNat []) 0)))
      some [D.int .i64 (band .i64 v3 255), D.slc a0, D.int .i64 (IntKind.wrap .i64 (a1 + 1)), D.int .i64 v1]
    else
      none
  else
    some [D.int .i64 v2, D.slc a0, D.int .i64 a1, D.int .i64 v1]
noncomputable def live166 : Nat → List (Nat × LHint) := fun n => match n with
  | _ => []
noncomputable def env166 : Env := ⟨tys, look [], eqs⟩
noncomputable def fi166 : FI := { ps := [.ptr 207 [(.slc 5, 0, 0), (.int .i64, 0, 0), (.int .i64, 0, 0)]], rs := [.val false [(.int .i64, 0)]], fresh := false, run := fun ds => f166 ((ds.headD .undef).asRows) ((ds.tail.headD .undef).asInt) ((ds.tail.tail.headD .undef).asInt) }
theorem run166 (ds : List D) : evalFW env166 live166 Try.f166 [.ptr 207 [(.slc 5, 0, 0), (.int .i64, 0, 0), (.int .i64, 0, 0)]] [.val false [(.int .i64, 0)]] ds = fi166.run ds := by kernel_rfl
theorem ok166 : FnOk Try.prog tys 166 fi166 :=
  evalF_ok (live := live166) mixed tysOk (E := env166) rfl (envOk (trivial) eqsOk) Try.func166 (c := (Try.f166.body).getD .skip) (by kernel_rfl) (by rw [show Try.f166.name = "loop.example/g00106/spec.l1Byte" by kernel_rfl]; decide) (fun ds out h => evalFW_some ((run166 ds).trans h)) (by decide) (by decide) (fun h => by cases h)
/-! ### 79: loop.example/g00106/spec.l1Below -/
noncomputable def f79 (a0 : List (List D)) (a1 : Int) (a2 : Int) (a3 : Int) : Option (List D) :=
  if (leI a3 0) = true then
    some [D.int .i64 0, D.slc a0, D.int .i64 a1, D.int .i64 a2]
  else
    if (leI a3 256) = true then
      callB (f166 a0 a1 a2) fun r1 =>
      if (!eqI a3 0) = true then
        some [D.int .i64 (Int.tmod ((r1.headD .undef).asInt) a3), D.slc (((r1.drop 1).headD .undef).asRows), D.int .i64 ((((r1.drop 1).tail).headD .undef).asInt), D.int .i64 (((((r1.drop 1).tail).tail).headD .undef).asInt)]
      else
        none
    else
      callB (f166 a0 a1 a2) fun r2 =>
      callB (f166 (((r2.drop 1).headD .undef).asRows) ((((r2.drop 1).tail).headD .undef).asInt) (((((r2.drop 1).tail).tail).headD .undef).asInt)) fun r3 =>
      callB (f166 (((r3.drop 1).headD .undef).asRows) ((((r3.drop 1).tail).headD .undef).asInt) (((((r3.drop 1).tail).tail).headD .undef).asInt)) fun r4 =>
      callB (f166 (((r4.drop 1).headD .undef).asRows) ((((r4.drop 1).tail).headD .undef).asInt) (((((r4.drop 1).tail).tail).headD .undef).asInt)) fun r5 =>
      let v6 : Int := IntKind.wrap .i64 ((IntKind.wrap .i64 (((r2.headD .undef).asInt) * 16777216)) + (IntKind.wrap .i64 (((r3.headD .undef).asInt) * 65536)))
      let v7 : Int := IntKind.wrap .i64 (v6 + (IntKind.wrap .i64 (((r4.headD .undef).asInt) * 256)))
      if (!eqI a3 0) = true then
        let v8 : Int := Int.tmod (IntKind.wrap .i64 (v7 + ((r5.headD .undef).asInt))) a3
        some [D.int .i64 v8, D.slc (((r5.drop 1).headD .undef).asRows), D.int .i64 ((((r5.drop 1).tail).headD .undef).asInt), D.int .i64 (((((r5.drop 1).tail).tail).headD .undef).asInt)]
      else
        none
noncomputable def live79 : Nat → List (Nat × LHint) := fun n => match n with
  | _ => []
noncomputable def env79 : Env := ⟨tys, look [(166, fi166)], eqs⟩
noncomputable def fi79 : FI := { ps := [.ptr 207 [(.slc 5, 0, 0), (.int .i64, 0, 0), (.int .i64, 0, 0)], .val false [(.int .i64, 0)]], rs := [.val false [(.int .i64, 0)]], fresh := false, run := fun ds => f79 ((ds.headD .undef).asRows) ((ds.tail.headD .undef).asInt) ((ds.tail.tail.headD .undef).asInt) (((ds.drop 3).headD .undef).asInt) }
theorem run79 (ds : List D) : evalFW env79 live79 Try.f79 [.ptr 207 [(.slc 5, 0, 0), (.int .i64, 0, 0), (.int .i64, 0, 0)], .val false [(.int .i64, 0)]] [.val false [(.int .i64, 0)]] ds = fi79.run ds := by kernel_rfl
theorem ok79 : FnOk Try.prog tys 79 fi79 :=
  evalF_ok (live := live79) mixed tysOk (E := env79) rfl (envOk (⟨ok166, trivial⟩) eqsOk) Try.func79 (c := (Try.f79.body).getD .skip) (by kernel_rfl) (by rw [show Try.f79.name = "loop.example/g00106/spec.l1Below" by kernel_rfl]; decide) (fun ds out h => evalFW_some ((run79 ds).trans h)) (by decide) (by decide) (fun h => by cases h)
/-! ### 98: loop.example/g00106/spec.l1PickInt -/
noncomputable def f98 (a0 : List (List D)) (a1 : Int) (a2 : Int) (a3 : List (List D)) : Option (List D) :=
  callB (f79 a0 a1 a2 ((a3.length : Int))) fun r1 =>
  if (leI 0 ((r1.headD .undef).asInt) && ltI ((r1.headD .undef).asInt) ((a3.length : Int))) = true then
    some [D.int .i64 (rI (a3.getD (((r1.headD .undef).asInt).toNat) []) 0), D.slc (((r1.drop 1).headD .undef).asRows), D.int .i64 ((((r1.drop 1).tail).headD .undef).asInt), D.int .i64 (((((r1.drop 1).tail).tail).headD .undef).asInt)]
  else
    none
noncomputable def live98 : Nat → List (Nat × LHint) := fun n => match n with
  | _ => []
noncomputable def env98 : Env := ⟨tys, look [(79, fi79)], eqs⟩
noncomputable def fi98 : FI := { ps := [.ptr 207 [(.slc 5, 0, 0), (.int .i64, 0, 0), (.int .i64, 0, 0)], .val false [(.slc 3, 0)]], rs := [.val false [(.int .i64, 0)]], fresh := false, run := fun ds => f98 ((ds.headD .undef).asRows) ((ds.tail.headD .undef).asInt) ((ds.tail.tail.headD .undef).asInt) (((ds.drop 3).headD .undef).asRows) }
theorem run98 (ds : List D) : evalFW env98 live98 Try.f98 [.ptr 207 [(.slc 5, 0, 0), (.int .i64, 0, 0), (.int .i64, 0, 0)], .val false [(.slc 3, 0)]] [.val false [(.int .i64, 0)]] ds = fi98.run ds := by kernel_rfl
theorem ok98 : FnOk Try.prog tys 98 fi98 :=
  evalF_ok (live := live98) mixed tysOk (E := env98) rfl (envOk (⟨ok79, trivial⟩) eqsOk) Try.func98 (c := (Try.f98.body).getD .skip) (by kernel_rfl) (by rw [show Try.f98.name = "loop.example/g00106/spec.l1PickInt" by kernel_rfl]; decide) (fun ds out h => evalFW_some ((run98 ds).trans h)) (by decide) (by decide) (fun h => by cases h)
/-! ### 87: loop.example/g00106/spec.ParcelNew -/
noncomputable def b87_3 (a0 : Int) (a1 : Int) (a2 : ByteArray) (a3 : List (List D)) (a4 : Int) (a5 : ByteArray) (a6 : List (List D)) (a7 : Int) : Option (Nat × List D) :=
  callB (f168 a0) fun r1 =>
  if (ltI a7 ((r1.headD .undef).asInt)) = true then
    if (lenB (a6.length + 1) 16) = true then
      some (0, [D.int .i64 a0, D.int .i64 a1, D.str a2, D.slc a3, D.int .i64 a4, D.str a5, D.slc (a6 ++ ([[D.str (bs [])]])), D.int .i64 (IntKind.wrap .i64 (a7 + 1))])
    else
      none
  else
    some (2, [D.int .i64 a0, D.int .i64 a1, D.str a2, D.slc a3, D.int .i64 a4, D.str a5, D.slc a6, D.int .i64 a7])
noncomputable def B87_3 : Step := fun ds => b87_3 ((ds.headD .undef).asInt) (((ds.drop 1).headD .undef).asInt) ((((ds.drop 1).tail).headD .undef).asStr) (((((ds.drop 1).tail).tail).headD .undef).asRows) ((((ds.drop 1).drop 3).headD .undef).asInt) (((((ds.drop 1).drop 3).tail).headD .undef).asStr) ((((((ds.drop 1).drop 3).tail).tail).headD .undef).asRows) (((((ds.drop 1).drop 3).drop 3).headD .undef).asInt)
noncomputable def f87 (a0 : Int) (a1 : ByteArray) : Option (List D) :=
  getB (whileW B87_3 [D.int .i64 a0, D.int .i64 0, D.str ByteArray.empty, D.slc ([]), D.int .i64 a0, D.str a1, D.slc ([]), D.int .i64 0]) fun x1 =>
  if (Nat.beq x1.1 2) = true then
    callB (f84 ((((x1.2.drop 1).drop 3).headD .undef).asInt) (((((x1.2.drop 1).drop 3).tail).headD .undef).asStr) (((((((x1.2.drop 1).drop 3).tail).tail).headD .undef)).asRows)) fun r2 =>
    if (!((r2.headD .undef).asBool)) = true then
      some [D.int .i64 0, D.str ByteArray.empty, D.slc ([]), D.bool false]
    else
      some [D.int .i64 ((((x1.2.drop 1).drop 3).headD .undef).asInt), D.str (((((x1.2.drop 1).drop 3).tail).headD .undef).asStr), D.slc (((((((x1.2.drop 1).drop 3).tail).tail).headD .undef)).asRows), D.bool true]
  else
    if (Nat.beq x1.1 1) = true then
      some x1.2
    else
      none
noncomputable def live87 : Nat → List (Nat × LHint) := fun n => match n with
  | 3 => [(0, .auto [.int .i64]), (4, .auto []), (6, .auto []), (7, .auto [.int .i64])]
  | _ => []
noncomputable def env87 : Env := ⟨tys, look [(84, fi84), (168, fi168)], eqs⟩
noncomputable def fi87 : FI := { ps := [.val false [(.int .i64, 0)], .val false [(.str, 0)]], rs := [.val true [(.int .i64, 0), (.str, 0), (.slc 9, 1)], .val false [(.bool, 0)]], fresh := true, run := fun ds => f87 ((ds.headD .undef).asInt) (((ds.drop 1).headD .undef).asStr) }
theorem run87 (ds : List D) : evalFW env87 live87 Try.f87 [.val false [(.int .i64, 0)], .val false [(.str, 0)]] [.val true [(.int .i64, 0), (.str, 0), (.slc 9, 1)], .val false [(.bool, 0)]] ds = fi87.run ds := by kernel_rfl
theorem ok87 : FnOk Try.prog tys 87 fi87 :=
  evalF_ok (live := live87) mixed tysOk (E := env87) rfl (envOk (⟨ok84, ⟨ok168, trivial⟩⟩) eqsOk) Try.func87 (c := (Try.f87.body).getD .skip) (by kernel_rfl) (by rw [show Try.f87.name = "loop.example/g00106/spec.ParcelNew" by kernel_rfl]; decide) (fun ds out h => evalFW_some ((run87 ds).trans h)) (by decide) (by decide) (fun _ => by kernel_rfl)
/-! ### 23: loop.example/g00106/spec.HeldNew -/
noncomputable def b23_10 (a0 : List (List D)) (a1 : Int) (a2 : Int) (a3 : ByteArray) (a4 : List (List D)) (a5 : List (List D)) (a6 : Bool) (a7 : Int) : Option (Nat × List D) :=
  if (ltI a7 ((a0.length : Int))) = true then
    if (!a6) = true then
      if (leI 0 a7 && ltI a7 ((a0.length : Int))) = true then
        if (leI a1 (rI (a0.getD a7.toNat []) 0)) = true then
          callB (f88 a2 a3 a4) fun r1 =>
          if (lenB (a5.length + 1) 56) = true then
            let v2 : List (List D) := a5 ++ ([[D.int .i64 a1, D.int .i64 ((r1.headD .undef).asInt), D.str ((r1.tail.headD .undef).asStr), D.slc (((r1.tail.tail.headD .undef)).asRows)]])
            if (leI 0 a7 && ltI a7 ((a0.length : Int))) = true then
              if ((rI (a0.getD a7.toNat []) 0) != a1) = true then
                if (leI 0 a7 && ltI a7 ((a0.length : Int))) = true then
                  if (leI 0 a7 && ltI a7 ((a0.length : Int))) = true then
                    callB (f88 (rI (a0.getD a7.toNat []) 1) (rS (a0.getD a7.toNat []) 2) (rL (a0.getD a7.toNat []) 3)) fun r3 =>
                    if (lenB (v2.length + 1) 56) = true then
                      let v4 : List (List D) := v2 ++ ([[D.int .i64 (rI (a0.getD a7.toNat []) 0), D.int .i64 ((r3.headD .undef).asInt), D.str ((r3.tail.headD .undef).asStr), D.slc (((r3.tail.tail.headD .undef)).asRows)]])
                      some (0, [D.slc a0, D.int .i64 a1, D.int .i64 a2, D.str a3, D.slc a4, D.slc v4, D.bool true, D.int .i64 (IntKind.wrap .i64 (a7 + 1))])
                    else
                      none
                  else
                    none
                else
                  none
              else
                some (0, [D.slc a0, D.int .i64 a1, D.int .i64 a2, D.str a3, D.slc a4, D.slc v2, D.bool true, D.int .i64 (IntKind.wrap .i64 (a7 + 1))])
            else
              none
          else
            none
        else
          if (leI 0 a7 && ltI a7 ((a0.length : Int))) = true then
            if ((rI (a0.getD a7.toNat []) 0) != a1) = true then
              if (leI 0 a7 && ltI a7 ((a0.length : Int))) = true then
                if (leI 0 a7 && ltI a7 ((a0.length : Int))) = true then
                  callB (f88 (rI (a0.getD a7.toNat []) 1) (rS (a0.getD a7.toNat []) 2) (rL (a0.getD a7.toNat []) 3)) fun r5 =>
                  if (lenB (a5.length + 1) 56) = true then
                    let v6 : List (List D) := a5 ++ ([[D.int .i64 (rI (a0.getD a7.toNat []) 0), D.int .i64 ((r5.headD .undef).asInt), D.str ((r5.tail.headD .undef).asStr), D.slc (((r5.tail.tail.headD .undef)).asRows)]])
                    some (0, [D.slc a0, D.int .i64 a1, D.int .i64 a2, D.str a3, D.slc a4, D.slc v6, D.bool a6, D.int .i64 (IntKind.wrap .i64 (a7 + 1))])
                  else
                    none
                else
                  none
              else
                none
            else
              some (0, [D.slc a0, D.int .i64 a1, D.int .i64 a2, D.str a3, D.slc a4, D.slc a5, D.bool a6, D.int .i64 (IntKind.wrap .i64 (a7 + 1))])
          else
            none
      else
        none
    else
      if (leI 0 a7 && ltI a7 ((a0.length : Int))) = true then
        if ((rI (a0.getD a7.toNat []) 0) != a1) = true then
          if (leI 0 a7 && ltI a7 ((a0.length : Int))) = true then
            if (leI 0 a7 && ltI a7 ((a0.length : Int))) = true then
              callB (f88 (rI (a0.getD a7.toNat []) 1) (rS (a0.getD a7.toNat []) 2) (rL (a0.getD a7.toNat []) 3)) fun r7 =>
              if (lenB (a5.length + 1) 56) = true then
                let v8 : List (List D) := a5 ++ ([[D.int .i64 (rI (a0.getD a7.toNat []) 0), D.int .i64 ((r7.headD .undef).asInt), D.str ((r7.tail.headD .undef).asStr), D.slc (((r7.tail.tail.headD .undef)).asRows)]])
                some (0, [D.slc a0, D.int .i64 a1, D.int .i64 a2, D.str a3, D.slc a4, D.slc v8, D.bool a6, D.int .i64 (IntKind.wrap .i64 (a7 + 1))])
              else
                none
            else
              none
          else
            none
        else
          some (0, [D.slc a0, D.int .i64 a1, D.int .i64 a2, D.str a3, D.slc a4, D.slc a5, D.bool a6, D.int .i64 (IntKind.wrap .i64 (a7 + 1))])
      else
        none
  else
    some (2, [D.slc a0, D.int .i64 a1, D.int .i64 a2, D.str a3, D.slc a4, D.slc a5, D.bool a6, D.int .i64 a7])
noncomputable def B23_10 : Step := fun ds => b23_10 ((ds.headD .undef).asRows) (((ds.drop 1).headD .undef).asInt) ((((ds.drop 1).drop 1).headD .undef).asInt) (((((ds.drop 1).drop 1).tail).headD .undef).asStr) ((((((ds.drop 1).drop 1).tail).tail).headD .undef).asRows) (((((ds.drop 1).drop 1).drop 3).headD .undef).asRows) ((((((ds.drop 1).drop 1).drop 3).drop 1).headD .undef).asBool) (((((((ds.drop 1).drop 1).drop 3).drop 1).drop 1).headD .undef).asInt)
noncomputable def f23 (a0 : List (List D)) (a1 : Int) (a2 : Int) (a3 : ByteArray) : Option (List D) :=
  callB (f21 a0) fun r1 =>
  if (!((r1.headD .undef).asBool)) = true then
    some [D.slc ([]), D.bool false]
  else
    callB (f87 a2 a3) fun r2 =>
    callB (f65 a0 a1) fun r3 =>
    if (!((r2.tail.tail.tail.headD .undef).asBool)) = true then
      callB (f64 a0) fun r4 =>
      some [D.slc (((r4.headD .undef)).asRows), D.bool false]
    else
      callB (f83 a1 1 1000) fun r5 =>
      if (!((r5.headD .undef).asBool)) = true then
        callB (f64 a0) fun r6 =>
        some [D.slc (((r6.headD .undef)).asRows), D.bool false]
      else
        if (!(leI 0 ((r3.headD .undef).asInt))) = true then
          if (((a0.length : Int)) == 8) = true then
            callB (f64 a0) fun r7 =>
            some [D.slc (((r7.headD .undef)).asRows), D.bool false]
          else
            getB (whileW B23_10 [D.slc a0, D.int .i64 a1, D.int .i64 ((r2.headD .undef).asInt), D.str ((r2.tail.headD .undef).asStr), D.slc (((r2.tail.tail.headD .undef)).asRows), D.slc ([]), D.bool false, D.int .i64 0]) fun x8 =>
            if (Nat.beq x8.1 2) = true then
              let v9 : Bool := (((((x8.2.drop 1).drop 1).drop 3).drop 1).headD .undef).asBool
              if (!v9) = true then
                callB (f88 ((((x8.2.drop 1).drop 1).headD .undef).asInt) (((((x8.2.drop 1).drop 1).tail).headD .undef).asStr) (((((((x8.2.drop 1).drop 1).tail).tail).headD .undef)).asRows)) fun r10 =>
                if (lenB (((((((x8.2.drop 1).drop 1).drop 3).headD .undef)).asRows).length + 1) 56) = true then
                  let v11 : List (List D) := ((((((x8.2.drop 1).drop 1).drop 3).headD .undef)).asRows) ++ ([[D.int .i64 (((x8.2.drop 1).headD .undef).asInt), D.int .i64 ((r10.headD .undef).asInt), D.str ((r10.tail.headD .undef).asStr), D.slc (((r10.tail.tail.headD .undef)).asRows)]])
                  some [D.slc v11, D.bool true]
                else
                  none
              else
                some [D.slc ((((((x8.2.drop 1).drop 1).drop 3).headD .undef)).asRows), D.bool true]
            else
              if (Nat.beq x8.1 1) = true then
                some x8.2
              else
                none
        else
          getB (whileW B23_10 [D.slc a0, D.int .i64 a1, D.int .i64 ((r2.headD .undef).asInt), D.str ((r2.tail.headD .undef).asStr), D.slc (((r2.tail.tail.headD .undef)).asRows), D.slc ([]), D.bool false, D.int .i64 0]) fun x12 =>
          if (Nat.beq x12.1 2) = true then
            let v13 : Bool := (((((x12.2.drop 1).drop 1).drop 3).drop 1).headD .undef).asBool
            if (!v13) = true then
              callB (f88 ((((x12.2.drop 1).drop 1).headD .undef).asInt) (((((x12.2.drop 1).drop 1).tail).headD .undef).asStr) (((((((x12.2.drop 1).drop 1).tail).tail).headD .undef)).asRows)) fun r14 =>
              if (lenB (((((((x12.2.drop 1).drop 1).drop 3).headD .undef)).asRows).length + 1) 56) = true then
                let v15 : List (List D) := ((((((x12.2.drop 1).drop 1).drop 3).headD .undef)).asRows) ++ ([[D.int .i64 (((x12.2.drop 1).headD .undef).asInt), D.int .i64 ((r14.headD .undef).asInt), D.str ((r14.tail.headD .undef).asStr), D.slc (((r14.tail.tail.headD .undef)).asRows)]])
                some [D.slc v15, D.bool true]
              else
                none
            else
              some [D.slc ((((((x12.2.drop 1).drop 1).drop 3).headD .undef)).asRows), D.bool true]
          else
            if (Nat.beq x12.1 1) = true then
              some x12.2
            else
              none
noncomputable def live23 : Nat → List (Nat × LHint) := fun n => match n with
  | 10 => [(0, .auto [.slc 40]), (1, .auto [.int .i64]), (10, .auto []), (13, .auto [.slc 40]), (14, .auto [.bool]), (15, .auto [.int .i64])]
  | _ => []
noncomputable def env23 : Env := ⟨tys, look [(21, fi21), (64, fi64), (65, fi65), (83, fi83), (87, fi87), (88, fi88)], eqs⟩
noncomputable def fi23 : FI := { ps := [.val false [(.slc 40, 0)], .val false [(.int .i64, 0)], .val false [(.int .i64, 0)], .val false [(.str, 0)]], rs := [.val false [(.slc 40, 1)], .val false [(.bool, 0)]], fresh := false, run := fun ds => f23 ((ds.headD .undef).asRows) (((ds.drop 1).headD .undef).asInt) ((((ds.drop 1).drop 1).headD .undef).asInt) (((((ds.drop 1).drop 1).drop 1).headD .undef).asStr) }
theorem run23 (ds : List D) : evalFW env23 live23 Try.f23 [.val false [(.slc 40, 0)], .val false [(.int .i64, 0)], .val false [(.int .i64, 0)], .val false [(.str, 0)]] [.val false [(.slc 40, 1)], .val false [(.bool, 0)]] ds = fi23.run ds := by kernel_rfl
theorem ok23 : FnOk Try.prog tys 23 fi23 :=
  evalF_ok (live := live23) mixed tysOk (E := env23) rfl (envOk (⟨ok21, ⟨ok64, ⟨ok65, ⟨ok83, ⟨ok87, ⟨ok88, trivial⟩⟩⟩⟩⟩⟩) eqsOk) Try.func23 (c := (Try.f23.body).getD .skip) (by kernel_rfl) (by rw [show Try.f23.name = "loop.example/g00106/spec.HeldNew" by kernel_rfl]; decide) (fun ds out h => evalFW_some ((run23 ds).trans h)) (by decide) (by decide) (fun h => by cases h)
/-! ### 78: loop.example/g00106/spec.l1Once -/
noncomputable def f78 (a0 : List (List D)) (a1 : Int) (a2 : Int) (a3 : Int) : Option (List D) :=
  callB (f79 a0 a1 a2 a3) fun r1 =>
  some [D.bool (((r1.headD .undef).asInt) == 0), D.slc (((r1.drop 1).headD .undef).asRows), D.int .i64 ((((r1.drop 1).tail).headD .undef).asInt), D.int .i64 (((((r1.drop 1).tail).tail).headD .undef).asInt)]
noncomputable def live78 : Nat → List (Nat × LHint) := fun n => match n with
  | _ => []
noncomputable def env78 : Env := ⟨tys, look [(79, fi79)], eqs⟩
noncomputable def fi78 : FI := { ps := [.ptr 207 [(.slc 5, 0, 0), (.int .i64, 0, 0), (.int .i64, 0, 0)], .val false [(.int .i64, 0)]], rs := [.val false [(.bool, 0)]], fresh := false, run := fun ds => f78 ((ds.headD .undef).asRows) ((ds.tail.headD .undef).asInt) ((ds.tail.tail.headD .undef).asInt) (((ds.drop 3).headD .undef).asInt) }
theorem run78 (ds : List D) : evalFW env78 live78 Try.f78 [.ptr 207 [(.slc 5, 0, 0), (.int .i64, 0, 0), (.int .i64, 0, 0)], .val false [(.int .i64, 0)]] [.val false [(.bool, 0)]] ds = fi78.run ds := by kernel_rfl
theorem ok78 : FnOk Try.prog tys 78 fi78 :=
  evalF_ok (live := live78) mixed tysOk (E := env78) rfl (envOk (⟨ok79, trivial⟩) eqsOk) Try.func78 (c := (Try.f78.body).getD .skip) (by kernel_rfl) (by rw [show Try.f78.name = "loop.example/g00106/spec.l1Once" by kernel_rfl]; decide) (fun ds out h => evalFW_some ((run78 ds).trans h)) (by decide) (by decide) (fun h => by cases h)
/-! ### 167: loop.example/g00106/spec.l1DrawBytes -/
noncomputable def b167_4 (a0 : List (List D)) (a1 : Int) (a2 : Int) (a3 : List (List D)) (a4 : Int) (a5 : Int) : Option (Nat × List D) :=
  if (ltI a5 a4) = true then
    callB (f166 a0 a1 a2) fun r1 =>
    if (lenB (a3.length + 1) 1) = true then
      let v2 : List (List D) := a3 ++ ([[D.int .u8 (IntKind.wrap .u8 ((r1.headD .undef).asInt))]])
      some (0, [D.slc (((r1.drop 1).headD .undef).asRows), D.int .i64 ((((r1.drop 1).tail).headD .undef).asInt), D.int .i64 (((((r1.drop 1).tail).tail).headD .undef).asInt), D.slc v2, D.int .i64 a4, D.int .i64 (IntKind.wrap .i64 (a5 + 1))])
    else
      none
  else
    some (2, [D.slc a0, D.int .i64 a1, D.int .i64 a2, D.slc a3, D.int .i64 a4, D.int .i64 a5])
noncomputable def B167_4 : Step := fun ds => b167_4 ((ds.headD .undef).asRows) ((ds.tail.headD .undef).asInt) ((ds.tail.tail.headD .undef).asInt) (((ds.drop 3).headD .undef).asRows) ((((ds.drop 3).drop 1).headD .undef).asInt) (((((ds.drop 3).drop 1).drop 1).headD .undef).asInt)
noncomputable def f167 (a0 : List (List D)) (a1 : Int) (a2 : Int) (a3 : Int) : Option (List D) :=
  callB (f79 a0 a1 a2 (IntKind.wrap .i64 (a3 + 1))) fun r1 =>
  getB (whileW B167_4 [D.slc (((r1.drop 1).headD .undef).asRows), D.int .i64 ((((r1.drop 1).tail).headD .undef).asInt), D.int .i64 (((((r1.drop 1).tail).tail).headD .undef).asInt), D.slc ([]), D.int .i64 ((r1.headD .undef).asInt), D.int .i64 0]) fun x2 =>
  if (Nat.beq x2.1 2) = true then
    some [D.slc ((((x2.2.drop 3).headD .undef)).asRows), D.slc ((x2.2.headD .undef).asRows), D.int .i64 ((x2.2.tail.headD .undef).asInt), D.int .i64 ((x2.2.tail.tail.headD .undef).asInt)]
  else
    if (Nat.beq x2.1 1) = true then
      some x2.2
    else
      none
noncomputable def live167 : Nat → List (Nat × LHint) := fun n => match n with
  | 4 => [(0, .auto [.ptr 207]), (5, .auto [.slc 5]), (6, .auto [.int .i64]), (7, .auto [.int .i64])]
  | _ => []
noncomputable def env167 : Env := ⟨tys, look [(79, fi79), (166, fi166)], eqs⟩
noncomputable def fi167 : FI := { ps := [.ptr 207 [(.slc 5, 0, 0), (.int .i64, 0, 0), (.int .i64, 0, 0)], .val false [(.int .i64, 0)]], rs := [.val false [(.slc 5, 1)]], fresh := false, run := fun ds => f167 ((ds.headD .undef).asRows) ((ds.tail.headD .undef).asInt) ((ds.tail.tail.headD .undef).asInt) (((ds.drop 3).headD .undef).asInt) }
theorem run167 (ds : List D) : evalFW env167 live167 Try.f167 [.ptr 207 [(.slc 5, 0, 0), (.int .i64, 0, 0), (.int .i64, 0, 0)], .val false [(.int .i64, 0)]] [.val false [(.slc 5, 1)]] ds = fi167.run ds := by kernel_rfl
theorem ok167 : FnOk Try.prog tys 167 fi167 :=
  evalF_ok (live := live167) mixed tysOk (E := env167) rfl (envOk (⟨ok79, ⟨ok166, trivial⟩⟩) eqsOk) Try.func167 (c := (Try.f167.body).getD .skip) (by kernel_rfl) (by rw [show Try.f167.name = "loop.example/g00106/spec.l1DrawBytes" by kernel_rfl]; decide) (fun ds out h => evalFW_some ((run167 ds).trans h)) (by decide) (by decide) (fun h => by cases h)
/-! ### 82: loop.example/g00106/spec.l3DrawText -/
noncomputable def f82 (a0 : List (List D)) (a1 : Int) (a2 : Int) (a3 : Int) : Option (List D) :=
  callB (f167 a0 a1 a2 a3) fun r1 =>
  some [D.str (bytesOfRows (((r1.headD .undef)).asRows)), D.slc (((r1.drop 1).headD .undef).asRows), D.int .i64 ((((r1.drop 1).tail).headD .undef).asInt), D.int .i64 (((((r1.drop 1).tail).tail).headD .undef).asInt)]
noncomputable def live82 : Nat → List (Nat × LHint) := fun n => match n with
  | _ => []
noncomputable def env82 : Env := ⟨tys, look [(167, fi167)], eqs⟩
noncomputable def fi82 : FI := { ps := [.ptr 207 [(.slc 5, 0, 0), (.int .i64, 0, 0), (.int .i64, 0, 0)], .val false [(.int .i64, 0)]], rs := [.val false [(.str, 0)]], fresh := false, run := fun ds => f82 ((ds.headD .undef).asRows) ((ds.tail.headD .undef).asInt) ((ds.tail.tail.headD .undef).asInt) (((ds.drop 3).headD .undef).asInt) }
theorem run82 (ds : List D) : evalFW env82 live82 Try.f82 [.ptr 207 [(.slc 5, 0, 0), (.int .i64, 0, 0), (.int .i64, 0, 0)], .val false [(.int .i64, 0)]] [.val false [(.str, 0)]] ds = fi82.run ds := by kernel_rfl
theorem ok82 : FnOk Try.prog tys 82 fi82 :=
  evalF_ok (live := live82) mixed tysOk (E := env82) rfl (envOk (⟨ok167, trivial⟩) eqsOk) Try.func82 (c := (Try.f82.body).getD .skip) (by kernel_rfl) (by rw [show Try.f82.name = "loop.example/g00106/spec.l3DrawText" by kernel_rfl]; decide) (fun ds out h => evalFW_some ((run82 ds).trans h)) (by decide) (by decide) (fun h => by cases h)
/-! ### 263: loop.example/g00106/spec.l1Pick -/
noncomputable def f263 (a0 : List (List D)) (a1 : Int) (a2 : Int) (a3 : List (List D)) : Option (List D) :=
  callB (f79 a0 a1 a2 ((a3.length : Int))) fun r1 =>
  if (leI 0 ((r1.headD .undef).asInt) && ltI ((r1.headD .undef).asInt) ((a3.length : Int))) = true then
    some [D.str (rS (a3.getD (((r1.headD .undef).asInt).toNat) []) 0), D.slc (((r1.drop 1).headD .undef).asRows), D.int .i64 ((((r1.drop 1).tail).headD .undef).asInt), D.int .i64 (((((r1.drop 1).tail).tail).headD .undef).asInt)]
  else
    none
noncomputable def live263 : Nat → List (Nat × LHint) := fun n => match n with
  | _ => []
noncomputable def env263 : Env := ⟨tys, look [(79, fi79)], eqs⟩
noncomputable def fi263 : FI := { ps := [.ptr 207 [(.slc 5, 0, 0), (.int .i64, 0, 0), (.int .i64, 0, 0)], .val false [(.slc 9, 0)]], rs := [.val false [(.str, 0)]], fresh := false, run := fun ds => f263 ((ds.headD .undef).asRows) ((ds.tail.headD .undef).asInt) ((ds.tail.tail.headD .undef).asInt) (((ds.drop 3).headD .undef).asRows) }
theorem run263 (ds : List D) : evalFW env263 live263 Try.f263 [.ptr 207 [(.slc 5, 0, 0), (.int .i64, 0, 0), (.int .i64, 0, 0)], .val false [(.slc 9, 0)]] [.val false [(.str, 0)]] ds = fi263.run ds := by kernel_rfl
theorem ok263 : FnOk Try.prog tys 263 fi263 :=
  evalF_ok (live := live263) mixed tysOk (E := env263) rfl (envOk (⟨ok79, trivial⟩) eqsOk) Try.func263 (c := (Try.f263.body).getD .skip) (by kernel_rfl) (by rw [show Try.f263.name = "loop.example/g00106/spec.l1Pick" by kernel_rfl]; decide) (fun ds out h => evalFW_some ((run263 ds).trans h)) (by decide) (by decide) (fun h => by cases h)
/-! ### 233: loop.example/g00106/spec.l14DrawText -/
noncomputable def f233 (a0 : List (List D)) (a1 : Int) (a2 : Int) : Option (List D) :=
  callB (f82 a0 a1 a2 40) fun r1 =>
  callB (f263 (((r1.drop 1).headD .undef).asRows) ((((r1.drop 1).tail).headD .undef).asInt) (((((r1.drop 1).tail).tail).headD .undef).asInt) ([[D.str (bs [122, 111, 110, 101, 32, 65, 32, 54, 48, 32, 45, 10])], [D.str (bs [122, 111, 110, 101, 32, 65, 32, 48, 32, 45, 10, 122, 111, 110, 101, 32, 66, 32, 51, 48, 32, 45, 10])], [D.str (bs [])], [D.str (bs [35, 32, 110, 111, 32, 122, 111, 110, 101, 32, 97, 116, 32, 97, 108, 108, 32, 105, 110, 32, 116, 104, 105, 115, 32, 111, 110, 101, 32, 104, 101, 114, 101, 10])], [D.str ((r1.headD .undef).asStr)]])) fun r2 =>
  some [D.str ((r2.headD .undef).asStr), D.slc (((r2.drop 1).headD .undef).asRows), D.int .i64 ((((r2.drop 1).tail).headD .undef).asInt), D.int .i64 (((((r2.drop 1).tail).tail).headD .undef).asInt)]
noncomputable def live233 : Nat → List (Nat × LHint) := fun n => match n with
  | _ => []
noncomputable def env233 : Env := ⟨tys, look [(82, fi82), (263, fi263)], eqs⟩
noncomputable def fi233 : FI := { ps := [.ptr 207 [(.slc 5, 0, 0), (.int .i64, 0, 0), (.int .i64, 0, 0)]], rs := [.val false [(.str, 0)]], fresh := false, run := fun ds => f233 ((ds.headD .undef).asRows) ((ds.tail.headD .undef).asInt) ((ds.tail.tail.headD .undef).asInt) }
theorem run233 (ds : List D) : evalFW env233 live233 Try.f233 [.ptr 207 [(.slc 5, 0, 0), (.int .i64, 0, 0), (.int .i64, 0, 0)]] [.val false [(.str, 0)]] ds = fi233.run ds := by kernel_rfl
theorem ok233 : FnOk Try.prog tys 233 fi233 :=
  evalF_ok (live := live233) mixed tysOk (E := env233) rfl (envOk (⟨ok82, ⟨ok263, trivial⟩⟩) eqsOk) Try.func233 (c := (Try.f233.body).getD .skip) (by kernel_rfl) (by rw [show Try.f233.name = "loop.example/g00106/spec.l14DrawText" by kernel_rfl]; decide) (fun ds out h => evalFW_some ((run233 ds).trans h)) (by decide) (by decide) (fun h => by cases h)
/-! ### 294: loop.example/g00106/spec.l2Low -/
noncomputable def f294 (a0 : Int) : Option (List D) :=
  some [D.int .i64 (band .i64 a0 4294967295)]
noncomputable def live294 : Nat → List (Nat × LHint) := fun n => match n with
  | _ => []
noncomputable def env294 : Env := ⟨tys, look [], eqs⟩
noncomputable def fi294 : FI := { ps := [.val false [(.int .i64, 0)]], rs := [.val false [(.int .i64, 0)]], fresh := true, run := fun ds => f294 ((ds.headD .undef).asInt) }
theorem run294 (ds : List D) : evalFW env294 live294 Try.f294 [.val false [(.int .i64, 0)]] [.val false [(.int .i64, 0)]] ds = fi294.run ds := by kernel_rfl
theorem ok294 : FnOk Try.prog tys 294 fi294 :=
  evalF_ok (live := live294) mixed tysOk (E := env294) rfl (envOk (trivial) eqsOk) Try.func294 (c := (Try.f294.body).getD .skip) (by kernel_rfl) (by rw [show Try.f294.name = "loop.example/g00106/spec.l2Low" by kernel_rfl]; decide) (fun ds out h => evalFW_some ((run294 ds).trans h)) (by decide) (by decide) (fun _ => by kernel_rfl)
/-! ### 293: loop.example/g00106/spec.l2Turn -/
noncomputable def f293 (a0 : Int) (a1 : Int) : Option (List D) :=
  if (leI 0 a1) = true then
    if (leI 0 (IntKind.wrap .i64 (32 - a1))) = true then
      let v1 : Int := IntKind.wrap .i64 (a0 * 2 ^ (min (IntKind.wrap .i64 (32 - a1)).toNat 64))
      callB (f294 (bor .i64 (Int.fdiv a0 (2 ^ (min a1.toNat 64))) v1)) fun r2 =>
      some [D.int .i64 ((r2.headD .undef).asInt)]
    else
      none
  else
    none
noncomputable def live293 : Nat → List (Nat × LHint) := fun n => match n with
  | _ => []
noncomputable def env293 : Env := ⟨tys, look [(294, fi294)], eqs⟩
noncomputable def fi293 : FI := { ps := [.val false [(.int .i64, 0)], .val false [(.int .i64, 0)]], rs := [.val false [(.int .i64, 0)]], fresh := true, run := fun ds => f293 ((ds.headD .undef).asInt) (((ds.drop 1).headD .undef).asInt) }
theorem run293 (ds : List D) : evalFW env293 live293 Try.f293 [.val false [(.int .i64, 0)], .val false [(.int .i64, 0)]] [.val false [(.int .i64, 0)]] ds = fi293.run ds := by kernel_rfl
theorem ok293 : FnOk Try.prog tys 293 fi293 :=
  evalF_ok (live := live293) mixed tysOk (E := env293) rfl (envOk (⟨ok294, trivial⟩) eqsOk) Try.func293 (c := (Try.f293.body).getD .skip) (by kernel_rfl) (by rw [show Try.f293.name = "loop.example/g00106/spec.l2Turn" by kernel_rfl]; decide) (fun ds out h => evalFW_some ((run293 ds).trans h)) (by decide) (by decide) (fun _ => by kernel_rfl)
/-! ### 295: loop.example/g00106/spec.l2Keys -/
noncomputable def f295  : Option (List D) :=
  some [D.slc ([[D.int .i64 1116352408], [D.int .i64 1899447441], [D.int .i64 3049323471], [D.int .i64 3921009573], [D.int .i64 961987163], [D.int .i64 1508970993], [D.int .i64 2453635748], [D.int .i64 2870763221], [D.int .i64 3624381080], [D.int .i64 310598401], [D.int .i64 607225278], [D.int .i64 1426881987], [D.int .i64 1925078388], [D.int .i64 2162078206], [D.int .i64 2614888103], [D.int .i64 3248222580], [D.int .i64 3835390401], [D.int .i64 4022224774], [D.int .i64 264347078], [D.int .i64 604807628], [D.int .i64 770255983], [D.int .i64 1249150122], [D.int .i64 1555081692], [D.int .i64 1996064986], [D.int .i64 2554220882], [D.int .i64 2821834349], [D.int .i64 2952996808], [D.int .i64 3210313671], [D.int .i64 3336571891], [D.int .i64 3584528711], [D.int .i64 113926993], [D.int .i64 338241895], [D.int .i64 666307205], [D.int .i64 773529912], [D.int .i64 1294757372], [D.int .i64 1396182291], [D.int .i64 1695183700], [D.int .i64 1986661051], [D.int .i64 2177026350], [D.int .i64 2456956037], [D.int .i64 2730485921], [D.int .i64 2820302411], [D.int .i64 3259730800], [D.int .i64 3345764771], [D.int .i64 3516065817], [D.int .i64 3600352804], [D.int .i64 4094571909], [D.int .i64 275423344], [D.int .i64 430227734], [D.int .i64 506948616], [D.int .i64 659060556], [D.int .i64 883997877], [D.int .i64 958139571], [D.int .i64 1322822218], [D.int .i64 1537002063], [D.int .i64 1747873779], [D.int .i64 1955562222], [D.int .i64 2024104815], [D.int .i64 2227730452], [D.int .i64 2361852424], [D.int .i64 2428436474], [D.int .i64 2756734187], [D.int .i64 3204031479], [D.int .i64 3329325298]])]
noncomputable def live295 : Nat → List (Nat × LHint) := fun n => match n with
  | _ => []
noncomputable def env295 : Env := ⟨tys, look [], eqs⟩
noncomputable def fi295 : FI := { ps := [], rs := [.val false [(.slc 3, 1)]], fresh := true, run := fun _ds => f295  }
theorem run295 (ds : List D) : evalFW env295 live295 Try.f295 [] [.val false [(.slc 3, 1)]] ds = fi295.run ds := by kernel_rfl
theorem ok295 : FnOk Try.prog tys 295 fi295 :=
  evalF_ok (live := live295) mixed tysOk (E := env295) rfl (envOk (trivial) eqsOk) Try.func295 (c := (Try.f295.body).getD .skip) (by kernel_rfl) (by rw [show Try.f295.name = "loop.example/g00106/spec.l2Keys" by kernel_rfl]; decide) (fun ds out h => evalFW_some ((run295 ds).trans h)) (by decide) (by decide) (fun _ => by kernel_rfl)
/-! ### 264: loop.example/g00106/spec.l2Block -/
noncomputable def b264_3 (a0 : List (List D)) (a1 : List (List D)) (a2 : List (List D)) (a3 : Int) : Option (Nat × List D) :=
  if (ltI a3 16) = true then
    if (leI 0 (IntKind.wrap .i64 (4 * a3)) && ltI (IntKind.wrap .i64 (4 * a3)) ((a1.length : Int))) = true then
      let v1 : Int := IntKind.wrap .i64 (rI (a1.getD ((IntKind.wrap .i64 (4 * a3)).toNat) []) 0)
      if (leI 0 (IntKind.wrap .i64 ((IntKind.wrap .i64 (4 * a3)) + 1)) && ltI (IntKind.wrap .i64 ((IntKind.wrap .i64 (4 * a3)) + 1)) ((a1.length : Int))) = true then
        let v2 : List D := a1.getD ((IntKind.wrap .i64 ((IntKind.wrap .i64 (4 * a3)) + 1)).toNat) []
        let v3 : Int := bor .i64 (IntKind.wrap .i64 (v1 * 2 ^ 24)) (IntKind.wrap .i64 ((IntKind.wrap .i64 (rI v2 0)) * 2 ^ 16))
        if (leI 0 (IntKind.wrap .i64 ((IntKind.wrap .i64 (4 * a3)) + 2)) && ltI (IntKind.wrap .i64 ((IntKind.wrap .i64 (4 * a3)) + 2)) ((a1.length : Int))) = true then
          let v4 : List D := a1.getD ((IntKind.wrap .i64 ((IntKind.wrap .i64 (4 * a3)) + 2)).toNat) []
          let v5 : Int := bor .i64 v3 (IntKind.wrap .i64 ((IntKind.wrap .i64 (rI v4 0)) * 2 ^ 8))
          if (leI 0 (IntKind.wrap .i64 ((IntKind.wrap .i64 (4 * a3)) + 3)) && ltI (IntKind.wrap .i64 ((IntKind.wrap .i64 (4 * a3)) + 3)) ((a1.length : Int))) = true then
            let v6 : List D := a1.getD ((IntKind.wrap .i64 ((IntKind.wrap .i64 (4 * a3)) + 3)).toNat) []
            if (lenB (a2.length + 1) 8) = true then
              let v7 : List (List D) := a2 ++ ([[D.int .i64 (bor .i64 v5 (IntKind.wrap .i64 (rI v6 0)))]])
              some (0, [D.slc a0, D.slc a1, D.slc v7, D.int .i64 (IntKind.wrap .i64 (a3 + 1))])
            else
              none
          else
            none
        else
          none
      else
        none
    else
      none
  else
    some (2, [D.slc a0, D.slc a1, D.slc a2, D.int .i64 a3])
noncomputable def B264_3 : Step := fun ds => b264_3 ((ds.headD .undef).asRows) (((ds.drop 1).headD .undef).asRows) ((((ds.drop 1).drop 1).headD .undef).asRows) (((((ds.drop 1).drop 1).drop 1).headD .undef).asInt)
noncomputable def b264_7 (a0 : List (List D)) (a1 : List (List D)) (a2 : Int) : Option (Nat × List D) :=
  if (ltI a2 64) = true then
    if (leI 0 (IntKind.wrap .i64 (a2 - 15)) && ltI (IntKind.wrap .i64 (a2 - 15)) ((a1.length : Int))) = true then
      callB (f293 (rI (a1.getD ((IntKind.wrap .i64 (a2 - 15)).toNat) []) 0) 7) fun r1 =>
      if (leI 0 (IntKind.wrap .i64 (a2 - 15)) && ltI (IntKind.wrap .i64 (a2 - 15)) ((a1.length : Int))) = true then
        callB (f293 (rI (a1.getD ((IntKind.wrap .i64 (a2 - 15)).toNat) []) 0) 18) fun r2 =>
        let v3 : Int := bxor .i64 ((r1.headD .undef).asInt) ((r2.headD .undef).asInt)
        if (leI 0 (IntKind.wrap .i64 (a2 - 15)) && ltI (IntKind.wrap .i64 (a2 - 15)) ((a1.length : Int))) = true then
          let v4 : Int := (rI (a1.getD ((IntKind.wrap .i64 (a2 - 15)).toNat) []) 0).fdiv (2 ^ 3)
          if (leI 0 (IntKind.wrap .i64 (a2 - 2)) && ltI (IntKind.wrap .i64 (a2 - 2)) ((a1.length : Int))) = true then
            callB (f293 (rI (a1.getD ((IntKind.wrap .i64 (a2 - 2)).toNat) []) 0) 17) fun r5 =>
            if (leI 0 (IntKind.wrap .i64 (a2 - 2)) && ltI (IntKind.wrap .i64 (a2 - 2)) ((a1.length : Int))) = true then
              callB (f293 (rI (a1.getD ((IntKind.wrap .i64 (a2 - 2)).toNat) []) 0) 19) fun r6 =>
              let v7 : Int := bxor .i64 ((r5.headD .undef).asInt) ((r6.headD .undef).asInt)
              if (leI 0 (IntKind.wrap .i64 (a2 - 2)) && ltI (IntKind.wrap .i64 (a2 - 2)) ((a1.length : Int))) = true then
                let v8 : Int := (rI (a1.getD ((IntKind.wrap .i64 (a2 - 2)).toNat) []) 0).fdiv (2 ^ 10)
                if (leI 0 (IntKind.wrap .i64 (a2 - 7)) && ltI (IntKind.wrap .i64 (a2 - 7)) ((a1.length : Int))) = true then
                  let v9 : Int := IntKind.wrap .i64 ((bxor .i64 v7 v8) + (rI (a1.getD ((IntKind.wrap .i64 (a2 - 7)).toNat) []) 0))
                  if (leI 0 (IntKind.wrap .i64 (a2 - 16)) && ltI (IntKind.wrap .i64 (a2 - 16)) ((a1.length : Int))) = true then
                    let v10 : Int := IntKind.wrap .i64 ((IntKind.wrap .i64 (v9 + (bxor .i64 v3 v4))) + (rI (a1.getD ((IntKind.wrap .i64 (a2 - 16)).toNat) []) 0))
                    callB (f294 v10) fun r11 =>
                    if (lenB (a1.length + 1) 8) = true then
                      some (0, [D.slc a0, D.slc (a1 ++ ([[D.int .i64 ((r11.headD .undef).asInt)]])), D.int .i64 (IntKind.wrap .i64 (a2 + 1))])
                    else
                      none
                  else
                    none
                else
                  none
              else
                none
            else
              none
          else
            none
        else
          none
      else
        none
    else
      none
  else
    some (4, [D.slc a0, D.slc a1, D.int .i64 a2])
noncomputable def B264_7 : Step := fun ds => b264_7 ((ds.headD .undef).asRows) (((ds.drop 1).headD .undef).asRows) ((((ds.drop 1).drop 1).headD .undef).asInt)
noncomputable def b264_15 (a0 : List (List D)) (a1 : List (List D)) (a2 : List (List D)) (a3 : List (List D)) (a4 : Int) : Option (Nat × List D) :=
  if (ltI a4 64) = true then
    if (leI 0 4 && ltI 4 ((a3.length : Int))) = true then
      if (leI 0 0 && ltI 0 ((a3.length : Int))) = true then
        if (leI 0 5 && ltI 5 ((a3.length : Int))) = true then
          if (leI 0 6 && ltI 6 ((a3.length : Int))) = true then
            let v1 : Int := band .i64 (bxor .i64 4294967295 (rI (a3.getD 4 []) 0)) (rI (a3.getD 6 []) 0)
            let v2 : Int := bxor .i64 (band .i64 (rI (a3.getD 4 []) 0) (rI (a3.getD 5 []) 0)) v1
            if (leI 0 7 && ltI 7 ((a3.length : Int))) = true then
              callB (f293 (rI (a3.getD 4 []) 0) 6) fun r3 =>
              callB (f293 (rI (a3.getD 4 []) 0) 11) fun r4 =>
              let v5 : Int := bxor .i64 ((r3.headD .undef).asInt) ((r4.headD .undef).asInt)
              callB (f293 (rI (a3.getD 4 []) 0) 25) fun r6 =>
              let v7 : Int := IntKind.wrap .i64 ((rI (a3.getD 7 []) 0) + (bxor .i64 v5 ((r6.headD .undef).asInt)))
              if (leI 0 a4 && ltI a4 ((a2.length : Int))) = true then
                let v8 : Int := IntKind.wrap .i64 ((IntKind.wrap .i64 (v7 + v2)) + (rI (a2.getD a4.toNat []) 0))
                if (leI 0 a4 && ltI a4 ((a1.length : Int))) = true then
                  callB (f294 (IntKind.wrap .i64 (v8 + (rI (a1.getD a4.toNat []) 0)))) fun r9 =>
                  if (leI 0 1 && ltI 1 ((a3.length : Int))) = true then
                    if (leI 0 2 && ltI 2 ((a3.length : Int))) = true then
                      let v10 : Int := bxor .i64 (band .i64 (rI (a3.getD 0 []) 0) (rI (a3.getD 1 []) 0)) (band .i64 (rI (a3.getD 0 []) 0) (rI (a3.getD 2 []) 0))
                      if (leI 0 1 && ltI 1 ((a3.length : Int))) = true then
                        if (leI 0 2 && ltI 2 ((a3.length : Int))) = true then
                          let v11 : Int := bxor .i64 v10 (band .i64 (rI (a3.getD 1 []) 0) (rI (a3.getD 2 []) 0))
                          callB (f293 (rI (a3.getD 0 []) 0) 2) fun r12 =>
                          callB (f293 (rI (a3.getD 0 []) 0) 13) fun r13 =>
                          let v14 : Int := bxor .i64 ((r12.headD .undef).asInt) ((r13.headD .undef).asInt)
                          callB (f293 (rI (a3.getD 0 []) 0) 22) fun r15 =>
                          let v16 : Int := IntKind.wrap .i64 ((bxor .i64 v14 ((r15.headD .undef).asInt)) + v11)
                          callB (f294 v16) fun r17 =>
                          let v18 : Int := IntKind.wrap .i64 (((r9.headD .undef).asInt) + ((r17.headD .undef).asInt))
                          callB (f294 v18) fun r19 =>
                          if (leI 0 1 && ltI 1 ((a3.length : Int))) = true then
                            if (leI 0 2 && ltI 2 ((a3.length : Int))) = true then
                              if (leI 0 3 && ltI 3 ((a3.length : Int))) = true then
                                let v20 : Int := IntKind.wrap .i64 ((rI (a3.getD 3 []) 0) + ((r9.headD .undef).asInt))
                                callB (f294 v20) fun r21 =>
                                if (leI 0 5 && ltI 5 ((a3.length : Int))) = true then
                                  if (leI 0 6 && ltI 6 ((a3.length : Int))) = true then
                                    some (0, [D.slc a0, D.slc a1, D.slc a2, D.slc ([[D.int .i64 ((r19.headD .undef).asInt)], [D.int .i64 (rI (a3.getD 0 []) 0)], [D.int .i64 (rI (a3.getD 1 []) 0)], [D.int .i64 (rI (a3.getD 2 []) 0)], [D.int .i64 ((r21.headD .undef).asInt)], [D.int .i64 (rI (a3.getD 4 []) 0)], [D.int .i64 (rI (a3.getD 5 []) 0)], [D.int .i64 (rI (a3.getD 6 []) 0)]]), D.int .i64 (IntKind.wrap .i64 (a4 + 1))])
                                  else
                                    none
                                else
                                  none
                              else
                                none
                            else
                              none
                          else
                            none
                        else
                          none
                      else
                        none
                    else
                      none
                  else
                    none
                else
                  none
              else
                none
            else
              none
          else
            none
        else
          none
      else
        none
    else
      none
  else
    some (6, [D.slc a0, D.slc a1, D.slc a2, D.slc a3, D.int .i64 a4])
noncomputable def B264_15 : Step := fun ds => b264_15 ((ds.headD .undef).asRows) (((ds.drop 1).headD .undef).asRows) ((((ds.drop 1).drop 1).headD .undef).asRows) (((((ds.drop 1).drop 1).drop 1).headD .undef).asRows) ((((((ds.drop 1).drop 1).drop 1).drop 1).headD .undef).asInt)
noncomputable def b264_25 (a0 : List (List D)) (a1 : List (List D)) (a2 : List (List D)) (a3 : Int) : Option (Nat × List D) :=
  if (ltI a3 8) = true then
    if (leI 0 a3 && ltI a3 ((a0.length : Int))) = true then
      if (leI 0 a3 && ltI a3 ((a1.length : Int))) = true then
        let v1 : Int := IntKind.wrap .i64 ((rI (a0.getD a3.toNat []) 0) + (rI (a1.getD a3.toNat []) 0))
        callB (f294 v1) fun r2 =>
        if (lenB (a2.length + 1) 8) = true then
          some (0, [D.slc a0, D.slc a1, D.slc (a2 ++ ([[D.int .i64 ((r2.headD .undef).asInt)]])), D.int .i64 (IntKind.wrap .i64 (a3 + 1))])
        else
          none
      else
        none
    else
      none
  else
    some (8, [D.slc a0, D.slc a1, D.slc a2, D.int .i64 a3])
noncomputable def B264_25 : Step := fun ds => b264_25 ((ds.headD .undef).asRows) (((ds.drop 1).headD .undef).asRows) ((((ds.drop 1).drop 1).headD .undef).asRows) (((((ds.drop 1).drop 1).drop 1).headD .undef).asInt)
noncomputable def f264 (a0 : List (List D)) (a1 : List (List D)) : Option (List D) :=
  getB (whileW B264_3 [D.slc a0, D.slc a1, D.slc ([]), D.int .i64 0]) fun x1 =>
  if (Nat.beq x1.1 2) = true then
    getB (whileW B264_7 [D.slc ((x1.2.headD .undef).asRows), D.slc (((((x1.2.drop 1).drop 1).headD .undef)).asRows), D.int .i64 16]) fun x2 =>
    if (Nat.beq x2.1 4) = true then
      callB (f295 ) fun r3 =>
      if (lenB (0 + ((x2.2.headD .undef).asRows).length) 8) = true then
        getB (whileW B264_15 [D.slc ((x2.2.headD .undef).asRows), D.slc ((((x2.2.drop 1).headD .undef)).asRows), D.slc (((r3.headD .undef)).asRows), D.slc (([]) ++ ((x2.2.headD .undef).asRows)), D.int .i64 0]) fun x4 =>
        if (Nat.beq x4.1 6) = true then
          getB (whileW B264_25 [D.slc ((x4.2.headD .undef).asRows), D.slc ((((((x4.2.drop 1).drop 1).drop 1).headD .undef)).asRows), D.slc ([]), D.int .i64 0]) fun x5 =>
          if (Nat.beq x5.1 8) = true then
            some [D.slc (((((x5.2.drop 1).drop 1).headD .undef)).asRows)]
          else
            if (Nat.beq x5.1 1) = true then
              some x5.2
            else
              none
        else
          if (Nat.beq x4.1 1) = true then
            some x4.2
          else
            none
      else
        none
    else
      if (Nat.beq x2.1 1) = true then
        some x2.2
      else
        none
  else
    if (Nat.beq x1.1 1) = true then
      some x1.2
    else
      none
noncomputable def live264 : Nat → List (Nat × LHint) := fun n => match n with
  | 3 => [(0, .auto [.slc 3]), (1, .auto [.slc 5]), (5, .auto [.slc 3]), (6, .auto [.int .i64])]
  | 7 => [(0, .auto [.slc 3]), (5, .auto [.slc 3]), (7, .auto [.int .i64])]
  | 15 => [(0, .auto [.slc 3]), (5, .auto [.slc 3]), (10, .auto [.slc 3]), (11, .auto [.slc 3]), (12, .auto [.int .i64])]
  | 25 => [(0, .auto [.slc 3]), (11, .auto [.slc 3]), (19, .auto [.slc 3]), (20, .auto [.int .i64])]
  | _ => []
noncomputable def env264 : Env := ⟨tys, look [(293, fi293), (294, fi294), (295, fi295)], eqs⟩
noncomputable def fi264 : FI := { ps := [.val false [(.slc 3, 0)], .val false [(.slc 5, 0)]], rs := [.val false [(.slc 3, 1)]], fresh := true, run := fun ds => f264 ((ds.headD .undef).asRows) (((ds.drop 1).headD .undef).asRows) }
theorem run264 (ds : List D) : evalFW env264 live264 Try.f264 [.val false [(.slc 3, 0)], .val false [(.slc 5, 0)]] [.val false [(.slc 3, 1)]] ds = fi264.run ds := by kernel_rfl
theorem ok264 : FnOk Try.prog tys 264 fi264 :=
  evalF_ok (live := live264) mixed tysOk (E := env264) rfl (envOk (⟨ok293, ⟨ok294, ⟨ok295, trivial⟩⟩⟩) eqsOk) Try.func264 (c := (Try.f264.body).getD .skip) (by kernel_rfl) (by rw [show Try.f264.name = "loop.example/g00106/spec.l2Block" by kernel_rfl]; decide) (fun ds out h => evalFW_some ((run264 ds).trans h)) (by decide) (by decide) (fun _ => by kernel_rfl)
/-! ### 234: loop.example/g00106/spec.Sha -/
noncomputable def b234_5 (a0 : List (List D)) (a1 : List (List D)) (a2 : List (List D)) : Option (Nat × List D) :=
  if ((Int.tmod ((a2.length : Int)) 64) != 56) = true then
    if (lenB (a2.length + 1) 1) = true then
      some (0, [D.slc a0, D.slc a1, D.slc (a2 ++ ([[D.int .u8 0]]))])
    else
      none
  else
    some (2, [D.slc a0, D.slc a1, D.slc a2])
noncomputable def B234_5 : Step := fun ds => b234_5 ((ds.headD .undef).asRows) (((ds.drop 1).headD .undef).asRows) ((((ds.drop 1).drop 1).headD .undef).asRows)
noncomputable def b234_8 (a0 : List (List D)) (a1 : List (List D)) (a2 : List (List D)) (a3 : Int) : Option (Nat × List D) :=
  if (leI 0 a3) = true then
    if (leI 0 (IntKind.wrap .i64 (8 * a3))) = true then
      let v1 : Int := Int.fdiv (IntKind.wrap .i64 (8 * ((a0.length : Int)))) (2 ^ (min (IntKind.wrap .i64 (8 * a3)).toNat 64))
      if (lenB (a2.length + 1) 1) = true then
        some (0, [D.slc a0, D.slc a1, D.slc (a2 ++ ([[D.int .u8 (IntKind.wrap .u8 v1)]])), D.int .i64 (IntKind.wrap .i64 (a3 - 1))])
      else
        none
    else
      none
  else
    some (4, [D.slc a0, D.slc a1, D.slc a2, D.int .i64 a3])
noncomputable def B234_8 : Step := fun ds => b234_8 ((ds.headD .undef).asRows) (((ds.drop 1).headD .undef).asRows) ((((ds.drop 1).drop 1).headD .undef).asRows) (((((ds.drop 1).drop 1).drop 1).headD .undef).asInt)
noncomputable def b234_13 (a0 : List (List D)) (a1 : List (List D)) (a2 : List (List D)) (a3 : Int) : Option (Nat × List D) :=
  if (ltI a3 ((a1.length : Int))) = true then
    if (leI 0 (IntKind.wrap .i64 (a3 + 64)) && leI (IntKind.wrap .i64 (a3 + 64)) ((a1.length : Int))) = true then
      if (leI 0 a3 && leI a3 (IntKind.wrap .i64 (a3 + 64))) = true then
        callB (f264 a2 ((a1.drop a3.toNat).take ((IntKind.wrap .i64 (a3 + 64)).toNat - a3.toNat))) fun r1 =>
        some (0, [D.slc a0, D.slc a1, D.slc (((r1.headD .undef)).asRows), D.int .i64 (IntKind.wrap .i64 (a3 + 64))])
      else
        none
    else
      none
  else
    some (6, [D.slc a0, D.slc a1, D.slc a2, D.int .i64 a3])
noncomputable def B234_13 : Step := fun ds => b234_13 ((ds.headD .undef).asRows) (((ds.drop 1).headD .undef).asRows) ((((ds.drop 1).drop 1).headD .undef).asRows) (((((ds.drop 1).drop 1).drop 1).headD .undef).asInt)
noncomputable def b234_17 (a0 : List (List D)) (a1 : List (List D)) (a2 : Int) : Option (Nat × List D) :=
  if (ltI a2 8) = true then
    if (leI 0 a2 && ltI a2 ((a1.length : Int))) = true then
      let v1 : Int := IntKind.wrap .u8 ((rI (a1.getD a2.toNat []) 0).fdiv (2 ^ 24))
      if (leI 0 a2 && ltI a2 ((a1.length : Int))) = true then
        let v2 : Int := IntKind.wrap .u8 ((rI (a1.getD a2.toNat []) 0).fdiv (2 ^ 16))
        if (leI 0 a2 && ltI a2 ((a1.length : Int))) = true then
          if (leI 0 a2 && ltI a2 ((a1.length : Int))) = true then
            if (lenB (a0.length + 4) 1) = true then
              let v3 : List (List D) := a0 ++ ([[D.int .u8 v1], [D.int .u8 v2], [D.int .u8 (IntKind.wrap .u8 ((rI (a1.getD a2.toNat []) 0).fdiv (2 ^ 8)))], [D.int .u8 (IntKind.wrap .u8 (rI (a1.getD a2.toNat []) 0))]])
              some (0, [D.slc v3, D.slc a1, D.int .i64 (IntKind.wrap .i64 (a2 + 1))])
            else
              none
          else
            none
        else
          none
      else
        none
    else
      none
  else
    some (8, [D.slc a0, D.slc a1, D.int .i64 a2])
noncomputable def B234_17 : Step := fun ds => b234_17 ((ds.headD .undef).asRows) (((ds.drop 1).headD .undef).asRows) ((((ds.drop 1).drop 1).headD .undef).asInt)
noncomputable def f234 (a0 : List (List D)) : Option (List D) :=
  if (ltI 4000 ((a0.length : Int))) = true then
    some [D.slc ([])]
  else
    if (lenB (0 + a0.length) 1) = true then
      if (lenB ((([]) ++ a0).length + 1) 1) = true then
        getB (whileW B234_5 [D.slc a0, D.slc ([]), D.slc ((([]) ++ a0) ++ ([[D.int .u8 128]]))]) fun x1 =>
        if (Nat.beq x1.1 2) = true then
          getB (whileW B234_8 [D.slc ((x1.2.headD .undef).asRows), D.slc ((((x1.2.drop 1).headD .undef)).asRows), D.slc (((((x1.2.drop 1).drop 1).headD .undef)).asRows), D.int .i64 7]) fun x2 =>
          if (Nat.beq x2.1 4) = true then
            getB (whileW B234_13 [D.slc ((((x2.2.drop 1).headD .undef)).asRows), D.slc (((((x2.2.drop 1).drop 1).headD .undef)).asRows), D.slc ([[D.int .i64 1779033703], [D.int .i64 3144134277], [D.int .i64 1013904242], [D.int .i64 2773480762], [D.int .i64 1359893119], [D.int .i64 2600822924], [D.int .i64 528734635], [D.int .i64 1541459225]]), D.int .i64 0]) fun x3 =>
            if (Nat.beq x3.1 6) = true then
              getB (whileW B234_17 [D.slc (((x3.2.headD .undef)).asRows), D.slc (((((x3.2.drop 1).drop 1).headD .undef)).asRows), D.int .i64 0]) fun x4 =>
              if (Nat.beq x4.1 8) = true then
                some [D.slc (((x4.2.headD .undef)).asRows)]
              else
                if (Nat.beq x4.1 1) = true then
                  some x4.2
                else
                  none
            else
              if (Nat.beq x3.1 1) = true then
                some x3.2
              else
                none
          else
            if (Nat.beq x2.1 1) = true then
              some x2.2
            else
              none
        else
          if (Nat.beq x1.1 1) = true then
            some x1.2
          else
            none
      else
        none
    else
      none
noncomputable def live234 : Nat → List (Nat × LHint) := fun n => match n with
  | 5 => [(0, .auto [.slc 5]), (3, .auto [.slc 5]), (4, .auto [.slc 5])]
  | 8 => [(0, .auto [.slc 5]), (3, .auto [.slc 5]), (4, .auto [.slc 5]), (5, .auto [.int .i64])]
  | 13 => [(3, .auto [.slc 5]), (4, .auto [.slc 5]), (6, .auto [.slc 3]), (7, .auto [.int .i64])]
  | 17 => [(3, .auto [.slc 5]), (6, .auto [.slc 3]), (8, .auto [.int .i64])]
  | _ => []
noncomputable def env234 : Env := ⟨tys, look [(264, fi264)], eqs⟩
noncomputable def fi234 : FI := { ps := [.val false [(.slc 5, 0)]], rs := [.val false [(.slc 5, 1)]], fresh := true, run := fun ds => f234 ((ds.headD .undef).asRows) }
theorem run234 (ds : List D) : evalFW env234 live234 Try.f234 [.val false [(.slc 5, 0)]] [.val false [(.slc 5, 1)]] ds = fi234.run ds := by kernel_rfl
theorem ok234 : FnOk Try.prog tys 234 fi234 :=
  evalF_ok (live := live234) mixed tysOk (E := env234) rfl (envOk (⟨ok264, trivial⟩) eqsOk) Try.func234 (c := (Try.f234.body).getD .skip) (by kernel_rfl) (by rw [show Try.f234.name = "loop.example/g00106/spec.Sha" by kernel_rfl]; decide) (fun ds out h => evalFW_some ((run234 ds).trans h)) (by decide) (by decide) (fun _ => by kernel_rfl)
/-! ### 235: loop.example/g00106/spec.PartOf -/
noncomputable def f235 (a0 : ByteArray) (a1 : Int) : Option (List D) :=
  if (ltI 1000 ((a0.size : Int))) = true then
    some [D.str (bs []), D.bool false]
  else
    callB (f168 ((a0.size : Int))) fun r1 =>
    callB (f83 a1 0 (IntKind.wrap .i64 (((r1.headD .undef).asInt) - 1))) fun r2 =>
    if (!((r2.headD .undef).asBool)) = true then
      some [D.str (bs []), D.bool false]
    else
      callB (f81 (IntKind.wrap .i64 ((IntKind.wrap .i64 (a1 + 1)) * 16)) ((a0.size : Int))) fun r3 =>
      if (leI 0 ((r3.headD .undef).asInt) && leI ((r3.headD .undef).asInt) ((a0.size : Int))) = true then
        if (leI 0 (IntKind.wrap .i64 (a1 * 16)) && leI (IntKind.wrap .i64 (a1 * 16)) ((r3.headD .undef).asInt)) = true then
          let v4 : ByteArray := a0.extract (IntKind.wrap .i64 (a1 * 16)).toNat ((r3.headD .undef).asInt).toNat
          some [D.str v4, D.bool true]
        else
          none
      else
        none
noncomputable def live235 : Nat → List (Nat × LHint) := fun n => match n with
  | _ => []
noncomputable def env235 : Env := ⟨tys, look [(81, fi81), (83, fi83), (168, fi168)], eqs⟩
noncomputable def fi235 : FI := { ps := [.val false [(.str, 0)], .val false [(.int .i64, 0)]], rs := [.val false [(.str, 0)], .val false [(.bool, 0)]], fresh := true, run := fun ds => f235 ((ds.headD .undef).asStr) (((ds.drop 1).headD .undef).asInt) }
theorem run235 (ds : List D) : evalFW env235 live235 Try.f235 [.val false [(.str, 0)], .val false [(.int .i64, 0)]] [.val false [(.str, 0)], .val false [(.bool, 0)]] ds = fi235.run ds := by kernel_rfl
theorem ok235 : FnOk Try.prog tys 235 fi235 :=
  evalF_ok (live := live235) mixed tysOk (E := env235) rfl (envOk (⟨ok81, ⟨ok83, ⟨ok168, trivial⟩⟩⟩) eqsOk) Try.func235 (c := (Try.f235.body).getD .skip) (by kernel_rfl) (by rw [show Try.f235.name = "loop.example/g00106/spec.PartOf" by kernel_rfl]; decide) (fun ds out h => evalFW_some ((run235 ds).trans h)) (by decide) (by decide) (fun _ => by kernel_rfl)
/-! ### 165: loop.example/g00106/spec.l14DrawRight -/
noncomputable def b165_12 (a0 : List (List D)) (a1 : Int) (a2 : Int) (a3 : List (List D)) (a4 : Int) (a5 : Int) (a6 : ByteArray) (a7 : Int) (a8 : Int) : Option (Nat × List D) :=
  callB (f168 ((a6.size : Int))) fun r1 =>
  if (ltI a8 ((r1.headD .undef).asInt)) = true then
    callB (f235 a6 a8) fun r2 =>
    if ((r2.tail.headD .undef).asBool) = true then
      callB (f78 a0 a1 a2 5) fun r3 =>
      if (!((r3.headD .undef).asBool)) = true then
        callB (f13 a3 a7 a8 ((r2.headD .undef).asStr)) fun r4 =>
        some (0, [D.slc (((r3.drop 1).headD .undef).asRows), D.int .i64 ((((r3.drop 1).tail).headD .undef).asInt), D.int .i64 (((((r3.drop 1).tail).tail).headD .undef).asInt), D.slc (((r4.headD .undef)).asRows), D.int .i64 a4, D.int .i64 a5, D.str a6, D.int .i64 a7, D.int .i64 (IntKind.wrap .i64 (a8 + 1))])
      else
        some (0, [D.slc (((r3.drop 1).headD .undef).asRows), D.int .i64 ((((r3.drop 1).tail).headD .undef).asInt), D.int .i64 (((((r3.drop 1).tail).tail).headD .undef).asInt), D.slc a3, D.int .i64 a4, D.int .i64 a5, D.str a6, D.int .i64 a7, D.int .i64 (IntKind.wrap .i64 (a8 + 1))])
    else
      some (0, [D.slc a0, D.int .i64 a1, D.int .i64 a2, D.slc a3, D.int .i64 a4, D.int .i64 a5, D.str a6, D.int .i64 a7, D.int .i64 (IntKind.wrap .i64 (a8 + 1))])
  else
    some (4, [D.slc a0, D.int .i64 a1, D.int .i64 a2, D.slc a3, D.int .i64 a4, D.int .i64 a5, D.str a6, D.int .i64 a7, D.int .i64 a8])
noncomputable def B165_12 : Step := fun ds => b165_12 ((ds.headD .undef).asRows) ((ds.tail.headD .undef).asInt) ((ds.tail.tail.headD .undef).asInt) (((ds.drop 3).headD .undef).asRows) ((((ds.drop 3).drop 1).headD .undef).asInt) (((((ds.drop 3).drop 1).drop 1).headD .undef).asInt) ((((((ds.drop 3).drop 1).drop 1).drop 1).headD .undef).asStr) (((((((ds.drop 3).drop 1).drop 1).drop 1).drop 1).headD .undef).asInt) ((((((((ds.drop 3).drop 1).drop 1).drop 1).drop 1).drop 1).headD .undef).asInt)
noncomputable def b165_6 (a0 : List (List D)) (a1 : Int) (a2 : Int) (a3 : List (List D)) (a4 : Int) (a5 : Int) : Option (Nat × List D) :=
  if (ltI a5 a4) = true then
    callB (f233 a0 a1 a2) fun r1 =>
    callB (f79 (((r1.drop 1).headD .undef).asRows) ((((r1.drop 1).tail).headD .undef).asInt) (((((r1.drop 1).tail).tail).headD .undef).asInt) 5) fun r2 =>
    let v3 : Int := IntKind.wrap .i64 ((IntKind.wrap .i64 (1 + ((r2.headD .undef).asInt))) + a5)
    callB (f234 (rowsOfBytes ((r1.headD .undef).asStr))) fun r4 =>
    callB (f23 a3 v3 ((((r1.headD .undef).asStr).size : Int)) (bytesOfRows (((r4.headD .undef)).asRows))) fun r5 =>
    getB (whileW B165_12 [D.slc (((r2.drop 1).headD .undef).asRows), D.int .i64 ((((r2.drop 1).tail).headD .undef).asInt), D.int .i64 (((((r2.drop 1).tail).tail).headD .undef).asInt), D.slc (((r5.headD .undef)).asRows), D.int .i64 a4, D.int .i64 a5, D.str ((r1.headD .undef).asStr), D.int .i64 v3, D.int .i64 0]) fun x6 =>
    if (Nat.beq x6.1 4) = true then
      let v7 : Int := IntKind.wrap .i64 ((((((x6.2.drop 3).drop 1).drop 1).headD .undef).asInt) + 1)
      some (0, [D.slc ((x6.2.headD .undef).asRows), D.int .i64 ((x6.2.tail.headD .undef).asInt), D.int .i64 ((x6.2.tail.tail.headD .undef).asInt), D.slc ((((x6.2.drop 3).headD .undef)).asRows), D.int .i64 ((((x6.2.drop 3).drop 1).headD .undef).asInt), D.int .i64 v7])
    else
      if (Nat.beq x6.1 1) = true then
        some (1, x6.2)
      else
        none
  else
    some (2, [D.slc a0, D.int .i64 a1, D.int .i64 a2, D.slc a3, D.int .i64 a4, D.int .i64 a5])
noncomputable def B165_6 : Step := fun ds => b165_6 ((ds.headD .undef).asRows) ((ds.tail.headD .undef).asInt) ((ds.tail.tail.headD .undef).asInt) (((ds.drop 3).headD .undef).asRows) ((((ds.drop 3).drop 1).headD .undef).asInt) (((((ds.drop 3).drop 1).drop 1).headD .undef).asInt)
noncomputable def f165 (a0 : List (List D)) (a1 : Int) (a2 : Int) : Option (List D) :=
  callB (f79 a0 a1 a2 4) fun r1 =>
  callB (f78 (((r1.drop 1).headD .undef).asRows) ((((r1.drop 1).tail).headD .undef).asInt) (((((r1.drop 1).tail).tail).headD .undef).asInt) 20) fun r2 =>
  if ((r2.headD .undef).asBool) = true then
    getB (whileW B165_6 [D.slc (((r2.drop 1).headD .undef).asRows), D.int .i64 ((((r2.drop 1).tail).headD .undef).asInt), D.int .i64 (((((r2.drop 1).tail).tail).headD .undef).asInt), D.slc ([]), D.int .i64 8, D.int .i64 0]) fun x3 =>
    if (Nat.beq x3.1 2) = true then
      some [D.slc ((((x3.2.drop 3).headD .undef)).asRows), D.slc ((x3.2.headD .undef).asRows), D.int .i64 ((x3.2.tail.headD .undef).asInt), D.int .i64 ((x3.2.tail.tail.headD .undef).asInt)]
    else
      if (Nat.beq x3.1 1) = true then
        some x3.2
      else
        none
  else
    getB (whileW B165_6 [D.slc (((r2.drop 1).headD .undef).asRows), D.int .i64 ((((r2.drop 1).tail).headD .undef).asInt), D.int .i64 (((((r2.drop 1).tail).tail).headD .undef).asInt), D.slc ([]), D.int .i64 ((r1.headD .undef).asInt), D.int .i64 0]) fun x4 =>
    if (Nat.beq x4.1 2) = true then
      some [D.slc ((((x4.2.drop 3).headD .undef)).asRows), D.slc ((x4.2.headD .undef).asRows), D.int .i64 ((x4.2.tail.headD .undef).asInt), D.int .i64 ((x4.2.tail.tail.headD .undef).asInt)]
    else
      if (Nat.beq x4.1 1) = true then
        some x4.2
      else
        none
noncomputable def live165 : Nat → List (Nat × LHint) := fun n => match n with
  | 6 => [(0, .auto [.ptr 207]), (3, .auto [.slc 40]), (4, .auto [.int .i64]), (5, .auto [.int .i64])]
  | 12 => [(0, .auto [.ptr 207]), (3, .auto [.slc 40]), (4, .auto [.int .i64]), (5, .auto [.int .i64]), (6, .auto [.str]), (7, .auto [.int .i64]), (8, .auto [.int .i64])]
  | _ => []
noncomputable def env165 : Env := ⟨tys, look [(13, fi13), (23, fi23), (78, fi78), (79, fi79), (168, fi168), (233, fi233), (234, fi234), (235, fi235)], eqs⟩
noncomputable def fi165 : FI := { ps := [.ptr 207 [(.slc 5, 0, 0), (.int .i64, 0, 0), (.int .i64, 0, 0)]], rs := [.val false [(.slc 40, 1)]], fresh := false, run := fun ds => f165 ((ds.headD .undef).asRows) ((ds.tail.headD .undef).asInt) ((ds.tail.tail.headD .undef).asInt) }
theorem run165 (ds : List D) : evalFW env165 live165 Try.f165 [.ptr 207 [(.slc 5, 0, 0), (.int .i64, 0, 0), (.int .i64, 0, 0)]] [.val false [(.slc 40, 1)]] ds = fi165.run ds := by kernel_rfl
theorem ok165 : FnOk Try.prog tys 165 fi165 :=
  evalF_ok (live := live165) mixed tysOk (E := env165) rfl (envOk (⟨ok13, ⟨ok23, ⟨ok78, ⟨ok79, ⟨ok168, ⟨ok233, ⟨ok234, ⟨ok235, trivial⟩⟩⟩⟩⟩⟩⟩⟩) eqsOk) Try.func165 (c := (Try.f165.body).getD .skip) (by kernel_rfl) (by rw [show Try.f165.name = "loop.example/g00106/spec.l14DrawRight" by kernel_rfl]; decide) (fun ds out h => evalFW_some ((run165 ds).trans h)) (by decide) (by decide) (fun h => by cases h)
/-! ### 76: loop.example/g00106/spec.l14DrawHelds -/
noncomputable def f76 (a0 : List (List D)) (a1 : Int) (a2 : Int) : Option (List D) :=
  callB (f165 a0 a1 a2) fun r1 =>
  callB (f79 (((r1.drop 1).headD .undef).asRows) ((((r1.drop 1).tail).headD .undef).asInt) (((((r1.drop 1).tail).tail).headD .undef).asInt) 20) fun r2 =>
  if (((r2.headD .undef).asInt) == 0) = true then
    callB (f79 (((r2.drop 1).headD .undef).asRows) ((((r2.drop 1).tail).headD .undef).asInt) (((((r2.drop 1).tail).tail).headD .undef).asInt) 3) fun r3 =>
    if (lenB ((((r1.headD .undef)).asRows).length + 1) 56) = true then
      let v4 : List (List D) := (((r1.headD .undef)).asRows) ++ ([[D.int .i64 ((r3.headD .undef).asInt), D.int .i64 0, D.str ByteArray.empty, D.slc ([])]])
      some [D.slc v4, D.slc (((r3.drop 1).headD .undef).asRows), D.int .i64 ((((r3.drop 1).tail).headD .undef).asInt), D.int .i64 (((((r3.drop 1).tail).tail).headD .undef).asInt)]
    else
      none
  else
    if (((r2.headD .undef).asInt) == 1) = true then
      if (ltI 0 (((((r1.headD .undef)).asRows).length : Int))) = true then
        callB (f98 (((r2.drop 1).headD .undef).asRows) ((((r2.drop 1).tail).headD .undef).asInt) (((((r2.drop 1).tail).tail).headD .undef).asInt) ([[D.int .i64 0], [D.int .i64 1000], [D.int .i64 1001]])) fun r5 =>
        if (leI 0 0 && ltI 0 (((((r1.headD .undef)).asRows).length : Int))) = true then
          some [D.slc ((((r1.headD .undef)).asRows).set 0 (splice ((((r1.headD .undef)).asRows).getD 0 []) 0 [D.int .i64 ((r5.headD .undef).asInt)])), D.slc (((r5.drop 1).headD .undef).asRows), D.int .i64 ((((r5.drop 1).tail).headD .undef).asInt), D.int .i64 (((((r5.drop 1).tail).tail).headD .undef).asInt)]
        else
          none
      else
        some [D.slc (((r1.headD .undef)).asRows), D.slc (((r2.drop 1).headD .undef).asRows), D.int .i64 ((((r2.drop 1).tail).headD .undef).asInt), D.int .i64 (((((r2.drop 1).tail).tail).headD .undef).asInt)]
    else
      some [D.slc (((r1.headD .undef)).asRows), D.slc (((r2.drop 1).headD .undef).asRows), D.int .i64 ((((r2.drop 1).tail).headD .undef).asInt), D.int .i64 (((((r2.drop 1).tail).tail).headD .undef).asInt)]
noncomputable def live76 : Nat → List (Nat × LHint) := fun n => match n with
  | _ => []
noncomputable def env76 : Env := ⟨tys, look [(79, fi79), (98, fi98), (165, fi165)], eqs⟩
noncomputable def fi76 : FI := { ps := [.ptr 207 [(.slc 5, 0, 0), (.int .i64, 0, 0), (.int .i64, 0, 0)]], rs := [.val false [(.slc 40, 1)]], fresh := false, run := fun ds => f76 ((ds.headD .undef).asRows) ((ds.tail.headD .undef).asInt) ((ds.tail.tail.headD .undef).asInt) }
theorem run76 (ds : List D) : evalFW env76 live76 Try.f76 [.ptr 207 [(.slc 5, 0, 0), (.int .i64, 0, 0), (.int .i64, 0, 0)]] [.val false [(.slc 40, 1)]] ds = fi76.run ds := by kernel_rfl
theorem ok76 : FnOk Try.prog tys 76 fi76 :=
  evalF_ok (live := live76) mixed tysOk (E := env76) rfl (envOk (⟨ok79, ⟨ok98, ⟨ok165, trivial⟩⟩⟩) eqsOk) Try.func76 (c := (Try.f76.body).getD .skip) (by kernel_rfl) (by rw [show Try.f76.name = "loop.example/g00106/spec.l14DrawHelds" by kernel_rfl]; decide) (fun ds out h => evalFW_some ((run76 ds).trans h)) (by decide) (by decide) (fun h => by cases h)
/-! ### 77: loop.example/g00106/spec.l14DrawRelease -/
noncomputable def f77 (a0 : List (List D)) (a1 : Int) (a2 : Int) : Option (List D) :=
  callB (f78 a0 a1 a2 15) fun r1 =>
  if ((r1.headD .undef).asBool) = true then
    callB (f98 (((r1.drop 1).headD .undef).asRows) ((((r1.drop 1).tail).headD .undef).asInt) (((((r1.drop 1).tail).tail).headD .undef).asInt) ([[D.int .i64 0], [D.int .i64 1000], [D.int .i64 1001]])) fun r2 =>
    some [D.int .i64 ((r2.headD .undef).asInt), D.slc (((r2.drop 1).headD .undef).asRows), D.int .i64 ((((r2.drop 1).tail).headD .undef).asInt), D.int .i64 (((((r2.drop 1).tail).tail).headD .undef).asInt)]
  else
    callB (f79 (((r1.drop 1).headD .undef).asRows) ((((r1.drop 1).tail).headD .undef).asInt) (((((r1.drop 1).tail).tail).headD .undef).asInt) 7) fun r3 =>
    some [D.int .i64 (IntKind.wrap .i64 (1 + ((r3.headD .undef).asInt))), D.slc (((r3.drop 1).headD .undef).asRows), D.int .i64 ((((r3.drop 1).tail).headD .undef).asInt), D.int .i64 (((((r3.drop 1).tail).tail).headD .undef).asInt)]
noncomputable def live77 : Nat → List (Nat × LHint) := fun n => match n with
  | _ => []
noncomputable def env77 : Env := ⟨tys, look [(78, fi78), (79, fi79), (98, fi98)], eqs⟩
noncomputable def fi77 : FI := { ps := [.ptr 207 [(.slc 5, 0, 0), (.int .i64, 0, 0), (.int .i64, 0, 0)]], rs := [.val false [(.int .i64, 0)]], fresh := false, run := fun ds => f77 ((ds.headD .undef).asRows) ((ds.tail.headD .undef).asInt) ((ds.tail.tail.headD .undef).asInt) }
theorem run77 (ds : List D) : evalFW env77 live77 Try.f77 [.ptr 207 [(.slc 5, 0, 0), (.int .i64, 0, 0), (.int .i64, 0, 0)]] [.val false [(.int .i64, 0)]] ds = fi77.run ds := by kernel_rfl
theorem ok77 : FnOk Try.prog tys 77 fi77 :=
  evalF_ok (live := live77) mixed tysOk (E := env77) rfl (envOk (⟨ok78, ⟨ok79, ⟨ok98, trivial⟩⟩⟩) eqsOk) Try.func77 (c := (Try.f77.body).getD .skip) (by kernel_rfl) (by rw [show Try.f77.name = "loop.example/g00106/spec.l14DrawRelease" by kernel_rfl]; decide) (fun ds out h => evalFW_some ((run77 ds).trans h)) (by decide) (by decide) (fun h => by cases h)
/-! ### 80: loop.example/g00106/spec.l1Max -/
noncomputable def f80 (a0 : Int) (a1 : Int) : Option (List D) :=
  if (ltI a1 a0) = true then
    some [D.int .i64 a0]
  else
    some [D.int .i64 a1]
noncomputable def live80 : Nat → List (Nat × LHint) := fun n => match n with
  | _ => []
noncomputable def env80 : Env := ⟨tys, look [], eqs⟩
noncomputable def fi80 : FI := { ps := [.val false [(.int .i64, 0)], .val false [(.int .i64, 0)]], rs := [.val false [(.int .i64, 0)]], fresh := true, run := fun ds => f80 ((ds.headD .undef).asInt) (((ds.drop 1).headD .undef).asInt) }
theorem run80 (ds : List D) : evalFW env80 live80 Try.f80 [.val false [(.int .i64, 0)], .val false [(.int .i64, 0)]] [.val false [(.int .i64, 0)]] ds = fi80.run ds := by kernel_rfl
theorem ok80 : FnOk Try.prog tys 80 fi80 :=
  evalF_ok (live := live80) mixed tysOk (E := env80) rfl (envOk (trivial) eqsOk) Try.func80 (c := (Try.f80.body).getD .skip) (by kernel_rfl) (by rw [show Try.f80.name = "loop.example/g00106/spec.l1Max" by kernel_rfl]; decide) (fun ds out h => evalFW_some ((run80 ds).trans h)) (by decide) (by decide) (fun _ => by kernel_rfl)
/-! ### 20: loop.example/g00106/spec.DrawHeldPut -/
noncomputable def f20 (a0 : List (List D)) : Option (List D) :=
  callB (f75 a0) fun r1 =>
  callB (f76 ((((r1.headD .undef).asRow ++ r1.tail).headD .undef).asRows) (((((r1.headD .undef).asRow ++ r1.tail).tail).headD .undef).asInt) ((((((r1.headD .undef).asRow ++ r1.tail).tail).tail).headD .undef).asInt)) fun r2 =>
  callB (f77 (((r2.drop 1).headD .undef).asRows) ((((r2.drop 1).tail).headD .undef).asInt) (((((r2.drop 1).tail).tail).headD .undef).asInt)) fun r3 =>
  if (ltI 0 (((((r2.headD .undef)).asRows).length : Int))) = true then
    callB (f78 (((r3.drop 1).headD .undef).asRows) ((((r3.drop 1).tail).headD .undef).asInt) (((((r3.drop 1).tail).tail).headD .undef).asInt) 4) fun r4 =>
    if (!((r4.headD .undef).asBool)) = true then
      callB (f79 (((r4.drop 1).headD .undef).asRows) ((((r4.drop 1).tail).headD .undef).asInt) (((((r4.drop 1).tail).tail).headD .undef).asInt) (((((r2.headD .undef)).asRows).length : Int))) fun r5 =>
      if (leI 0 ((r5.headD .undef).asInt) && ltI ((r5.headD .undef).asInt) (((((r2.headD .undef)).asRows).length : Int))) = true then
        let v6 : Int := rI ((((r2.headD .undef)).asRows).getD (((r5.headD .undef).asInt).toNat) []) 0
        let v7 : Int := rI ((((r2.headD .undef)).asRows).getD (((r5.headD .undef).asInt).toNat) []) 1
        let _v8 : ByteArray := rS ((((r2.headD .undef)).asRows).getD (((r5.headD .undef).asInt).toNat) []) 2
        let v9 : List (List D) := rL ((((r2.headD .undef)).asRows).getD (((r5.headD .undef).asInt).toNat) []) 3
        callB (f79 (((r5.drop 1).headD .undef).asRows) ((((r5.drop 1).tail).headD .undef).asInt) (((((r5.drop 1).tail).tail).headD .undef).asInt) (IntKind.wrap .i64 (((v9.length : Int)) + 1))) fun r10 =>
        let v11 : Int := IntKind.wrap .i64 (v7 - (IntKind.wrap .i64 (((r10.headD .undef).asInt) * 16)))
        callB (f81 16 v11) fun r12 =>
        callB (f80 ((r12.headD .undef).asInt) 0) fun r13 =>
        if (eqI ((r13.headD .undef).asInt) ((r13.headD .undef).asInt) && leI 0 ((r13.headD .undef).asInt) && leI (((r13.headD .undef).asInt) * 1) 140737488355328 && leI ((r13.headD .undef).asInt) 140737488355328) = true then
          let v14 : ByteArray := bytesOfRows (List.replicate ((r13.headD .undef).asInt).toNat [D.int .u8 0])
          some [D.slc (((r2.headD .undef)).asRows), D.int .i64 v6, D.int .i64 ((r10.headD .undef).asInt), D.str v14]
        else
          none
      else
        none
    else
      callB (f79 (((r4.drop 1).headD .undef).asRows) ((((r4.drop 1).tail).headD .undef).asInt) (((((r4.drop 1).tail).tail).headD .undef).asInt) 3) fun r15 =>
      callB (f82 (((r15.drop 1).headD .undef).asRows) ((((r15.drop 1).tail).headD .undef).asInt) (((((r15.drop 1).tail).tail).headD .undef).asInt) 17) fun r16 =>
      some [D.slc (((r2.headD .undef)).asRows), D.int .i64 ((r3.headD .undef).asInt), D.int .i64 ((r15.headD .undef).asInt), D.str ((r16.headD .undef).asStr)]
  else
    callB (f79 (((r3.drop 1).headD .undef).asRows) ((((r3.drop 1).tail).headD .undef).asInt) (((((r3.drop 1).tail).tail).headD .undef).asInt) 3) fun r17 =>
    callB (f82 (((r17.drop 1).headD .undef).asRows) ((((r17.drop 1).tail).headD .undef).asInt) (((((r17.drop 1).tail).tail).headD .undef).asInt) 17) fun r18 =>
    some [D.slc (((r2.headD .undef)).asRows), D.int .i64 ((r3.headD .undef).asInt), D.int .i64 ((r17.headD .undef).asInt), D.str ((r18.headD .undef).asStr)]
noncomputable def live20 : Nat → List (Nat × LHint) := fun n => match n with
  | _ => []
noncomputable def env20 : Env := ⟨tys, look [(75, fi75), (76, fi76), (77, fi77), (78, fi78), (79, fi79), (80, fi80), (81, fi81), (82, fi82)], eqs⟩
noncomputable def fi20 : FI := { ps := [.val false [(.slc 5, 0)]], rs := [.val false [(.slc 40, 1)], .val false [(.int .i64, 0)], .val false [(.int .i64, 0)], .val false [(.str, 0)]], fresh := false, run := fun ds => f20 ((ds.headD .undef).asRows) }
theorem run20 (ds : List D) : evalFW env20 live20 Try.f20 [.val false [(.slc 5, 0)]] [.val false [(.slc 40, 1)], .val false [(.int .i64, 0)], .val false [(.int .i64, 0)], .val false [(.str, 0)]] ds = fi20.run ds := by kernel_rfl
theorem ok20 : FnOk Try.prog tys 20 fi20 :=
  evalF_ok (live := live20) mixed tysOk (E := env20) rfl (envOk (⟨ok75, ⟨ok76, ⟨ok77, ⟨ok78, ⟨ok79, ⟨ok80, ⟨ok81, ⟨ok82, trivial⟩⟩⟩⟩⟩⟩⟩⟩) eqsOk) Try.func20 (c := (Try.f20.body).getD .skip) (by kernel_rfl) (by rw [show Try.f20.name = "loop.example/g00106/spec.DrawHeldPut" by kernel_rfl]; decide) (fun ds out h => evalFW_some ((run20 ds).trans h)) (by decide) (by decide) (fun h => by cases h)
/-! ### 4: loop.example/g00106/laws.FnHeldPut -/
noncomputable def b4_19 (a0 : List (List D)) (a1 : Int) (a2 : Int) (a3 : ByteArray) (a4 : List (List D)) (a5 : Int) (a6 : Int) (a7 : Int) (a8 : ByteArray) (a9 : List (List D)) (a10 : Int) (a11 : ByteArray) (a12 : List (List D)) (a13 : Int) : Option (Nat × List D) :=
  if (ltI a13 ((a9.length : Int))) = true then
    if (a5 == 0) = true then
      if (leI 0 a6 && ltI a6 ((a0.length : Int))) = true then
        if ((rI (a0.getD a6.toNat []) 0) == a1) = true then
          if (!(a13 == a2)) = true then
            if (leI 0 a13 && ltI a13 ((a9.length : Int))) = true then
              if (leI 0 a13 && ltI a13 ((a12.length : Int))) = true then
                let v1 : Bool := !((rS (a9.getD a13.toNat []) 0).toList == (rS (a12.getD a13.toNat []) 0).toList)
                if v1 = true then
                  some (1, [D.bool false])
                else
                  if (a13 == a2) = true then
                    if (leI 0 a13 && ltI a13 ((a12.length : Int))) = true then
                      if (!((rS (a12.getD a13.toNat []) 0).toList == a3.toList)) = true then
                        some (1, [D.bool false])
                      else
                        some (0, [D.slc a0, D.int .i64 a1, D.int .i64 a2, D.str a3, D.slc a4, D.int .i64 a5, D.int .i64 a6, D.int .i64 a7, D.str a8, D.slc a9, D.int .i64 a10, D.str a11, D.slc a12, D.int .i64 (IntKind.wrap .i64 (a13 + 1))])
                    else
                      none
                  else
                    some (0, [D.slc a0, D.int .i64 a1, D.int .i64 a2, D.str a3, D.slc a4, D.int .i64 a5, D.int .i64 a6, D.int .i64 a7, D.str a8, D.slc a9, D.int .i64 a10, D.str a11, D.slc a12, D.int .i64 (IntKind.wrap .i64 (a13 + 1))])
              else
                none
            else
              none
          else
            if (a13 == a2) = true then
              if (leI 0 a13 && ltI a13 ((a12.length : Int))) = true then
                if (!((rS (a12.getD a13.toNat []) 0).toList == a3.toList)) = true then
                  some (1, [D.bool false])
                else
                  some (0, [D.slc a0, D.int .i64 a1, D.int .i64 a2, D.str a3, D.slc a4, D.int .i64 a5, D.int .i64 a6, D.int .i64 a7, D.str a8, D.slc a9, D.int .i64 a10, D.str a11, D.slc a12, D.int .i64 (IntKind.wrap .i64 (a13 + 1))])
              else
                none
            else
              some (0, [D.slc a0, D.int .i64 a1, D.int .i64 a2, D.str a3, D.slc a4, D.int .i64 a5, D.int .i64 a6, D.int .i64 a7, D.str a8, D.slc a9, D.int .i64 a10, D.str a11, D.slc a12, D.int .i64 (IntKind.wrap .i64 (a13 + 1))])
        else
          if (leI 0 a13 && ltI a13 ((a9.length : Int))) = true then
            if (leI 0 a13 && ltI a13 ((a12.length : Int))) = true then
              let v2 : Bool := !((rS (a9.getD a13.toNat []) 0).toList == (rS (a12.getD a13.toNat []) 0).toList)
              if v2 = true then
                some (1, [D.bool false])
              else
                some (0, [D.slc a0, D.int .i64 a1, D.int .i64 a2, D.str a3, D.slc a4, D.int .i64 a5, D.int .i64 a6, D.int .i64 a7, D.str a8, D.slc a9, D.int .i64 a10, D.str a11, D.slc a12, D.int .i64 (IntKind.wrap .i64 (a13 + 1))])
            else
              none
          else
            none
      else
        none
    else
      if (leI 0 a13 && ltI a13 ((a9.length : Int))) = true then
        if (leI 0 a13 && ltI a13 ((a12.length : Int))) = true then
          let v3 : Bool := !((rS (a9.getD a13.toNat []) 0).toList == (rS (a12.getD a13.toNat []) 0).toList)
          if v3 = true then
            some (1, [D.bool false])
          else
            some (0, [D.slc a0, D.int .i64 a1, D.int .i64 a2, D.str a3, D.slc a4, D.int .i64 a5, D.int .i64 a6, D.int .i64 a7, D.str a8, D.slc a9, D.int .i64 a10, D.str a11, D.slc a12, D.int .i64 (IntKind.wrap .i64 (a13 + 1))])
        else
          none
      else
        none
  else
    some (4, [D.slc a0, D.int .i64 a1, D.int .i64 a2, D.str a3, D.slc a4, D.int .i64 a5, D.int .i64 a6, D.int .i64 a7, D.str a8, D.slc a9, D.int .i64 a10, D.str a11, D.slc a12, D.int .i64 a13])
noncomputable def B4_19 : Step := fun ds => b4_19 ((ds.headD .undef).asRows) (((ds.drop 1).headD .undef).asInt) ((((ds.drop 1).drop 1).headD .undef).asInt) (((((ds.drop 1).drop 1).drop 1).headD .undef).asStr) ((((((ds.drop 1).drop 1).drop 1).drop 1).headD .undef).asRows) (((((((ds.drop 1).drop 1).drop 1).drop 1).drop 1).headD .undef).asInt) ((((((((ds.drop 1).drop 1).drop 1).drop 1).drop 1).drop 1).headD .undef).asInt) (((((((((ds.drop 1).drop 1).drop 1).drop 1).drop 1).drop 1).drop 1).headD .undef).asInt) ((((((((((ds.drop 1).drop 1).drop 1).drop 1).drop 1).drop 1).drop 1).tail).headD .undef).asStr) (((((((((((ds.drop 1).drop 1).drop 1).drop 1).drop 1).drop 1).drop 1).tail).tail).headD .undef).asRows) ((((((((((ds.drop 1).drop 1).drop 1).drop 1).drop 1).drop 1).drop 1).drop 3).headD .undef).asInt) (((((((((((ds.drop 1).drop 1).drop 1).drop 1).drop 1).drop 1).drop 1).drop 3).tail).headD .undef).asStr) ((((((((((((ds.drop 1).drop 1).drop 1).drop 1).drop 1).drop 1).drop 1).drop 3).tail).tail).headD .undef).asRows) (((((((((((ds.drop 1).drop 1).drop 1).drop 1).drop 1).drop 1).drop 1).drop 3).drop 3).headD .undef).asInt)
noncomputable def b4_13 (a0 : List (List D)) (a1 : Int) (a2 : Int) (a3 : ByteArray) (a4 : List (List D)) (a5 : Int) (a6 : Int) : Option (Nat × List D) :=
  if (ltI a6 ((a0.length : Int))) = true then
    if (leI 0 a6 && ltI a6 ((a0.length : Int))) = true then
      if (leI 0 a6 && ltI a6 ((a4.length : Int))) = true then
        if (leI 0 a6 && ltI a6 ((a4.length : Int))) = true then
          if (leI 0 a6 && ltI a6 ((a0.length : Int))) = true then
            if ((rI (a4.getD a6.toNat []) 0) != (rI (a0.getD a6.toNat []) 0)) = true then
              some (1, [D.bool false])
            else
              let v1 : Bool := !((rS (a0.getD a6.toNat []) 2).toList == (rS (a4.getD a6.toNat []) 2).toList)
              if v1 = true then
                some (1, [D.bool false])
              else
                let v2 : Bool := (((rL (a0.getD a6.toNat []) 3).length : Int)) != (((rL (a4.getD a6.toNat []) 3).length : Int))
                if v2 = true then
                  some (1, [D.bool false])
                else
                  getB (whileW B4_19 [D.slc a0, D.int .i64 a1, D.int .i64 a2, D.str a3, D.slc a4, D.int .i64 a5, D.int .i64 a6, D.int .i64 (rI (a0.getD a6.toNat []) 1), D.str (rS (a0.getD a6.toNat []) 2), D.slc (rL (a0.getD a6.toNat []) 3), D.int .i64 (rI (a4.getD a6.toNat []) 1), D.str (rS (a4.getD a6.toNat []) 2), D.slc (rL (a4.getD a6.toNat []) 3), D.int .i64 0]) fun x3 =>
                  if (Nat.beq x3.1 4) = true then
                    let v4 : Int := (((((((x3.2.drop 1).drop 1).drop 1).drop 1).drop 1).drop 1).headD .undef).asInt
                    some (0, [D.slc (((x3.2.headD .undef)).asRows), D.int .i64 (((x3.2.drop 1).headD .undef).asInt), D.int .i64 ((((x3.2.drop 1).drop 1).headD .undef).asInt), D.str (((((x3.2.drop 1).drop 1).drop 1).headD .undef).asStr), D.slc (((((((x3.2.drop 1).drop 1).drop 1).drop 1).headD .undef)).asRows), D.int .i64 (((((((x3.2.drop 1).drop 1).drop 1).drop 1).drop 1).headD .undef).asInt), D.int .i64 (IntKind.wrap .i64 (v4 + 1))])
                  else
                    if (Nat.beq x3.1 1) = true then
                      some (1, x3.2)
                    else
                      none
          else
            none
        else
          none
      else
        none
    else
      none
  else
    some (2, [D.slc a0, D.int .i64 a1, D.int .i64 a2, D.str a3, D.slc a4, D.int .i64 a5, D.int .i64 a6])
noncomputable def B4_13 : Step := fun ds => b4_13 ((ds.headD .undef).asRows) (((ds.drop 1).headD .undef).asInt) ((((ds.drop 1).drop 1).headD .undef).asInt) (((((ds.drop 1).drop 1).drop 1).headD .undef).asStr) ((((((ds.drop 1).drop 1).drop 1).drop 1).headD .undef).asRows) (((((((ds.drop 1).drop 1).drop 1).drop 1).drop 1).headD .undef).asInt) ((((((((ds.drop 1).drop 1).drop 1).drop 1).drop 1).drop 1).headD .undef).asInt)
noncomputable def f4 (a0 : List (List D)) : Option (List D) :=
  callB (f19 a0) fun r1 =>
  if ((r1.headD .undef).asBool) = true then
    some [D.bool true]
  else
    callB (f20 a0) fun r2 =>
    callB (f15 (((r2.headD .undef)).asRows) ((r2.tail.headD .undef).asInt) ((r2.tail.tail.headD .undef).asInt) ((r2.tail.tail.tail.headD .undef).asStr)) fun r3 =>
    callB (f13 (((r2.headD .undef)).asRows) ((r2.tail.headD .undef).asInt) ((r2.tail.tail.headD .undef).asInt) ((r2.tail.tail.tail.headD .undef).asStr)) fun r4 =>
    let v5 : Bool := ((r3.tail.headD .undef).asInt) != ((r4.tail.headD .undef).asInt)
    if v5 = true then
      some [D.bool false]
    else
      callB (f21 (((r2.headD .undef)).asRows)) fun r6 =>
      if (!((r6.headD .undef).asBool)) = true then
        some [D.bool ((((((r3.headD .undef)).asRows).length : Int)) == 0)]
      else
        let v7 : Bool := (((((r3.headD .undef)).asRows).length : Int)) != (((((r2.headD .undef)).asRows).length : Int))
        if v7 = true then
          some [D.bool false]
        else
          callB (f22 (((r3.headD .undef)).asRows)) fun r8 =>
          if (!((r8.headD .undef).asBool)) = true then
            some [D.bool false]
          else
            getB (whileW B4_13 [D.slc (((r2.headD .undef)).asRows), D.int .i64 ((r2.tail.headD .undef).asInt), D.int .i64 ((r2.tail.tail.headD .undef).asInt), D.str ((r2.tail.tail.tail.headD .undef).asStr), D.slc (((r3.headD .undef)).asRows), D.int .i64 ((r3.tail.headD .undef).asInt), D.int .i64 0]) fun x9 =>
            if (Nat.beq x9.1 2) = true then
              some [D.bool true]
            else
              if (Nat.beq x9.1 1) = true then
                some x9.2
              else
                none
noncomputable def live4 : Nat → List (Nat × LHint) := fun n => match n with
  | 13 => [(3, .auto [.slc 40]), (4, .auto [.int .i64]), (5, .auto [.int .i64]), (6, .auto [.str]), (7, .auto [.slc 40]), (8, .auto [.int .i64]), (11, .auto [.int .i64])]
  | 19 => [(3, .auto [.slc 40]), (4, .auto [.int .i64]), (5, .auto [.int .i64]), (6, .auto [.str]), (7, .auto [.slc 40]), (8, .auto [.int .i64]), (11, .auto [.int .i64]), (12, .auto []), (13, .auto []), (14, .auto [.int .i64])]
  | _ => []
noncomputable def env4 : Env := ⟨tys, look [(13, fi13), (15, fi15), (19, fi19), (20, fi20), (21, fi21), (22, fi22)], eqs⟩
noncomputable def fi4 : FI := { ps := [.val false [(.slc 5, 0)]], rs := [.val false [(.bool, 0)]], fresh := true, run := fun ds => f4 ((ds.headD .undef).asRows) }
theorem run4 (ds : List D) : evalFW env4 live4 Try.f4 [.val false [(.slc 5, 0)]] [.val false [(.bool, 0)]] ds = fi4.run ds := by kernel_rfl
theorem ok4 : FnOk Try.prog tys 4 fi4 :=
  evalF_ok (live := live4) mixed tysOk (E := env4) rfl (envOk (⟨ok13, ⟨ok15, ⟨ok19, ⟨ok20, ⟨ok21, ⟨ok22, trivial⟩⟩⟩⟩⟩⟩) eqsOk) Try.func4 (c := (Try.f4.body).getD .skip) (by kernel_rfl) (by rw [show Try.f4.name = "loop.example/g00106/laws.FnHeldPut" by kernel_rfl]; decide) (fun ds out h => evalFW_some ((run4 ds).trans h)) (by decide) (by decide) (fun _ => by kernel_rfl)
end Go.Ev
