import Derived.Test.YtanjepehphnfhaaChecked
import Derived.Test.YtanjepehphnfhaaEvC
set_option maxHeartbeats 4000000
namespace Go.Ev
open Go.Proofs
set_option maxRecDepth 100000

set_option maxHeartbeats 0
noncomputable def tys : Types := look [(3, ⟨.int .i64, [.int .i64], 8⟩),
  (4, ⟨.bool, [.bool], 1⟩),
  (5, ⟨.int .u8, [.int .u8], 1⟩),
  (9, ⟨.str, [.str], 16⟩),
  (21, ⟨.int .i32, [.int .i32], 4⟩),
  (31, ⟨.slc 5, [.slc 5], 24⟩),
  (43, ⟨.slc 71, [.slc 71], 24⟩),
  (45, ⟨.struct [(0, 3), (1, 43)], [.int .i64, .slc 71], 32⟩),
  (54, ⟨.slc 153, [.slc 153], 24⟩),
  (55, ⟨.slc 63, [.slc 63], 24⟩),
  (56, ⟨.slc 157, [.slc 157], 24⟩),
  (58, ⟨.struct [(0, 54), (1, 55), (2, 56)], [.slc 153, .slc 63, .slc 157], 72⟩),
  (63, ⟨.struct [(0, 3), (1, 3), (2, 3)], [.int .i64, .int .i64, .int .i64], 24⟩),
  (71, ⟨.struct [(0, 3), (1, 3)], [.int .i64, .int .i64], 16⟩),
  (93, ⟨.slc 3, [.slc 3], 24⟩),
  (122, ⟨.ptr 207, [.ptr 207], 8⟩),
  (140, ⟨.ptr 142, [.ptr 142], 8⟩),
  (142, ⟨.struct [(0, 31), (1, 3), (2, 4)], [.slc 5, .int .i64, .bool], 40⟩),
  (151, ⟨.struct [(0, 3), (1, 3), (2, 3)], [.int .i64, .int .i64, .int .i64], 24⟩),
  (153, ⟨.struct [(0, 3), (1, 3), (2, 3), (3, 3), (4, 151), (7, 3), (8, 3)], [.int .i64, .int .i64, .int .i64, .int .i64, .int .i64, .int .i64, .int .i64, .int .i64, .int .i64], 72⟩),
  (157, ⟨.struct [(0, 3), (1, 3)], [.int .i64, .int .i64], 16⟩),
  (207, ⟨.struct [(0, 31), (1, 3), (2, 3)], [.slc 5, .int .i64, .int .i64], 40⟩)]
def eql : List TypeId := [63, 71, 151, 157]
def eqs (t : TypeId) : Bool := idIn (t, 0) (eql.map fun t => (t, 0))
theorem tysOk : TyOk Try.prog tys := tyOk_of (by kernel_rfl)
theorem eqsOk : ∀ t, eqs t = true → EqOk Try.prog t (cksOf tys t) := eqOk_of (by kernel_rfl)
theorem mixed : Try.prog.follows .mixedOrders = true := by kernel_rfl
/-! ### 19: loop.example/g00106/laws.big -/
noncomputable def f19 (a0 : List (List D)) : Option (List D) :=
  some [D.bool (ltI 1048576 ((a0.length : Int)))]
noncomputable def live19 : Nat → List (Nat × LHint) := fun n => match n with
  | _ => []
noncomputable def env19 : Env := ⟨tys, look [], eqs⟩
noncomputable def fi19 : FI := { ps := [.val false [(.slc 5, 0)]], rs := [.val false [(.bool, 0)]], fresh := true, run := fun ds => f19 ((ds.headD .undef).asRows) }
theorem run19 (ds : List D) : evalFW env19 live19 Try.f19 [.val false [(.slc 5, 0)]] [.val false [(.bool, 0)]] ds = fi19.run ds := by kernel_rfl
theorem ok19 : FnOk Try.prog tys 19 fi19 :=
  evalF_ok (live := live19) mixed tysOk (E := env19) rfl (envOk (trivial) eqsOk) Try.func19 (c := (Try.f19.body).getD .skip) (by kernel_rfl) (by rw [show Try.f19.name = "loop.example/g00106/laws.big" by kernel_rfl]; decide) (fun ds out h => evalFW_some ((run19 ds).trans h)) (by decide) (by decide) (fun _ => by kernel_rfl)
/-! ### 75: loop.example/g00106/spec.l1New -/
noncomputable def b75_3 (a0 : List (List D)) (a1 : Int) (a2 : Int) : Option (Nat × List D) :=
  if (ltI a2 ((a0.length : Int))) = true then
    if (ltI a2 4000) = true then
      if (leI 0 a2 && ltI a2 ((a0.length : Int))) = true then
        let v1 : Int := IntKind.wrap .i64 ((IntKind.wrap .i64 (a1 * 131)) + (IntKind.wrap .i64 (rI (a0.getD a2.toNat []) 0)))
        some (0, [D.slc a0, D.int .i64 (band .i64 (IntKind.wrap .i64 (v1 + 7)) 1073741823), D.int .i64 (IntKind.wrap .i64 (a2 + 1))])
      else
        none
    else
      some (2, [D.slc a0, D.int .i64 a1, D.int .i64 a2])
  else
    some (2, [D.slc a0, D.int .i64 a1, D.int .i64 a2])
noncomputable def B75_3 : Step := fun ds => b75_3 ((ds.headD .undef).asRows) (((ds.drop 1).headD .undef).asInt) ((((ds.drop 1).drop 1).headD .undef).asInt)
noncomputable def f75 (a0 : List (List D)) : Option (List D) :=
  getB (whileW B75_3 [D.slc a0, D.int .i64 (IntKind.wrap .i64 (10677 + ((a0.length : Int)))), D.int .i64 0]) fun x1 =>
  if (Nat.beq x1.1 2) = true then
    some [D.box 207 ([D.slc ((x1.2.headD .undef).asRows), D.int .i64 0, D.int .i64 (((x1.2.drop 1).headD .undef).asInt)])]
  else
    if (Nat.beq x1.1 1) = true then
      some x1.2
    else
      none
noncomputable def live75 : Nat → List (Nat × LHint) := fun n => match n with
  | 3 => [(0, .auto [.slc 5]), (3, .auto [.int .i64]), (4, .auto [.int .i64])]
  | _ => []
noncomputable def env75 : Env := ⟨tys, look [], eqs⟩
noncomputable def fi75 : FI := { ps := [.val false [(.slc 5, 0)]], rs := [.box 207 [(.slc 5, 0), (.int .i64, 0), (.int .i64, 0)]], fresh := false, run := fun ds => f75 ((ds.headD .undef).asRows) }
theorem run75 (ds : List D) : evalFW env75 live75 Try.f75 [.val false [(.slc 5, 0)]] [.box 207 [(.slc 5, 0), (.int .i64, 0), (.int .i64, 0)]] ds = fi75.run ds := by kernel_rfl
theorem ok75 : FnOk Try.prog tys 75 fi75 :=
  evalF_ok (live := live75) mixed tysOk (E := env75) rfl (envOk (trivial) eqsOk) Try.func75 (c := (Try.f75.body).getD .skip) (by kernel_rfl) (by rw [show Try.f75.name = "loop.example/g00106/spec.l1New" by kernel_rfl]; decide) (fun ds out h => evalFW_some ((run75 ds).trans h)) (by decide) (by decide) (fun h => by cases h)
/-! ### 83: loop.example/g00106/spec.l1In -/
noncomputable def f83 (a0 : Int) (a1 : Int) (a2 : Int) : Option (List D) :=
  if (leI a1 a0) = true then
    some [D.bool (leI a0 a2)]
  else
    some [D.bool false]
noncomputable def live83 : Nat → List (Nat × LHint) := fun n => match n with
  | _ => []
noncomputable def env83 : Env := ⟨tys, look [], eqs⟩
noncomputable def fi83 : FI := { ps := [.val false [(.int .i64, 0)], .val false [(.int .i64, 0)], .val false [(.int .i64, 0)]], rs := [.val false [(.bool, 0)]], fresh := true, run := fun ds => f83 ((ds.headD .undef).asInt) (((ds.drop 1).headD .undef).asInt) ((((ds.drop 1).drop 1).headD .undef).asInt) }
theorem run83 (ds : List D) : evalFW env83 live83 Try.f83 [.val false [(.int .i64, 0)], .val false [(.int .i64, 0)], .val false [(.int .i64, 0)]] [.val false [(.bool, 0)]] ds = fi83.run ds := by kernel_rfl
theorem ok83 : FnOk Try.prog tys 83 fi83 :=
  evalF_ok (live := live83) mixed tysOk (E := env83) rfl (envOk (trivial) eqsOk) Try.func83 (c := (Try.f83.body).getD .skip) (by kernel_rfl) (by rw [show Try.f83.name = "loop.example/g00106/spec.l1In" by kernel_rfl]; decide) (fun ds out h => evalFW_some ((run83 ds).trans h)) (by decide) (by decide) (fun _ => by kernel_rfl)
/-! ### 27: loop.example/g00106/spec.TableOk -/
noncomputable def b27_5 (a0 : Int) (a1 : List (List D)) (a2 : Int) (a3 : Int) : Option (Nat × List D) :=
  if (ltI a3 ((a1.length : Int))) = true then
    if (leI 0 a3 && ltI a3 ((a1.length : Int))) = true then
      callB (f83 (rI (a1.getD a3.toNat []) 0) (-1000000000) 1000000000) fun r1 =>
      if (!((r1.headD .undef).asBool)) = true then
        some (1, [D.bool false])
      else
        if (ltI 0 a3) = true then
          if (leI 0 (IntKind.wrap .i64 (a3 - 1)) && ltI (IntKind.wrap .i64 (a3 - 1)) ((a1.length : Int))) = true then
            let v2 : Bool := leI (rI (a1.getD a3.toNat []) 0) (rI (a1.getD ((IntKind.wrap .i64 (a3 - 1)).toNat) []) 0)
            if v2 = true then
              some (1, [D.bool false])
            else
              callB (f83 (rI (a1.getD a3.toNat []) 1) (-2000) 2000) fun r3 =>
              if (!((r3.headD .undef).asBool)) = true then
                some (1, [D.bool false])
              else
                if ((rI (a1.getD a3.toNat []) 1) == a2) = true then
                  some (1, [D.bool false])
                else
                  some (0, [D.int .i64 a0, D.slc a1, D.int .i64 (rI (a1.getD a3.toNat []) 1), D.int .i64 (IntKind.wrap .i64 (a3 + 1))])
          else
            none
        else
          callB (f83 (rI (a1.getD a3.toNat []) 1) (-2000) 2000) fun r4 =>
          if (!((r4.headD .undef).asBool)) = true then
            some (1, [D.bool false])
          else
            if ((rI (a1.getD a3.toNat []) 1) == a2) = true then
              some (1, [D.bool false])
            else
              some (0, [D.int .i64 a0, D.slc a1, D.int .i64 (rI (a1.getD a3.toNat []) 1), D.int .i64 (IntKind.wrap .i64 (a3 + 1))])
    else
      none
  else
    some (2, [D.int .i64 a0, D.slc a1, D.int .i64 a2, D.int .i64 a3])
noncomputable def B27_5 : Step := fun ds => b27_5 ((ds.headD .undef).asInt) ((ds.tail.headD .undef).asRows) (((ds.drop 2).headD .undef).asInt) ((((ds.drop 2).drop 1).headD .undef).asInt)
noncomputable def f27 (a0 : Int) (a1 : List (List D)) : Option (List D) :=
  callB (f83 a0 (-2000) 2000) fun r1 =>
  if (!((r1.headD .undef).asBool)) = true then
    some [D.bool false]
  else
    if (ltI 300 ((a1.length : Int))) = true then
      some [D.bool false]
    else
      getB (whileW B27_5 [D.int .i64 a0, D.slc a1, D.int .i64 a0, D.int .i64 0]) fun x2 =>
      if (Nat.beq x2.1 2) = true then
        some [D.bool true]
      else
        if (Nat.beq x2.1 1) = true then
          some x2.2
        else
          none
noncomputable def live27 : Nat → List (Nat × LHint) := fun n => match n with
  | 5 => [(1, .auto []), (3, .auto [.int .i64]), (4, .auto [.int .i64])]
  | _ => []
noncomputable def env27 : Env := ⟨tys, look [(83, fi83)], eqs⟩
noncomputable def fi27 : FI := { ps := [.val true [(.int .i64, 0), (.slc 71, 0)]], rs := [.val false [(.bool, 0)]], fresh := true, run := fun ds => f27 ((ds.headD .undef).asInt) ((ds.tail.headD .undef).asRows) }
theorem run27 (ds : List D) : evalFW env27 live27 Try.f27 [.val true [(.int .i64, 0), (.slc 71, 0)]] [.val false [(.bool, 0)]] ds = fi27.run ds := by kernel_rfl
theorem ok27 : FnOk Try.prog tys 27 fi27 :=
  evalF_ok (live := live27) mixed tysOk (E := env27) rfl (envOk (⟨ok83, trivial⟩) eqsOk) Try.func27 (c := (Try.f27.body).getD .skip) (by kernel_rfl) (by rw [show Try.f27.name = "loop.example/g00106/spec.TableOk" by kernel_rfl]; decide) (fun ds out h => evalFW_some ((run27 ds).trans h)) (by decide) (by decide) (fun _ => by kernel_rfl)
/-! ### 176: loop.example/g00106/spec.l12Small -/
noncomputable def f176 (a0 : Int) : Option (List D) :=
  callB (f83 a0 97 122) fun r1 =>
  some [D.bool ((r1.headD .undef).asBool)]
noncomputable def live176 : Nat → List (Nat × LHint) := fun n => match n with
  | _ => []
noncomputable def env176 : Env := ⟨tys, look [(83, fi83)], eqs⟩
noncomputable def fi176 : FI := { ps := [.val false [(.int .i64, 0)]], rs := [.val false [(.bool, 0)]], fresh := true, run := fun ds => f176 ((ds.headD .undef).asInt) }
theorem run176 (ds : List D) : evalFW env176 live176 Try.f176 [.val false [(.int .i64, 0)]] [.val false [(.bool, 0)]] ds = fi176.run ds := by kernel_rfl
theorem ok176 : FnOk Try.prog tys 176 fi176 :=
  evalF_ok (live := live176) mixed tysOk (E := env176) rfl (envOk (⟨ok83, trivial⟩) eqsOk) Try.func176 (c := (Try.f176.body).getD .skip) (by kernel_rfl) (by rw [show Try.f176.name = "loop.example/g00106/spec.l12Small" by kernel_rfl]; decide) (fun ds out h => evalFW_some ((run176 ds).trans h)) (by decide) (by decide) (fun _ => by kernel_rfl)
/-! ### 177: loop.example/g00106/spec.l11Year -/
noncomputable def f177 (a0 : Int) : Option (List D) :=
  callB (f83 a0 1900 2200) fun r1 =>
  some [D.bool ((r1.headD .undef).asBool)]
noncomputable def live177 : Nat → List (Nat × LHint) := fun n => match n with
  | _ => []
noncomputable def env177 : Env := ⟨tys, look [(83, fi83)], eqs⟩
noncomputable def fi177 : FI := { ps := [.val false [(.int .i64, 0)]], rs := [.val false [(.bool, 0)]], fresh := true, run := fun ds => f177 ((ds.headD .undef).asInt) }
theorem run177 (ds : List D) : evalFW env177 live177 Try.f177 [.val false [(.int .i64, 0)]] [.val false [(.bool, 0)]] ds = fi177.run ds := by kernel_rfl
theorem ok177 : FnOk Try.prog tys 177 fi177 :=
  evalF_ok (live := live177) mixed tysOk (E := env177) rfl (envOk (⟨ok83, trivial⟩) eqsOk) Try.func177 (c := (Try.f177.body).getD .skip) (by kernel_rfl) (by rw [show Try.f177.name = "loop.example/g00106/spec.l11Year" by kernel_rfl]; decide) (fun ds out h => evalFW_some ((run177 ds).trans h)) (by decide) (by decide) (fun _ => by kernel_rfl)
/-! ### 178: loop.example/g00106/spec.OnOk -/
noncomputable def f178 (a0 : Int) (a1 : Int) (a2 : Int) : Option (List D) :=
  if (a0 == 1) = true then
    callB (f83 a1 1 31) fun r1 =>
    if ((r1.headD .undef).asBool) = true then
      some [D.bool (a2 == 0)]
    else
      some [D.bool false]
  else
    if (a0 == 2) = true then
      if (a1 == 0) = true then
        callB (f83 a2 0 6) fun r2 =>
        some [D.bool ((r2.headD .undef).asBool)]
      else
        some [D.bool false]
    else
      if (a0 == 3) = true then
        callB (f83 a1 1 31) fun r3 =>
        if ((r3.headD .undef).asBool) = true then
          callB (f83 a2 0 6) fun r4 =>
          some [D.bool ((r4.headD .undef).asBool)]
        else
          some [D.bool false]
      else
        some [D.bool false]
noncomputable def live178 : Nat → List (Nat × LHint) := fun n => match n with
  | _ => []
noncomputable def env178 : Env := ⟨tys, look [(83, fi83)], eqs⟩
noncomputable def fi178 : FI := { ps := [.val true [(.int .i64, 0), (.int .i64, 0), (.int .i64, 0)]], rs := [.val false [(.bool, 0)]], fresh := true, run := fun ds => f178 ((ds.headD .undef).asInt) ((ds.tail.headD .undef).asInt) ((ds.tail.tail.headD .undef).asInt) }
theorem run178 (ds : List D) : evalFW env178 live178 Try.f178 [.val true [(.int .i64, 0), (.int .i64, 0), (.int .i64, 0)]] [.val false [(.bool, 0)]] ds = fi178.run ds := by kernel_rfl
theorem ok178 : FnOk Try.prog tys 178 fi178 :=
  evalF_ok (live := live178) mixed tysOk (E := env178) rfl (envOk (⟨ok83, trivial⟩) eqsOk) Try.func178 (c := (Try.f178.body).getD .skip) (by kernel_rfl) (by rw [show Try.f178.name = "loop.example/g00106/spec.OnOk" by kernel_rfl]; decide) (fun ds out h => evalFW_some ((run178 ds).trans h)) (by decide) (by decide) (fun _ => by kernel_rfl)
/-! ### 101: loop.example/g00106/spec.l12RuleOk -/
noncomputable def f101 (a0 : Int) (a1 : Int) (a2 : Int) (a3 : Int) (a4 : Int) (a5 : Int) (a6 : Int) (a7 : Int) (a8 : Int) : Option (List D) :=
  callB (f176 a0) fun r1 =>
  if ((r1.headD .undef).asBool) = true then
    callB (f177 a1) fun r2 =>
    if ((r2.headD .undef).asBool) = true then
      callB (f177 a2) fun r3 =>
      if ((r3.headD .undef).asBool) = true then
        if (leI a1 a2) = true then
          callB (f83 a3 1 12) fun r4 =>
          if ((r4.headD .undef).asBool) = true then
            callB (f178 a4 a5 a6) fun r5 =>
            if ((r5.headD .undef).asBool) = true then
              callB (f83 a7 0 1439) fun r6 =>
              if ((r6.headD .undef).asBool) = true then
                callB (f83 a8 0 180) fun r7 =>
                some [D.bool ((r7.headD .undef).asBool)]
              else
                some [D.bool false]
            else
              some [D.bool false]
          else
            some [D.bool false]
        else
          some [D.bool false]
      else
        some [D.bool false]
    else
      some [D.bool false]
  else
    some [D.bool false]
noncomputable def live101 : Nat → List (Nat × LHint) := fun n => match n with
  | _ => []
noncomputable def env101 : Env := ⟨tys, look [(83, fi83), (176, fi176), (177, fi177), (178, fi178)], eqs⟩
noncomputable def fi101 : FI := { ps := [.val true [(.int .i64, 0), (.int .i64, 0), (.int .i64, 0), (.int .i64, 0), (.int .i64, 0), (.int .i64, 0), (.int .i64, 0), (.int .i64, 0), (.int .i64, 0)]], rs := [.val false [(.bool, 0)]], fresh := true, run := fun ds => f101 ((ds.headD .undef).asInt) ((ds.tail.headD .undef).asInt) ((ds.tail.tail.headD .undef).asInt) ((ds.tail.tail.tail.headD .undef).asInt) ((ds.tail.tail.tail.tail.headD .undef).asInt) ((ds.tail.tail.tail.tail.tail.headD .undef).asInt) ((ds.tail.tail.tail.tail.tail.tail.headD .undef).asInt) ((ds.tail.tail.tail.tail.tail.tail.tail.headD .undef).asInt) ((ds.tail.tail.tail.tail.tail.tail.tail.tail.headD .undef).asInt) }
theorem run101 (ds : List D) : evalFW env101 live101 Try.f101 [.val true [(.int .i64, 0), (.int .i64, 0), (.int .i64, 0), (.int .i64, 0), (.int .i64, 0), (.int .i64, 0), (.int .i64, 0), (.int .i64, 0), (.int .i64, 0)]] [.val false [(.bool, 0)]] ds = fi101.run ds := by kernel_rfl
theorem ok101 : FnOk Try.prog tys 101 fi101 :=
  evalF_ok (live := live101) mixed tysOk (E := env101) rfl (envOk (⟨ok83, ⟨ok176, ⟨ok177, ⟨ok178, trivial⟩⟩⟩⟩) eqsOk) Try.func101 (c := (Try.f101.body).getD .skip) (by kernel_rfl) (by rw [show Try.f101.name = "loop.example/g00106/spec.l12RuleOk" by kernel_rfl]; decide) (fun ds out h => evalFW_some ((run101 ds).trans h)) (by decide) (by decide) (fun _ => by kernel_rfl)
/-! ### 179: loop.example/g00106/spec.l12Great -/
noncomputable def f179 (a0 : Int) : Option (List D) :=
  callB (f83 a0 65 90) fun r1 =>
  some [D.bool ((r1.headD .undef).asBool)]
noncomputable def live179 : Nat → List (Nat × LHint) := fun n => match n with
  | _ => []
noncomputable def env179 : Env := ⟨tys, look [(83, fi83)], eqs⟩
noncomputable def fi179 : FI := { ps := [.val false [(.int .i64, 0)]], rs := [.val false [(.bool, 0)]], fresh := true, run := fun ds => f179 ((ds.headD .undef).asInt) }
theorem run179 (ds : List D) : evalFW env179 live179 Try.f179 [.val false [(.int .i64, 0)]] [.val false [(.bool, 0)]] ds = fi179.run ds := by kernel_rfl
theorem ok179 : FnOk Try.prog tys 179 fi179 :=
  evalF_ok (live := live179) mixed tysOk (E := env179) rfl (envOk (⟨ok83, trivial⟩) eqsOk) Try.func179 (c := (Try.f179.body).getD .skip) (by kernel_rfl) (by rw [show Try.f179.name = "loop.example/g00106/spec.l12Great" by kernel_rfl]; decide) (fun ds out h => evalFW_some ((run179 ds).trans h)) (by decide) (by decide) (fun _ => by kernel_rfl)
/-! ### 180: loop.example/g00106/spec.l12HasRule -/
noncomputable def b180_2 (a0 : List (List D)) (a1 : Int) (a2 : Int) : Option (Nat × List D) :=
  if (ltI a2 ((a0.length : Int))) = true then
    if (leI 0 a2 && ltI a2 ((a0.length : Int))) = true then
      if ((rI (a0.getD a2.toNat []) 0) == a1) = true then
        some (1, [D.bool true])
      else
        some (0, [D.slc a0, D.int .i64 a1, D.int .i64 (IntKind.wrap .i64 (a2 + 1))])
    else
      none
  else
    some (2, [D.slc a0, D.int .i64 a1, D.int .i64 a2])
noncomputable def B180_2 : Step := fun ds => b180_2 ((ds.headD .undef).asRows) (((ds.drop 1).headD .undef).asInt) ((((ds.drop 1).drop 1).headD .undef).asInt)
noncomputable def f180 (a0 : List (List D)) (a1 : Int) : Option (List D) :=
  getB (whileW B180_2 [D.slc a0, D.int .i64 a1, D.int .i64 0]) fun x1 =>
  if (Nat.beq x1.1 2) = true then
    some [D.bool false]
  else
    if (Nat.beq x1.1 1) = true then
      some x1.2
    else
      none
noncomputable def live180 : Nat → List (Nat × LHint) := fun n => match n with
  | 2 => [(0, .auto [.slc 153]), (1, .auto [.int .i64]), (5, .auto [.int .i64])]
  | _ => []
noncomputable def env180 : Env := ⟨tys, look [], eqs⟩
noncomputable def fi180 : FI := { ps := [.val false [(.slc 153, 0)], .val false [(.int .i64, 0)]], rs := [.val false [(.bool, 0)]], fresh := true, run := fun ds => f180 ((ds.headD .undef).asRows) (((ds.drop 1).headD .undef).asInt) }
theorem run180 (ds : List D) : evalFW env180 live180 Try.f180 [.val false [(.slc 153, 0)], .val false [(.int .i64, 0)]] [.val false [(.bool, 0)]] ds = fi180.run ds := by kernel_rfl
theorem ok180 : FnOk Try.prog tys 180 fi180 :=
  evalF_ok (live := live180) mixed tysOk (E := env180) rfl (envOk (trivial) eqsOk) Try.func180 (c := (Try.f180.body).getD .skip) (by kernel_rfl) (by rw [show Try.f180.name = "loop.example/g00106/spec.l12HasRule" by kernel_rfl]; decide) (fun ds out h => evalFW_some ((run180 ds).trans h)) (by decide) (by decide) (fun _ => by kernel_rfl)
/-! ### 102: loop.example/g00106/spec.l12Zone -/
noncomputable def f102 (a0 : List (List D)) (a1 : List (List D)) (a2 : List (List D)) (a3 : Int) (a4 : Int) (a5 : Int) : Option (List D) :=
  callB (f179 a3) fun r1 =>
  if ((r1.headD .undef).asBool) = true then
    callB (f83 a4 (-900) 900) fun r2 =>
    if ((r2.headD .undef).asBool) = true then
      if (((a1.length : Int)) == 0) = true then
        if (a5 == 0) = true then
          some [D.bool true]
        else
          callB (f180 a0 a5) fun r3 =>
          some [D.bool ((r3.headD .undef).asBool)]
      else
        if (leI 0 (IntKind.wrap .i64 (((a1.length : Int)) - 1)) && ltI (IntKind.wrap .i64 (((a1.length : Int)) - 1)) ((a1.length : Int))) = true then
          let v4 : List D := a1.getD ((IntKind.wrap .i64 (((a1.length : Int)) - 1)).toNat) []
          if (ltI (rI v4 0) a3) = true then
            if (a5 == 0) = true then
              some [D.bool true]
            else
              callB (f180 a0 a5) fun r5 =>
              some [D.bool ((r5.headD .undef).asBool)]
          else
            some [D.bool false]
        else
          none
    else
      some [D.bool false]
  else
    some [D.bool false]
noncomputable def live102 : Nat → List (Nat × LHint) := fun n => match n with
  | _ => []
noncomputable def env102 : Env := ⟨tys, look [(83, fi83), (179, fi179), (180, fi180)], eqs⟩
noncomputable def fi102 : FI := { ps := [.val true [(.slc 153, 0), (.slc 63, 0), (.slc 157, 0)], .val true [(.int .i64, 0), (.int .i64, 0), (.int .i64, 0)]], rs := [.val false [(.bool, 0)]], fresh := true, run := fun ds => f102 ((ds.headD .undef).asRows) ((ds.tail.headD .undef).asRows) ((ds.tail.tail.headD .undef).asRows) (((ds.drop 3).headD .undef).asInt) ((((ds.drop 3).tail).headD .undef).asInt) (((((ds.drop 3).tail).tail).headD .undef).asInt) }
theorem run102 (ds : List D) : evalFW env102 live102 Try.f102 [.val true [(.slc 153, 0), (.slc 63, 0), (.slc 157, 0)], .val true [(.int .i64, 0), (.int .i64, 0), (.int .i64, 0)]] [.val false [(.bool, 0)]] ds = fi102.run ds := by kernel_rfl
theorem ok102 : FnOk Try.prog tys 102 fi102 :=
  evalF_ok (live := live102) mixed tysOk (E := env102) rfl (envOk (⟨ok83, ⟨ok179, ⟨ok180, trivial⟩⟩⟩) eqsOk) Try.func102 (c := (Try.f102.body).getD .skip) (by kernel_rfl) (by rw [show Try.f102.name = "loop.example/g00106/spec.l12Zone" by kernel_rfl]; decide) (fun ds out h => evalFW_some ((run102 ds).trans h)) (by decide) (by decide) (fun _ => by kernel_rfl)
/-! ### 181: loop.example/g00106/spec.l12HasZone -/
noncomputable def b181_2 (a0 : List (List D)) (a1 : Int) (a2 : Int) : Option (Nat × List D) :=
  if (ltI a2 ((a0.length : Int))) = true then
    if (leI 0 a2 && ltI a2 ((a0.length : Int))) = true then
      if ((rI (a0.getD a2.toNat []) 0) == a1) = true then
        some (1, [D.bool true])
      else
        some (0, [D.slc a0, D.int .i64 a1, D.int .i64 (IntKind.wrap .i64 (a2 + 1))])
    else
      none
  else
    some (2, [D.slc a0, D.int .i64 a1, D.int .i64 a2])
noncomputable def B181_2 : Step := fun ds => b181_2 ((ds.headD .undef).asRows) (((ds.drop 1).headD .undef).asInt) ((((ds.drop 1).drop 1).headD .undef).asInt)
noncomputable def f181 (a0 : List (List D)) (a1 : Int) : Option (List D) :=
  getB (whileW B181_2 [D.slc a0, D.int .i64 a1, D.int .i64 0]) fun x1 =>
  if (Nat.beq x1.1 2) = true then
    some [D.bool false]
  else
    if (Nat.beq x1.1 1) = true then
      some x1.2
    else
      none
noncomputable def live181 : Nat → List (Nat × LHint) := fun n => match n with
  | 2 => [(0, .auto [.slc 63]), (1, .auto [.int .i64]), (5, .auto [.int .i64])]
  | _ => []
noncomputable def env181 : Env := ⟨tys, look [], eqs⟩
noncomputable def fi181 : FI := { ps := [.val false [(.slc 63, 0)], .val false [(.int .i64, 0)]], rs := [.val false [(.bool, 0)]], fresh := true, run := fun ds => f181 ((ds.headD .undef).asRows) (((ds.drop 1).headD .undef).asInt) }
theorem run181 (ds : List D) : evalFW env181 live181 Try.f181 [.val false [(.slc 63, 0)], .val false [(.int .i64, 0)]] [.val false [(.bool, 0)]] ds = fi181.run ds := by kernel_rfl
theorem ok181 : FnOk Try.prog tys 181 fi181 :=
  evalF_ok (live := live181) mixed tysOk (E := env181) rfl (envOk (trivial) eqsOk) Try.func181 (c := (Try.f181.body).getD .skip) (by kernel_rfl) (by rw [show Try.f181.name = "loop.example/g00106/spec.l12HasZone" by kernel_rfl]; decide) (fun ds out h => evalFW_some ((run181 ds).trans h)) (by decide) (by decide) (fun _ => by kernel_rfl)
/-! ### 103: loop.example/g00106/spec.l12Link -/
noncomputable def f103 (a0 : List (List D)) (a1 : List (List D)) (a2 : List (List D)) (a3 : Int) (a4 : Int) : Option (List D) :=
  callB (f179 a3) fun r1 =>
  if ((r1.headD .undef).asBool) = true then
    if (((a2.length : Int)) == 0) = true then
      callB (f181 a1 a4) fun r2 =>
      if ((r2.headD .undef).asBool) = true then
        callB (f181 a1 a3) fun r3 =>
        some [D.bool (!((r3.headD .undef).asBool))]
      else
        some [D.bool false]
    else
      if (leI 0 (IntKind.wrap .i64 (((a2.length : Int)) - 1)) && ltI (IntKind.wrap .i64 (((a2.length : Int)) - 1)) ((a2.length : Int))) = true then
        let v4 : List D := a2.getD ((IntKind.wrap .i64 (((a2.length : Int)) - 1)).toNat) []
        if (ltI (rI v4 0) a3) = true then
          callB (f181 a1 a4) fun r5 =>
          if ((r5.headD .undef).asBool) = true then
            callB (f181 a1 a3) fun r6 =>
            some [D.bool (!((r6.headD .undef).asBool))]
          else
            some [D.bool false]
        else
          some [D.bool false]
      else
        none
  else
    some [D.bool false]
noncomputable def live103 : Nat → List (Nat × LHint) := fun n => match n with
  | _ => []
noncomputable def env103 : Env := ⟨tys, look [(179, fi179), (181, fi181)], eqs⟩
noncomputable def fi103 : FI := { ps := [.val true [(.slc 153, 0), (.slc 63, 0), (.slc 157, 0)], .val true [(.int .i64, 0), (.int .i64, 0)]], rs := [.val false [(.bool, 0)]], fresh := true, run := fun ds => f103 ((ds.headD .undef).asRows) ((ds.tail.headD .undef).asRows) ((ds.tail.tail.headD .undef).asRows) (((ds.drop 3).headD .undef).asInt) ((((ds.drop 3).tail).headD .undef).asInt) }
theorem run103 (ds : List D) : evalFW env103 live103 Try.f103 [.val true [(.slc 153, 0), (.slc 63, 0), (.slc 157, 0)], .val true [(.int .i64, 0), (.int .i64, 0)]] [.val false [(.bool, 0)]] ds = fi103.run ds := by kernel_rfl
theorem ok103 : FnOk Try.prog tys 103 fi103 :=
  evalF_ok (live := live103) mixed tysOk (E := env103) rfl (envOk (⟨ok179, ⟨ok181, trivial⟩⟩) eqsOk) Try.func103 (c := (Try.f103.body).getD .skip) (by kernel_rfl) (by rw [show Try.f103.name = "loop.example/g00106/spec.l12Link" by kernel_rfl]; decide) (fun ds out h => evalFW_some ((run103 ds).trans h)) (by decide) (by decide) (fun _ => by kernel_rfl)
/-! ### 33: loop.example/g00106/spec.SourceOk -/
noncomputable def b33_5 (a0 : List (List D)) (a1 : List (List D)) (a2 : List (List D)) (a3 : List (List D)) (a4 : List (List D)) (a5 : List (List D)) (a6 : Int) : Option (Nat × List D) :=
  if (ltI a6 ((a0.length : Int))) = true then
    if (leI 0 a6 && ltI a6 ((a0.length : Int))) = true then
      callB (f101 (rI (a0.getD a6.toNat []) 0) (rI (a0.getD a6.toNat []) 1) (rI (a0.getD a6.toNat []) 2) (rI (a0.getD a6.toNat []) 3) (rI (a0.getD a6.toNat []) 4) (rI (a0.getD a6.toNat []) 5) (rI (a0.getD a6.toNat []) 6) (rI (a0.getD a6.toNat []) 7) (rI (a0.getD a6.toNat []) 8)) fun r1 =>
      if (!((r1.headD .undef).asBool)) = true then
        some (1, [D.bool false])
      else
        some (0, [D.slc a0, D.slc a1, D.slc a2, D.slc a3, D.slc a4, D.slc a5, D.int .i64 (IntKind.wrap .i64 (a6 + 1))])
    else
      none
  else
    some (2, [D.slc a0, D.slc a1, D.slc a2, D.slc a3, D.slc a4, D.slc a5, D.int .i64 a6])
noncomputable def B33_5 : Step := fun ds => b33_5 ((ds.headD .undef).asRows) ((ds.tail.headD .undef).asRows) ((ds.tail.tail.headD .undef).asRows) (((ds.drop 3).headD .undef).asRows) ((((ds.drop 3).tail).headD .undef).asRows) (((((ds.drop 3).tail).tail).headD .undef).asRows) ((((ds.drop 3).drop 3).headD .undef).asInt)
noncomputable def b33_10 (a0 : List (List D)) (a1 : List (List D)) (a2 : List (List D)) (a3 : List (List D)) (a4 : List (List D)) (a5 : List (List D)) (a6 : Int) : Option (Nat × List D) :=
  if (ltI a6 ((a1.length : Int))) = true then
    if (leI 0 a6 && ltI a6 ((a1.length : Int))) = true then
      callB (f102 a3 a4 a5 (rI (a1.getD a6.toNat []) 0) (rI (a1.getD a6.toNat []) 1) (rI (a1.getD a6.toNat []) 2)) fun r1 =>
      if (!((r1.headD .undef).asBool)) = true then
        some (1, [D.bool false])
      else
        if (leI 0 (IntKind.wrap .i64 (a6 + 1)) && leI (IntKind.wrap .i64 (a6 + 1)) ((a1.length : Int))) = true then
          if (leI 0 0 && leI 0 (IntKind.wrap .i64 (a6 + 1))) = true then
            some (0, [D.slc a0, D.slc a1, D.slc a2, D.slc a3, D.slc ((a1.drop 0).take ((IntKind.wrap .i64 (a6 + 1)).toNat - 0)), D.slc a5, D.int .i64 (IntKind.wrap .i64 (a6 + 1))])
          else
            none
        else
          none
    else
      none
  else
    some (4, [D.slc a0, D.slc a1, D.slc a2, D.slc a3, D.slc a4, D.slc a5, D.int .i64 a6])
noncomputable def B33_10 : Step := fun ds => b33_10 ((ds.headD .undef).asRows) ((ds.tail.headD .undef).asRows) ((ds.tail.tail.headD .undef).asRows) (((ds.drop 3).headD .undef).asRows) ((((ds.drop 3).tail).headD .undef).asRows) (((((ds.drop 3).tail).tail).headD .undef).asRows) ((((ds.drop 3).drop 3).headD .undef).asInt)
noncomputable def b33_16 (a0 : List (List D)) (a1 : List (List D)) (a2 : List (List D)) (a3 : List (List D)) (a4 : List (List D)) (a5 : List (List D)) (a6 : Int) : Option (Nat × List D) :=
  if (ltI a6 ((a2.length : Int))) = true then
    if (leI 0 a6 && ltI a6 ((a2.length : Int))) = true then
      callB (f103 a3 a4 a5 (rI (a2.getD a6.toNat []) 0) (rI (a2.getD a6.toNat []) 1)) fun r1 =>
      if (!((r1.headD .undef).asBool)) = true then
        some (1, [D.bool false])
      else
        if (leI 0 (IntKind.wrap .i64 (a6 + 1)) && leI (IntKind.wrap .i64 (a6 + 1)) ((a2.length : Int))) = true then
          if (leI 0 0 && leI 0 (IntKind.wrap .i64 (a6 + 1))) = true then
            some (0, [D.slc a0, D.slc a1, D.slc a2, D.slc a3, D.slc a4, D.slc ((a2.drop 0).take ((IntKind.wrap .i64 (a6 + 1)).toNat - 0)), D.int .i64 (IntKind.wrap .i64 (a6 + 1))])
          else
            none
        else
          none
    else
      none
  else
    some (6, [D.slc a0, D.slc a1, D.slc a2, D.slc a3, D.slc a4, D.slc a5, D.int .i64 a6])
noncomputable def B33_16 : Step := fun ds => b33_16 ((ds.headD .undef).asRows) ((ds.tail.headD .undef).asRows) ((ds.tail.tail.headD .undef).asRows) (((ds.drop 3).headD .undef).asRows) ((((ds.drop 3).tail).headD .undef).asRows) (((((ds.drop 3).tail).tail).headD .undef).asRows) ((((ds.drop 3).drop 3).headD .undef).asInt)
noncomputable def f33 (a0 : List (List D)) (a1 : List (List D)) (a2 : List (List D)) : Option (List D) :=
  if (ltI 20 ((a0.length : Int))) = true then
    some [D.bool false]
  else
    if (ltI 26 ((a1.length : Int))) = true then
      some [D.bool false]
    else
      if (ltI 26 ((a2.length : Int))) = true then
        some [D.bool false]
      else
        getB (whileW B33_5 [D.slc a0, D.slc a1, D.slc a2, D.slc a0, D.slc ([]), D.slc ([]), D.int .i64 0]) fun x1 =>
        if (Nat.beq x1.1 2) = true then
          getB (whileW B33_10 [D.slc ((x1.2.headD .undef).asRows), D.slc ((x1.2.tail.headD .undef).asRows), D.slc ((x1.2.tail.tail.headD .undef).asRows), D.slc (((x1.2.drop 3).headD .undef).asRows), D.slc (((((x1.2.drop 3).tail).headD .undef)).asRows), D.slc ((((((x1.2.drop 3).tail).tail).headD .undef)).asRows), D.int .i64 0]) fun x2 =>
          if (Nat.beq x2.1 4) = true then
            getB (whileW B33_16 [D.slc ((x2.2.headD .undef).asRows), D.slc ((x2.2.tail.headD .undef).asRows), D.slc ((x2.2.tail.tail.headD .undef).asRows), D.slc (((x2.2.drop 3).headD .undef).asRows), D.slc ((((x2.2.drop 3).tail).headD .undef).asRows), D.slc ((((((x2.2.drop 3).tail).tail).headD .undef)).asRows), D.int .i64 0]) fun x3 =>
            if (Nat.beq x3.1 6) = true then
              some [D.bool true]
            else
              if (Nat.beq x3.1 1) = true then
                some x3.2
              else
                none
          else
            if (Nat.beq x2.1 1) = true then
              some x2.2
            else
              none
        else
          if (Nat.beq x1.1 1) = true then
            some x1.2
          else
            none
noncomputable def live33 : Nat → List (Nat × LHint) := fun n => match n with
  | 5 => [(1, .auto []), (3, .auto []), (4, .auto [.int .i64])]
  | 10 => [(1, .auto []), (3, .fixed (.var 58 false [(.slc 153, 0), (.slc 63, 0), (.slc 157, 1)])), (5, .auto [.int .i64])]
  | 16 => [(1, .auto []), (3, .fixed (.var 58 false [(.slc 153, 0), (.slc 63, 0), (.slc 157, 0)])), (6, .auto [.int .i64])]
  | _ => []
noncomputable def env33 : Env := ⟨tys, look [(101, fi101), (102, fi102), (103, fi103)], eqs⟩
noncomputable def fi33 : FI := { ps := [.val true [(.slc 153, 0), (.slc 63, 0), (.slc 157, 0)]], rs := [.val false [(.bool, 0)]], fresh := true, run := fun ds => f33 ((ds.headD .undef).asRows) ((ds.tail.headD .undef).asRows) ((ds.tail.tail.headD .undef).asRows) }
theorem run33 (ds : List D) : evalFW env33 live33 Try.f33 [.val true [(.slc 153, 0), (.slc 63, 0), (.slc 157, 0)]] [.val false [(.bool, 0)]] ds = fi33.run ds := by kernel_rfl
theorem ok33 : FnOk Try.prog tys 33 fi33 :=
  evalF_ok (live := live33) mixed tysOk (E := env33) rfl (envOk (⟨ok101, ⟨ok102, ⟨ok103, trivial⟩⟩⟩) eqsOk) Try.func33 (c := (Try.f33.body).getD .skip) (by kernel_rfl) (by rw [show Try.f33.name = "loop.example/g00106/spec.SourceOk" by kernel_rfl]; decide) (fun ds out h => evalFW_some ((run33 ds).trans h)) (by decide) (by decide) (fun _ => by kernel_rfl)
/-! ### 110: loop.example/g00106/spec.ZoneOf -/
noncomputable def b110_4 (a0 : Int) (a1 : List (List D)) (a2 : List (List D)) (a3 : List (List D)) (a4 : Int) (a5 : Int) (a6 : Int) (a7 : Int) : Option (Nat × List D) :=
  if (ltI a7 ((a3.length : Int))) = true then
    if (leI 0 a7 && ltI a7 ((a3.length : Int))) = true then
      if ((rI (a3.getD a7.toNat []) 0) == a0) = true then
        if (leI 0 a7 && ltI a7 ((a3.length : Int))) = true then
          some (2, [D.int .i64 (rI (a3.getD a7.toNat []) 1), D.slc a1, D.slc a2, D.slc a3, D.int .i64 a4, D.int .i64 a5, D.int .i64 a6, D.int .i64 a7])
        else
          none
      else
        some (0, [D.int .i64 a0, D.slc a1, D.slc a2, D.slc a3, D.int .i64 a4, D.int .i64 a5, D.int .i64 a6, D.int .i64 (IntKind.wrap .i64 (a7 + 1))])
    else
      none
  else
    some (2, [D.int .i64 a0, D.slc a1, D.slc a2, D.slc a3, D.int .i64 a4, D.int .i64 a5, D.int .i64 a6, D.int .i64 a7])
noncomputable def B110_4 : Step := fun ds => b110_4 ((ds.headD .undef).asInt) (((ds.drop 1).headD .undef).asRows) ((((ds.drop 1).tail).headD .undef).asRows) (((((ds.drop 1).tail).tail).headD .undef).asRows) ((((ds.drop 1).drop 3).headD .undef).asInt) (((((ds.drop 1).drop 3).tail).headD .undef).asInt) ((((((ds.drop 1).drop 3).tail).tail).headD .undef).asInt) (((((ds.drop 1).drop 3).drop 3).headD .undef).asInt)
noncomputable def b110_9 (a0 : Int) (a1 : List (List D)) (a2 : List (List D)) (a3 : List (List D)) (a4 : Int) (a5 : Int) (a6 : Int) (a7 : Int) : Option (Nat × List D) :=
  if (ltI a7 ((a2.length : Int))) = true then
    if (leI 0 a7 && ltI a7 ((a2.length : Int))) = true then
      if ((rI (a2.getD a7.toNat []) 0) == a0) = true then
        if (leI 0 a7 && ltI a7 ((a2.length : Int))) = true then
          some (1, [D.int .i64 (rI (a2.getD a7.toNat []) 0), D.int .i64 (rI (a2.getD a7.toNat []) 1), D.int .i64 (rI (a2.getD a7.toNat []) 2), D.bool true])
        else
          none
      else
        some (0, [D.int .i64 a0, D.slc a1, D.slc a2, D.slc a3, D.int .i64 a4, D.int .i64 a5, D.int .i64 a6, D.int .i64 (IntKind.wrap .i64 (a7 + 1))])
    else
      none
  else
    some (4, [D.int .i64 a0, D.slc a1, D.slc a2, D.slc a3, D.int .i64 a4, D.int .i64 a5, D.int .i64 a6, D.int .i64 a7])
noncomputable def B110_9 : Step := fun ds => b110_9 ((ds.headD .undef).asInt) (((ds.drop 1).headD .undef).asRows) ((((ds.drop 1).tail).headD .undef).asRows) (((((ds.drop 1).tail).tail).headD .undef).asRows) ((((ds.drop 1).drop 3).headD .undef).asInt) (((((ds.drop 1).drop 3).tail).headD .undef).asInt) ((((((ds.drop 1).drop 3).tail).tail).headD .undef).asInt) (((((ds.drop 1).drop 3).drop 3).headD .undef).asInt)
noncomputable def f110 (a0 : List (List D)) (a1 : List (List D)) (a2 : List (List D)) (a3 : Int) : Option (List D) :=
  callB (f33 a0 a1 a2) fun r1 =>
  if (!((r1.headD .undef).asBool)) = true then
    some [D.int .i64 0, D.int .i64 0, D.int .i64 0, D.bool false]
  else
    getB (whileW B110_4 [D.int .i64 a3, D.slc a0, D.slc a1, D.slc a2, D.int .i64 0, D.int .i64 0, D.int .i64 0, D.int .i64 0]) fun x2 =>
    if (Nat.beq x2.1 2) = true then
      getB (whileW B110_9 [D.int .i64 ((x2.2.headD .undef).asInt), D.slc (((x2.2.drop 1).headD .undef).asRows), D.slc ((((x2.2.drop 1).tail).headD .undef).asRows), D.slc (((((x2.2.drop 1).tail).tail).headD .undef).asRows), D.int .i64 ((((x2.2.drop 1).drop 3).headD .undef).asInt), D.int .i64 (((((x2.2.drop 1).drop 3).tail).headD .undef).asInt), D.int .i64 ((((((x2.2.drop 1).drop 3).tail).tail).headD .undef).asInt), D.int .i64 0]) fun x3 =>
      if (Nat.beq x3.1 4) = true then
        some [D.int .i64 0, D.int .i64 0, D.int .i64 0, D.bool false]
      else
        if (Nat.beq x3.1 1) = true then
          some x3.2
        else
          none
    else
      if (Nat.beq x2.1 1) = true then
        some x2.2
      else
        none
noncomputable def live110 : Nat → List (Nat × LHint) := fun n => match n with
  | 4 => [(1, .auto [.int .i64]), (2, .auto []), (4, .auto []), (6, .auto [.int .i64])]
  | 9 => [(1, .auto [.int .i64]), (2, .auto []), (4, .auto []), (7, .auto [.int .i64])]
  | _ => []
noncomputable def env110 : Env := ⟨tys, look [(33, fi33)], eqs⟩
noncomputable def fi110 : FI := { ps := [.val true [(.slc 153, 0), (.slc 63, 0), (.slc 157, 0)], .val false [(.int .i64, 0)]], rs := [.val true [(.int .i64, 0), (.int .i64, 0), (.int .i64, 0)], .val false [(.bool, 0)]], fresh := true, run := fun ds => f110 ((ds.headD .undef).asRows) ((ds.tail.headD .undef).asRows) ((ds.tail.tail.headD .undef).asRows) (((ds.drop 3).headD .undef).asInt) }
theorem run110 (ds : List D) : evalFW env110 live110 Try.f110 [.val true [(.slc 153, 0), (.slc 63, 0), (.slc 157, 0)], .val false [(.int .i64, 0)]] [.val true [(.int .i64, 0), (.int .i64, 0), (.int .i64, 0)], .val false [(.bool, 0)]] ds = fi110.run ds := by kernel_rfl
theorem ok110 : FnOk Try.prog tys 110 fi110 :=
  evalF_ok (live := live110) mixed tysOk (E := env110) rfl (envOk (⟨ok33, trivial⟩) eqsOk) Try.func110 (c := (Try.f110.body).getD .skip) (by kernel_rfl) (by rw [show Try.f110.name = "loop.example/g00106/spec.ZoneOf" by kernel_rfl]; decide) (fun ds out h => evalFW_some ((run110 ds).trans h)) (by decide) (by decide) (fun _ => by kernel_rfl)
/-! ### 297: loop.example/g00106/spec.l11Leap -/
noncomputable def f297 (a0 : Int) : Option (List D) :=
  if ((Int.tmod a0 4) == 0) = true then
    if ((Int.tmod a0 100) != 0) = true then
      some [D.bool true]
    else
      some [D.bool ((Int.tmod a0 400) == 0)]
  else
    some [D.bool false]
noncomputable def live297 : Nat → List (Nat × LHint) := fun n => match n with
  | _ => []
noncomputable def env297 : Env := ⟨tys, look [], eqs⟩
noncomputable def fi297 : FI := { ps := [.val false [(.int .i64, 0)]], rs := [.val false [(.bool, 0)]], fresh := true, run := fun ds => f297 ((ds.headD .undef).asInt) }
theorem run297 (ds : List D) : evalFW env297 live297 Try.f297 [.val false [(.int .i64, 0)]] [.val false [(.bool, 0)]] ds = fi297.run ds := by kernel_rfl
theorem ok297 : FnOk Try.prog tys 297 fi297 :=
  evalF_ok (live := live297) mixed tysOk (E := env297) rfl (envOk (trivial) eqsOk) Try.func297 (c := (Try.f297.body).getD .skip) (by kernel_rfl) (by rw [show Try.f297.name = "loop.example/g00106/spec.l11Leap" by kernel_rfl]; decide) (fun ds out h => evalFW_some ((run297 ds).trans h)) (by decide) (by decide) (fun _ => by kernel_rfl)
/-! ### 268: loop.example/g00106/spec.l11Long -/
noncomputable def f268 (a0 : Int) (a1 : Int) : Option (List D) :=
  if (a1 == 2) = true then
    callB (f297 a0) fun r1 =>
    if ((r1.headD .undef).asBool) = true then
      some [D.int .i64 29]
    else
      some [D.int .i64 28]
  else
    if (a1 == 4) = true then
      if (a1 == 4) = true then
        some [D.int .i64 30]
      else
        some [D.int .i64 31]
    else
      if (a1 == 6) = true then
        if (a1 == 6) = true then
          some [D.int .i64 30]
        else
          some [D.int .i64 31]
      else
        if (a1 == 9) = true then
          if (a1 == 9) = true then
            some [D.int .i64 30]
          else
            some [D.int .i64 31]
        else
          if (a1 == 11) = true then
            some [D.int .i64 30]
          else
            some [D.int .i64 31]
noncomputable def live268 : Nat → List (Nat × LHint) := fun n => match n with
  | _ => []
noncomputable def env268 : Env := ⟨tys, look [(297, fi297)], eqs⟩
noncomputable def fi268 : FI := { ps := [.val false [(.int .i64, 0)], .val false [(.int .i64, 0)]], rs := [.val false [(.int .i64, 0)]], fresh := true, run := fun ds => f268 ((ds.headD .undef).asInt) (((ds.drop 1).headD .undef).asInt) }
theorem run268 (ds : List D) : evalFW env268 live268 Try.f268 [.val false [(.int .i64, 0)], .val false [(.int .i64, 0)]] [.val false [(.int .i64, 0)]] ds = fi268.run ds := by kernel_rfl
theorem ok268 : FnOk Try.prog tys 268 fi268 :=
  evalF_ok (live := live268) mixed tysOk (E := env268) rfl (envOk (⟨ok297, trivial⟩) eqsOk) Try.func268 (c := (Try.f268.body).getD .skip) (by kernel_rfl) (by rw [show Try.f268.name = "loop.example/g00106/spec.l11Long" by kernel_rfl]; decide) (fun ds out h => evalFW_some ((run268 ds).trans h)) (by decide) (by decide) (fun _ => by kernel_rfl)
/-! ### 242: loop.example/g00106/spec.MonthLong -/
noncomputable def f242 (a0 : Int) (a1 : Int) : Option (List D) :=
  callB (f177 a0) fun r1 =>
  if (!((r1.headD .undef).asBool)) = true then
    some [D.int .i64 0]
  else
    callB (f83 a1 1 12) fun r2 =>
    if (!((r2.headD .undef).asBool)) = true then
      some [D.int .i64 0]
    else
      callB (f268 a0 a1) fun r3 =>
      some [D.int .i64 ((r3.headD .undef).asInt)]
noncomputable def live242 : Nat → List (Nat × LHint) := fun n => match n with
  | _ => []
noncomputable def env242 : Env := ⟨tys, look [(83, fi83), (177, fi177), (268, fi268)], eqs⟩
noncomputable def fi242 : FI := { ps := [.val false [(.int .i64, 0)], .val false [(.int .i64, 0)]], rs := [.val false [(.int .i64, 0)]], fresh := true, run := fun ds => f242 ((ds.headD .undef).asInt) (((ds.drop 1).headD .undef).asInt) }
theorem run242 (ds : List D) : evalFW env242 live242 Try.f242 [.val false [(.int .i64, 0)], .val false [(.int .i64, 0)]] [.val false [(.int .i64, 0)]] ds = fi242.run ds := by kernel_rfl
theorem ok242 : FnOk Try.prog tys 242 fi242 :=
  evalF_ok (live := live242) mixed tysOk (E := env242) rfl (envOk (⟨ok83, ⟨ok177, ⟨ok268, trivial⟩⟩⟩) eqsOk) Try.func242 (c := (Try.f242.body).getD .skip) (by kernel_rfl) (by rw [show Try.f242.name = "loop.example/g00106/spec.MonthLong" by kernel_rfl]; decide) (fun ds out h => evalFW_some ((run242 ds).trans h)) (by decide) (by decide) (fun _ => by kernel_rfl)
/-! ### 269: loop.example/g00106/spec.l11Begin -/
noncomputable def b269_3 (a0 : Int) (a1 : Int) (a2 : Int) : Option (Nat × List D) :=
  if (ltI a2 a0) = true then
    callB (f297 a2) fun r1 =>
    if ((r1.headD .undef).asBool) = true then
      some (0, [D.int .i64 a0, D.int .i64 (IntKind.wrap .i64 ((IntKind.wrap .i64 (a1 + 365)) + 1)), D.int .i64 (IntKind.wrap .i64 (a2 + 1))])
    else
      some (0, [D.int .i64 a0, D.int .i64 (IntKind.wrap .i64 (a1 + 365)), D.int .i64 (IntKind.wrap .i64 (a2 + 1))])
  else
    some (2, [D.int .i64 a0, D.int .i64 a1, D.int .i64 a2])
noncomputable def B269_3 : Step := fun ds => b269_3 ((ds.headD .undef).asInt) (((ds.drop 1).headD .undef).asInt) ((((ds.drop 1).drop 1).headD .undef).asInt)
noncomputable def b269_9 (a0 : Int) (a1 : Int) (a2 : Int) : Option (Nat × List D) :=
  if (leI a0 a2) = true then
    callB (f297 a2) fun r1 =>
    if ((r1.headD .undef).asBool) = true then
      some (0, [D.int .i64 a0, D.int .i64 (IntKind.wrap .i64 ((IntKind.wrap .i64 (a1 - 365)) - 1)), D.int .i64 (IntKind.wrap .i64 (a2 - 1))])
    else
      some (0, [D.int .i64 a0, D.int .i64 (IntKind.wrap .i64 (a1 - 365)), D.int .i64 (IntKind.wrap .i64 (a2 - 1))])
  else
    some (4, [D.int .i64 a0, D.int .i64 a1, D.int .i64 a2])
noncomputable def B269_9 : Step := fun ds => b269_9 ((ds.headD .undef).asInt) (((ds.drop 1).headD .undef).asInt) ((((ds.drop 1).drop 1).headD .undef).asInt)
noncomputable def f269 (a0 : Int) : Option (List D) :=
  getB (whileW B269_3 [D.int .i64 a0, D.int .i64 0, D.int .i64 1970]) fun x1 =>
  if (Nat.beq x1.1 2) = true then
    getB (whileW B269_9 [D.int .i64 ((x1.2.headD .undef).asInt), D.int .i64 (((x1.2.drop 1).headD .undef).asInt), D.int .i64 1969]) fun x2 =>
    if (Nat.beq x2.1 4) = true then
      some [D.int .i64 (((x2.2.drop 1).headD .undef).asInt)]
    else
      if (Nat.beq x2.1 1) = true then
        some x2.2
      else
        none
  else
    if (Nat.beq x1.1 1) = true then
      some x1.2
    else
      none
noncomputable def live269 : Nat → List (Nat × LHint) := fun n => match n with
  | 3 => [(0, .auto [.int .i64]), (3, .auto [.int .i64]), (4, .auto [.int .i64])]
  | 9 => [(0, .auto [.int .i64]), (3, .auto [.int .i64]), (5, .auto [.int .i64])]
  | _ => []
noncomputable def env269 : Env := ⟨tys, look [(297, fi297)], eqs⟩
noncomputable def fi269 : FI := { ps := [.val false [(.int .i64, 0)]], rs := [.val false [(.int .i64, 0)]], fresh := true, run := fun ds => f269 ((ds.headD .undef).asInt) }
theorem run269 (ds : List D) : evalFW env269 live269 Try.f269 [.val false [(.int .i64, 0)]] [.val false [(.int .i64, 0)]] ds = fi269.run ds := by kernel_rfl
theorem ok269 : FnOk Try.prog tys 269 fi269 :=
  evalF_ok (live := live269) mixed tysOk (E := env269) rfl (envOk (⟨ok297, trivial⟩) eqsOk) Try.func269 (c := (Try.f269.body).getD .skip) (by kernel_rfl) (by rw [show Try.f269.name = "loop.example/g00106/spec.l11Begin" by kernel_rfl]; decide) (fun ds out h => evalFW_some ((run269 ds).trans h)) (by decide) (by decide) (fun _ => by kernel_rfl)
/-! ### 243: loop.example/g00106/spec.DayOf -/
noncomputable def b243_5 (a0 : Int) (a1 : Int) (a2 : Int) (a3 : Int) (a4 : Int) : Option (Nat × List D) :=
  if (ltI a4 a1) = true then
    callB (f268 a0 a4) fun r1 =>
    some (0, [D.int .i64 a0, D.int .i64 a1, D.int .i64 a2, D.int .i64 (IntKind.wrap .i64 (a3 + ((r1.headD .undef).asInt))), D.int .i64 (IntKind.wrap .i64 (a4 + 1))])
  else
    some (2, [D.int .i64 a0, D.int .i64 a1, D.int .i64 a2, D.int .i64 a3, D.int .i64 a4])
noncomputable def B243_5 : Step := fun ds => b243_5 ((ds.headD .undef).asInt) (((ds.drop 1).headD .undef).asInt) ((((ds.drop 1).drop 1).headD .undef).asInt) (((((ds.drop 1).drop 1).drop 1).headD .undef).asInt) ((((((ds.drop 1).drop 1).drop 1).drop 1).headD .undef).asInt)
noncomputable def f243 (a0 : Int) (a1 : Int) (a2 : Int) : Option (List D) :=
  callB (f242 a0 a1) fun r1 =>
  callB (f83 a2 1 ((r1.headD .undef).asInt)) fun r2 =>
  if (!((r2.headD .undef).asBool)) = true then
    some [D.int .i64 0, D.bool false]
  else
    callB (f269 a0) fun r3 =>
    getB (whileW B243_5 [D.int .i64 a0, D.int .i64 a1, D.int .i64 a2, D.int .i64 ((r3.headD .undef).asInt), D.int .i64 1]) fun x4 =>
    if (Nat.beq x4.1 2) = true then
      let v5 : Int := IntKind.wrap .i64 ((((((x4.2.drop 1).drop 1).drop 1).headD .undef).asInt) + ((((x4.2.drop 1).drop 1).headD .undef).asInt))
      some [D.int .i64 (IntKind.wrap .i64 (v5 - 1)), D.bool true]
    else
      if (Nat.beq x4.1 1) = true then
        some x4.2
      else
        none
noncomputable def live243 : Nat → List (Nat × LHint) := fun n => match n with
  | 5 => [(0, .auto [.int .i64]), (1, .auto [.int .i64]), (2, .auto [.int .i64]), (8, .auto [.int .i64]), (9, .auto [.int .i64])]
  | _ => []
noncomputable def env243 : Env := ⟨tys, look [(83, fi83), (242, fi242), (268, fi268), (269, fi269)], eqs⟩
noncomputable def fi243 : FI := { ps := [.val false [(.int .i64, 0)], .val false [(.int .i64, 0)], .val false [(.int .i64, 0)]], rs := [.val false [(.int .i64, 0)], .val false [(.bool, 0)]], fresh := true, run := fun ds => f243 ((ds.headD .undef).asInt) (((ds.drop 1).headD .undef).asInt) ((((ds.drop 1).drop 1).headD .undef).asInt) }
theorem run243 (ds : List D) : evalFW env243 live243 Try.f243 [.val false [(.int .i64, 0)], .val false [(.int .i64, 0)], .val false [(.int .i64, 0)]] [.val false [(.int .i64, 0)], .val false [(.bool, 0)]] ds = fi243.run ds := by kernel_rfl
theorem ok243 : FnOk Try.prog tys 243 fi243 :=
  evalF_ok (live := live243) mixed tysOk (E := env243) rfl (envOk (⟨ok83, ⟨ok242, ⟨ok268, ⟨ok269, trivial⟩⟩⟩⟩) eqsOk) Try.func243 (c := (Try.f243.body).getD .skip) (by kernel_rfl) (by rw [show Try.f243.name = "loop.example/g00106/spec.DayOf" by kernel_rfl]; decide) (fun ds out h => evalFW_some ((run243 ds).trans h)) (by decide) (by decide) (fun _ => by kernel_rfl)
/-! ### 244: loop.example/g00106/spec.WeekOf -/
noncomputable def f244 (a0 : Int) : Option (List D) :=
  let v1 : Int := IntKind.wrap .i64 ((Int.tmod (IntKind.wrap .i64 ((Int.tmod a0 7) + 7)) 7) + 4)
  some [D.int .i64 (Int.tmod v1 7)]
noncomputable def live244 : Nat → List (Nat × LHint) := fun n => match n with
  | _ => []
noncomputable def env244 : Env := ⟨tys, look [], eqs⟩
noncomputable def fi244 : FI := { ps := [.val false [(.int .i64, 0)]], rs := [.val false [(.int .i64, 0)]], fresh := true, run := fun ds => f244 ((ds.headD .undef).asInt) }
theorem run244 (ds : List D) : evalFW env244 live244 Try.f244 [.val false [(.int .i64, 0)]] [.val false [(.int .i64, 0)]] ds = fi244.run ds := by kernel_rfl
theorem ok244 : FnOk Try.prog tys 244 fi244 :=
  evalF_ok (live := live244) mixed tysOk (E := env244) rfl (envOk (trivial) eqsOk) Try.func244 (c := (Try.f244.body).getD .skip) (by kernel_rfl) (by rw [show Try.f244.name = "loop.example/g00106/spec.WeekOf" by kernel_rfl]; decide) (fun ds out h => evalFW_some ((run244 ds).trans h)) (by decide) (by decide) (fun _ => by kernel_rfl)
/-! ### 193: loop.example/g00106/spec.OnDay -/
noncomputable def b193_5 (a0 : Int) (a1 : Int) (a2 : Int) (a3 : Int) : Option (Nat × List D) :=
  callB (f244 a3) fun r1 =>
  if (((r1.headD .undef).asInt) != a2) = true then
    some (0, [D.int .i64 a0, D.int .i64 a1, D.int .i64 a2, D.int .i64 (IntKind.wrap .i64 (a3 - 1))])
  else
    some (2, [D.int .i64 a0, D.int .i64 a1, D.int .i64 a2, D.int .i64 a3])
noncomputable def B193_5 : Step := fun ds => b193_5 ((ds.headD .undef).asInt) ((ds.tail.headD .undef).asInt) ((ds.tail.tail.headD .undef).asInt) (((ds.drop 3).headD .undef).asInt)
noncomputable def b193_12 (a0 : Int) (a1 : Int) (a2 : Int) (a3 : Int) (a4 : Int) : Option (Nat × List D) :=
  callB (f244 a3) fun r1 =>
  if (((r1.headD .undef).asInt) != a2) = true then
    some (0, [D.int .i64 a0, D.int .i64 a1, D.int .i64 a2, D.int .i64 (IntKind.wrap .i64 (a3 + 1)), D.int .i64 a4])
  else
    some (4, [D.int .i64 a0, D.int .i64 a1, D.int .i64 a2, D.int .i64 a3, D.int .i64 a4])
noncomputable def B193_12 : Step := fun ds => b193_12 ((ds.headD .undef).asInt) ((ds.tail.headD .undef).asInt) ((ds.tail.tail.headD .undef).asInt) (((ds.drop 3).headD .undef).asInt) ((((ds.drop 3).drop 1).headD .undef).asInt)
noncomputable def f193 (a0 : Int) (a1 : Int) (a2 : Int) (a3 : Int) (a4 : Int) : Option (List D) :=
  callB (f178 a2 a3 a4) fun r1 =>
  if (!((r1.headD .undef).asBool)) = true then
    some [D.int .i64 0, D.bool false]
  else
    callB (f242 a0 a1) fun r2 =>
    if (((r2.headD .undef).asInt) == 0) = true then
      some [D.int .i64 0, D.bool false]
    else
      if (a2 == 2) = true then
        callB (f242 a0 a1) fun r3 =>
        callB (f243 a0 a1 ((r3.headD .undef).asInt)) fun r4 =>
        getB (whileW B193_5 [D.int .i64 a2, D.int .i64 a3, D.int .i64 a4, D.int .i64 ((r4.headD .undef).asInt)]) fun x5 =>
        if (Nat.beq x5.1 2) = true then
          some [D.int .i64 (((x5.2.drop 3).headD .undef).asInt), D.bool true]
        else
          if (Nat.beq x5.1 1) = true then
            some x5.2
          else
            none
      else
        callB (f243 a0 a1 a3) fun r6 =>
        if (!((r6.tail.headD .undef).asBool)) = true then
          some [D.int .i64 ((r6.headD .undef).asInt), D.bool ((r6.tail.headD .undef).asBool)]
        else
          if (a2 == 1) = true then
            some [D.int .i64 ((r6.headD .undef).asInt), D.bool ((r6.tail.headD .undef).asBool)]
          else
            callB (f242 a0 a1) fun r7 =>
            callB (f243 a0 a1 ((r7.headD .undef).asInt)) fun r8 =>
            getB (whileW B193_12 [D.int .i64 a2, D.int .i64 a3, D.int .i64 a4, D.int .i64 ((r6.headD .undef).asInt), D.int .i64 ((r8.headD .undef).asInt)]) fun x9 =>
            if (Nat.beq x9.1 4) = true then
              let v10 : Bool := ltI ((((x9.2.drop 3).drop 1).headD .undef).asInt) (((x9.2.drop 3).headD .undef).asInt)
              if v10 = true then
                some [D.int .i64 0, D.bool false]
              else
                some [D.int .i64 (((x9.2.drop 3).headD .undef).asInt), D.bool true]
            else
              if (Nat.beq x9.1 1) = true then
                some x9.2
              else
                none
noncomputable def live193 : Nat → List (Nat × LHint) := fun n => match n with
  | 5 => [(5, .auto []), (8, .auto [.int .i64])]
  | 12 => [(5, .auto []), (10, .auto [.int .i64]), (12, .auto [.int .i64])]
  | _ => []
noncomputable def env193 : Env := ⟨tys, look [(178, fi178), (242, fi242), (243, fi243), (244, fi244)], eqs⟩
noncomputable def fi193 : FI := { ps := [.val false [(.int .i64, 0)], .val false [(.int .i64, 0)], .val true [(.int .i64, 0), (.int .i64, 0), (.int .i64, 0)]], rs := [.val false [(.int .i64, 0)], .val false [(.bool, 0)]], fresh := true, run := fun ds => f193 ((ds.headD .undef).asInt) (((ds.drop 1).headD .undef).asInt) ((((ds.drop 1).drop 1).headD .undef).asInt) (((((ds.drop 1).drop 1).tail).headD .undef).asInt) ((((((ds.drop 1).drop 1).tail).tail).headD .undef).asInt) }
theorem run193 (ds : List D) : evalFW env193 live193 Try.f193 [.val false [(.int .i64, 0)], .val false [(.int .i64, 0)], .val true [(.int .i64, 0), (.int .i64, 0), (.int .i64, 0)]] [.val false [(.int .i64, 0)], .val false [(.bool, 0)]] ds = fi193.run ds := by kernel_rfl
theorem ok193 : FnOk Try.prog tys 193 fi193 :=
  evalF_ok (live := live193) mixed tysOk (E := env193) rfl (envOk (⟨ok178, ⟨ok242, ⟨ok243, ⟨ok244, trivial⟩⟩⟩⟩) eqsOk) Try.func193 (c := (Try.f193.body).getD .skip) (by kernel_rfl) (by rw [show Try.f193.name = "loop.example/g00106/spec.OnDay" by kernel_rfl]; decide) (fun ds out h => evalFW_some ((run193 ds).trans h)) (by decide) (by decide) (fun _ => by kernel_rfl)
/-! ### 111: loop.example/g00106/spec.l13Walls -/
noncomputable def b111_13 (a0 : Int) (a1 : List (List D)) (a2 : List (List D)) (a3 : List (List D)) (a4 : List (List D)) (a5 : Int) (a6 : Int) (a7 : Int) (a8 : Int) (a9 : Int) : Option (Nat × List D) :=
  if (ltI 0 a9) = true then
    if (leI 0 (IntKind.wrap .i64 (a9 - 1)) && ltI (IntKind.wrap .i64 (a9 - 1)) ((a4.length : Int))) = true then
      let v1 : Bool := ltI a7 (rI (a4.getD ((IntKind.wrap .i64 (a9 - 1)).toNat) []) 0)
      if v1 = true then
        some (0, [D.int .i64 a0, D.slc a1, D.slc a2, D.slc a3, D.slc a4, D.int .i64 a5, D.int .i64 a6, D.int .i64 a7, D.int .i64 a8, D.int .i64 (IntKind.wrap .i64 (a9 - 1))])
      else
        some (6, [D.int .i64 a0, D.slc a1, D.slc a2, D.slc a3, D.slc a4, D.int .i64 a5, D.int .i64 a6, D.int .i64 a7, D.int .i64 a8, D.int .i64 a9])
    else
      none
  else
    some (6, [D.int .i64 a0, D.slc a1, D.slc a2, D.slc a3, D.slc a4, D.int .i64 a5, D.int .i64 a6, D.int .i64 a7, D.int .i64 a8, D.int .i64 a9])
noncomputable def B111_13 : Step := fun ds => b111_13 ((ds.headD .undef).asInt) (((ds.drop 1).headD .undef).asRows) ((((ds.drop 1).tail).headD .undef).asRows) (((((ds.drop 1).tail).tail).headD .undef).asRows) ((((ds.drop 1).drop 3).headD .undef).asRows) (((((ds.drop 1).drop 3).drop 1).headD .undef).asInt) ((((((ds.drop 1).drop 3).drop 1).drop 1).headD .undef).asInt) (((((((ds.drop 1).drop 3).drop 1).drop 1).drop 1).headD .undef).asInt) ((((((((ds.drop 1).drop 3).drop 1).drop 1).drop 1).tail).headD .undef).asInt) ((((((((ds.drop 1).drop 3).drop 1).drop 1).drop 1).drop 2).headD .undef).asInt)
noncomputable def b111_6 (a0 : Int) (a1 : List (List D)) (a2 : List (List D)) (a3 : List (List D)) (a4 : List (List D)) (a5 : Int) (a6 : Int) : Option (Nat × List D) :=
  if (ltI a6 ((a1.length : Int))) = true then
    if (leI 0 a6 && ltI a6 ((a1.length : Int))) = true then
      callB (f193 a5 (rI (a1.getD a6.toNat []) 3) (rI (a1.getD a6.toNat []) 4) (rI (a1.getD a6.toNat []) 5) (rI (a1.getD a6.toNat []) 6)) fun r1 =>
      if ((rI (a1.getD a6.toNat []) 0) != a0) = true then
        some (0, [D.int .i64 a0, D.slc a1, D.slc a2, D.slc a3, D.slc a4, D.int .i64 a5, D.int .i64 (IntKind.wrap .i64 (a6 + 1))])
      else
        if (ltI a5 (rI (a1.getD a6.toNat []) 1)) = true then
          some (0, [D.int .i64 a0, D.slc a1, D.slc a2, D.slc a3, D.slc a4, D.int .i64 a5, D.int .i64 (IntKind.wrap .i64 (a6 + 1))])
        else
          if (ltI (rI (a1.getD a6.toNat []) 2) a5) = true then
            some (0, [D.int .i64 a0, D.slc a1, D.slc a2, D.slc a3, D.slc a4, D.int .i64 a5, D.int .i64 (IntKind.wrap .i64 (a6 + 1))])
          else
            if (!((r1.tail.headD .undef).asBool)) = true then
              some (0, [D.int .i64 a0, D.slc a1, D.slc a2, D.slc a3, D.slc a4, D.int .i64 a5, D.int .i64 (IntKind.wrap .i64 (a6 + 1))])
            else
              let v2 : Int := IntKind.wrap .i64 ((IntKind.wrap .i64 (1440 * ((r1.headD .undef).asInt))) + (rI (a1.getD a6.toNat []) 7))
              getB (whileW B111_13 [D.int .i64 a0, D.slc a1, D.slc a2, D.slc a3, D.slc a4, D.int .i64 a5, D.int .i64 a6, D.int .i64 v2, D.int .i64 (rI (a1.getD a6.toNat []) 8), D.int .i64 ((a4.length : Int))]) fun x3 =>
              if (Nat.beq x3.1 6) = true then
                let v4 : Int := (((((((x3.2.drop 1).drop 3).drop 1).drop 1).drop 1).drop 2).headD .undef).asInt
                if (leI 0 v4 && leI v4 (((((((x3.2.drop 1).drop 3).headD .undef)).asRows).length : Int))) = true then
                  if (leI 0 0 && leI 0 v4) = true then
                    if (lenB (0 + (((((((x3.2.drop 1).drop 3).headD .undef)).asRows).drop 0).take (v4.toNat - 0)).length) 16) = true then
                      let v5 : List (List D) := ([]) ++ (((((((x3.2.drop 1).drop 3).headD .undef)).asRows).drop 0).take (v4.toNat - 0))
                      let v6 : Int := ((((((x3.2.drop 1).drop 3).drop 1).drop 1).drop 1).headD .undef).asInt
                      let v7 : Int := (((((((x3.2.drop 1).drop 3).drop 1).drop 1).drop 1).tail).headD .undef).asInt
                      if (lenB (v5.length + 1) 16) = true then
                        let v8 : Int := (((((((x3.2.drop 1).drop 3).drop 1).drop 1).drop 1).drop 2).headD .undef).asInt
                        if (leI 0 (((((((x3.2.drop 1).drop 3).headD .undef)).asRows).length : Int)) && leI (((((((x3.2.drop 1).drop 3).headD .undef)).asRows).length : Int)) (((((((x3.2.drop 1).drop 3).headD .undef)).asRows).length : Int))) = true then
                          if (leI 0 v8 && leI v8 (((((((x3.2.drop 1).drop 3).headD .undef)).asRows).length : Int))) = true then
                            if (lenB ((v5 ++ ([[D.int .i64 v6, D.int .i64 v7]])).length + (((((((x3.2.drop 1).drop 3).headD .undef)).asRows).drop v8.toNat).take ((((((((x3.2.drop 1).drop 3).headD .undef)).asRows).length : Int)).toNat - v8.toNat)).length) 16) = true then
                              let v9 : List (List D) := (v5 ++ ([[D.int .i64 v6, D.int .i64 v7]])) ++ (((((((x3.2.drop 1).drop 3).headD .undef)).asRows).drop v8.toNat).take ((((((((x3.2.drop 1).drop 3).headD .undef)).asRows).length : Int)).toNat - v8.toNat))
                              let v10 : Int := (((((x3.2.drop 1).drop 3).drop 1).drop 1).headD .undef).asInt
                              some (0, [D.int .i64 ((x3.2.headD .undef).asInt), D.slc (((x3.2.drop 1).headD .undef).asRows), D.slc ((((x3.2.drop 1).tail).headD .undef).asRows), D.slc (((((x3.2.drop 1).tail).tail).headD .undef).asRows), D.slc v9, D.int .i64 (((((x3.2.drop 1).drop 3).drop 1).headD .undef).asInt), D.int .i64 (IntKind.wrap .i64 (v10 + 1))])
                            else
                              none
                          else
                            none
                        else
                          none
                      else
                        none
                    else
                      none
                  else
                    none
                else
                  none
              else
                if (Nat.beq x3.1 1) = true then
                  some (1, x3.2)
                else
                  none
    else
      none
  else
    some (4, [D.int .i64 a0, D.slc a1, D.slc a2, D.slc a3, D.slc a4, D.int .i64 a5, D.int .i64 a6])
noncomputable def B111_6 : Step := fun ds => b111_6 ((ds.headD .undef).asInt) (((ds.drop 1).headD .undef).asRows) ((((ds.drop 1).tail).headD .undef).asRows) (((((ds.drop 1).tail).tail).headD .undef).asRows) ((((ds.drop 1).drop 3).headD .undef).asRows) (((((ds.drop 1).drop 3).drop 1).headD .undef).asInt) ((((((ds.drop 1).drop 3).drop 1).drop 1).headD .undef).asInt)
noncomputable def b111_3 (a0 : Int) (a1 : List (List D)) (a2 : List (List D)) (a3 : List (List D)) (a4 : List (List D)) (a5 : Int) : Option (Nat × List D) :=
  if (leI a5 2037) = true then
    getB (whileW B111_6 [D.int .i64 a0, D.slc a1, D.slc a2, D.slc a3, D.slc a4, D.int .i64 a5, D.int .i64 0]) fun x1 =>
    if (Nat.beq x1.1 4) = true then
      let v2 : Int := IntKind.wrap .i64 ((((((x1.2.drop 1).drop 3).drop 1).headD .undef).asInt) + 1)
      some (0, [D.int .i64 ((x1.2.headD .undef).asInt), D.slc (((x1.2.drop 1).headD .undef).asRows), D.slc ((((x1.2.drop 1).tail).headD .undef).asRows), D.slc (((((x1.2.drop 1).tail).tail).headD .undef).asRows), D.slc (((((x1.2.drop 1).drop 3).headD .undef)).asRows), D.int .i64 v2])
    else
      if (Nat.beq x1.1 1) = true then
        some (1, x1.2)
      else
        none
  else
    some (2, [D.int .i64 a0, D.slc a1, D.slc a2, D.slc a3, D.slc a4, D.int .i64 a5])
noncomputable def B111_3 : Step := fun ds => b111_3 ((ds.headD .undef).asInt) (((ds.drop 1).headD .undef).asRows) ((((ds.drop 1).tail).headD .undef).asRows) (((((ds.drop 1).tail).tail).headD .undef).asRows) ((((ds.drop 1).drop 3).headD .undef).asRows) (((((ds.drop 1).drop 3).drop 1).headD .undef).asInt)
noncomputable def f111 (a0 : List (List D)) (a1 : List (List D)) (a2 : List (List D)) (a3 : Int) : Option (List D) :=
  getB (whileW B111_3 [D.int .i64 a3, D.slc a0, D.slc a1, D.slc a2, D.slc ([]), D.int .i64 1970]) fun x1 =>
  if (Nat.beq x1.1 2) = true then
    some [D.slc (((((x1.2.drop 1).drop 3).headD .undef)).asRows)]
  else
    if (Nat.beq x1.1 1) = true then
      some x1.2
    else
      none
noncomputable def live111 : Nat → List (Nat × LHint) := fun n => match n with
  | 3 => [(1, .auto [.int .i64]), (2, .auto []), (5, .auto [.slc 71]), (6, .auto [.int .i64])]
  | 6 => [(1, .auto [.int .i64]), (2, .auto []), (5, .auto [.slc 71]), (6, .auto [.int .i64]), (7, .auto [.int .i64])]
  | 13 => [(1, .auto [.int .i64]), (2, .auto []), (5, .auto [.slc 71]), (6, .auto [.int .i64]), (7, .auto [.int .i64]), (11, .auto []), (12, .auto [.int .i64])]
  | _ => []
noncomputable def env111 : Env := ⟨tys, look [(193, fi193)], eqs⟩
noncomputable def fi111 : FI := { ps := [.val true [(.slc 153, 0), (.slc 63, 0), (.slc 157, 0)], .val false [(.int .i64, 0)]], rs := [.val false [(.slc 71, 1)]], fresh := true, run := fun ds => f111 ((ds.headD .undef).asRows) ((ds.tail.headD .undef).asRows) ((ds.tail.tail.headD .undef).asRows) (((ds.drop 3).headD .undef).asInt) }
theorem run111 (ds : List D) : evalFW env111 live111 Try.f111 [.val true [(.slc 153, 0), (.slc 63, 0), (.slc 157, 0)], .val false [(.int .i64, 0)]] [.val false [(.slc 71, 1)]] ds = fi111.run ds := by kernel_rfl
theorem ok111 : FnOk Try.prog tys 111 fi111 :=
  evalF_ok (live := live111) mixed tysOk (E := env111) rfl (envOk (⟨ok193, trivial⟩) eqsOk) Try.func111 (c := (Try.f111.body).getD .skip) (by kernel_rfl) (by rw [show Try.f111.name = "loop.example/g00106/spec.l13Walls" by kernel_rfl]; decide) (fun ds out h => evalFW_some ((run111 ds).trans h)) (by decide) (by decide) (fun _ => by kernel_rfl)
/-! ### 37: loop.example/g00106/spec.ZoneTable -/
noncomputable def b37_10 (a0 : Int) (a1 : List (List D)) (a2 : Int) (a3 : Int) (a4 : Int) (a5 : Int) (a6 : List (List D)) (a7 : List (List D)) (a8 : Int) (a9 : Int) (a10 : Int) : Option (Nat × List D) :=
  if (ltI a10 ((a7.length : Int))) = true then
    if (leI 0 a10 && ltI a10 ((a7.length : Int))) = true then
      let v1 : Int := IntKind.wrap .i64 ((IntKind.wrap .i64 ((rI (a7.getD a10.toNat []) 0) - a3)) - a8)
      if (ltI 0 a10) = true then
        if (leI v1 a9) = true then
          some (1, [D.int .i64 0, D.slc ([]), D.bool false])
        else
          if (leI 0 a10 && ltI a10 ((a7.length : Int))) = true then
            if ((rI (a7.getD a10.toNat []) 1) != a8) = true then
              if (leI 0 a10 && ltI a10 ((a7.length : Int))) = true then
                if (lenB (a6.length + 1) 16) = true then
                  let v2 : List (List D) := a6 ++ ([[D.int .i64 v1, D.int .i64 (IntKind.wrap .i64 (a3 + (rI (a7.getD a10.toNat []) 1)))]])
                  if (leI 0 a10 && ltI a10 ((a7.length : Int))) = true then
                    some (0, [D.int .i64 a0, D.slc a1, D.int .i64 a2, D.int .i64 a3, D.int .i64 a4, D.int .i64 a5, D.slc v2, D.slc a7, D.int .i64 (rI (a7.getD a10.toNat []) 1), D.int .i64 v1, D.int .i64 (IntKind.wrap .i64 (a10 + 1))])
                  else
                    none
                else
                  none
              else
                none
            else
              if (leI 0 a10 && ltI a10 ((a7.length : Int))) = true then
                some (0, [D.int .i64 a0, D.slc a1, D.int .i64 a2, D.int .i64 a3, D.int .i64 a4, D.int .i64 a5, D.slc a6, D.slc a7, D.int .i64 (rI (a7.getD a10.toNat []) 1), D.int .i64 v1, D.int .i64 (IntKind.wrap .i64 (a10 + 1))])
              else
                none
          else
            none
      else
        if (leI 0 a10 && ltI a10 ((a7.length : Int))) = true then
          if ((rI (a7.getD a10.toNat []) 1) != a8) = true then
            if (leI 0 a10 && ltI a10 ((a7.length : Int))) = true then
              if (lenB (a6.length + 1) 16) = true then
                let v3 : List (List D) := a6 ++ ([[D.int .i64 v1, D.int .i64 (IntKind.wrap .i64 (a3 + (rI (a7.getD a10.toNat []) 1)))]])
                if (leI 0 a10 && ltI a10 ((a7.length : Int))) = true then
                  some (0, [D.int .i64 a0, D.slc a1, D.int .i64 a2, D.int .i64 a3, D.int .i64 a4, D.int .i64 a5, D.slc v3, D.slc a7, D.int .i64 (rI (a7.getD a10.toNat []) 1), D.int .i64 v1, D.int .i64 (IntKind.wrap .i64 (a10 + 1))])
                else
                  none
              else
                none
            else
              none
          else
            if (leI 0 a10 && ltI a10 ((a7.length : Int))) = true then
              some (0, [D.int .i64 a0, D.slc a1, D.int .i64 a2, D.int .i64 a3, D.int .i64 a4, D.int .i64 a5, D.slc a6, D.slc a7, D.int .i64 (rI (a7.getD a10.toNat []) 1), D.int .i64 v1, D.int .i64 (IntKind.wrap .i64 (a10 + 1))])
            else
              none
        else
          none
    else
      none
  else
    some (2, [D.int .i64 a0, D.slc a1, D.int .i64 a2, D.int .i64 a3, D.int .i64 a4, D.int .i64 a5, D.slc a6, D.slc a7, D.int .i64 a8, D.int .i64 a9, D.int .i64 a10])
noncomputable def B37_10 : Step := fun ds => b37_10 ((ds.headD .undef).asInt) ((ds.tail.headD .undef).asRows) (((ds.drop 2).headD .undef).asInt) ((((ds.drop 2).tail).headD .undef).asInt) (((((ds.drop 2).tail).tail).headD .undef).asInt) ((((ds.drop 2).drop 3).headD .undef).asInt) (((((ds.drop 2).drop 3).tail).headD .undef).asRows) (((((ds.drop 2).drop 3).drop 2).headD .undef).asRows) ((((((ds.drop 2).drop 3).drop 2).drop 1).headD .undef).asInt) (((((((ds.drop 2).drop 3).drop 2).drop 1).drop 1).headD .undef).asInt) ((((((((ds.drop 2).drop 3).drop 2).drop 1).drop 1).drop 1).headD .undef).asInt)
noncomputable def f37 (a0 : List (List D)) (a1 : List (List D)) (a2 : List (List D)) (a3 : Int) : Option (List D) :=
  callB (f110 a0 a1 a2 a3) fun r1 =>
  if (!((r1.tail.tail.tail.headD .undef).asBool)) = true then
    some [D.int .i64 0, D.slc ([]), D.bool false]
  else
    if (((r1.tail.tail.headD .undef).asInt) == 0) = true then
      some [D.int .i64 ((r1.tail.headD .undef).asInt), D.slc ([]), D.bool true]
    else
      callB (f111 a0 a1 a2 ((r1.tail.tail.headD .undef).asInt)) fun r2 =>
      getB (whileW B37_10 [D.int .i64 0, D.slc ([]), D.int .i64 ((r1.headD .undef).asInt), D.int .i64 ((r1.tail.headD .undef).asInt), D.int .i64 ((r1.tail.tail.headD .undef).asInt), D.int .i64 ((r1.tail.headD .undef).asInt), D.slc ([]), D.slc (((r2.headD .undef)).asRows), D.int .i64 0, D.int .i64 0, D.int .i64 0]) fun x3 =>
      if (Nat.beq x3.1 2) = true then
        callB (f27 ((((x3.2.drop 2).drop 3).headD .undef).asInt) ((((((x3.2.drop 2).drop 3).tail).headD .undef)).asRows)) fun r4 =>
        if (!((r4.headD .undef).asBool)) = true then
          some [D.int .i64 0, D.slc ([]), D.bool false]
        else
          some [D.int .i64 ((((x3.2.drop 2).drop 3).headD .undef).asInt), D.slc ((((((x3.2.drop 2).drop 3).tail).headD .undef)).asRows), D.bool true]
      else
        if (Nat.beq x3.1 1) = true then
          some x3.2
        else
          none
noncomputable def live37 : Nat → List (Nat × LHint) := fun n => match n with
  | 10 => [(4, .auto []), (6, .auto []), (8, .auto []), (9, .auto [.slc 71]), (10, .auto [.int .i64]), (11, .auto [.int .i64]), (12, .auto [.int .i64])]
  | _ => []
noncomputable def env37 : Env := ⟨tys, look [(27, fi27), (110, fi110), (111, fi111)], eqs⟩
noncomputable def fi37 : FI := { ps := [.val true [(.slc 153, 0), (.slc 63, 0), (.slc 157, 0)], .val false [(.int .i64, 0)]], rs := [.val true [(.int .i64, 0), (.slc 71, 1)], .val false [(.bool, 0)]], fresh := true, run := fun ds => f37 ((ds.headD .undef).asRows) ((ds.tail.headD .undef).asRows) ((ds.tail.tail.headD .undef).asRows) (((ds.drop 3).headD .undef).asInt) }
theorem run37 (ds : List D) : evalFW env37 live37 Try.f37 [.val true [(.slc 153, 0), (.slc 63, 0), (.slc 157, 0)], .val false [(.int .i64, 0)]] [.val true [(.int .i64, 0), (.slc 71, 1)], .val false [(.bool, 0)]] ds = fi37.run ds := by kernel_rfl
theorem ok37 : FnOk Try.prog tys 37 fi37 :=
  evalF_ok (live := live37) mixed tysOk (E := env37) rfl (envOk (⟨ok27, ⟨ok110, ⟨ok111, trivial⟩⟩⟩) eqsOk) Try.func37 (c := (Try.f37.body).getD .skip) (by kernel_rfl) (by rw [show Try.f37.name = "loop.example/g00106/spec.ZoneTable" by kernel_rfl]; decide) (fun ds out h => evalFW_some ((run37 ds).trans h)) (by decide) (by decide) (fun _ => by kernel_rfl)
/-! ### 166: loop.example/g00106/spec.l1Byte -/
noncomputable def f166 (a0 : List (List D)) (a1 : Int) (a2 : Int) : Option (List D) :=
  let v1 : Int := IntKind.wrap .i64 ((IntKind.wrap .i64 (a2 * 6364136223846793005)) + 1442695040888963407)
  let v2 : Int := band .i64 (bxor .i64 (v1.fdiv (2 ^ 33)) (v1.fdiv (2 ^ 45))) 255
  if (ltI a1 ((a0.length : Int))) = true then
    if (leI 0 a1 && ltI a1 ((a0.length : Int))) = true then
      let v3 : Int := IntKind.wrap .i64 (v2 + (IntKind.wrap .i64 (rI (a0.getD a1.toNat []) 0)))
      some [D.int .i64 (band .i64 v3 255), D.slc a0, D.int .i64 (IntKind.wrap .i64 (a1 + 1)), D.int .i64 v1]
    else
      none
  else
    some [D.int .i64 v2, D.slc a0, D.int .i64 a1, D.int .i64 v1]
noncomputable def live166 : Nat → List (Nat × LHint) := fun n => match n with
  | _ => []
noncomputable def env166 : Env := ⟨tys, look [], eqs⟩
noncomputable def fi166 : FI := { ps := [.ptr 207 [(.slc 5, 0, 0), (.int .i64, 0, 0), (.int .i64, 0, 0)]], rs := [.val false [(.int .i64, 0)]], fresh := false, run := fun ds => f166 ((ds.headD .undef).asRows) ((ds.tail.headD .undef).asInt) ((ds.tail.tail.headD .undef).asInt) }
theorem run166 (ds : List D) : evalFW env166 live166 Try.f166 [.ptr 207 [(.slc 5, 0, 0), (.int .i64, 0, 0), (.int .i64, 0, 0)]] [.val false [(.int .i64, 0)]] ds = fi166.run ds := by kernel_rfl
theorem ok166 : FnOk Try.prog tys 166 fi166 :=
  evalF_ok (live := live166) mixed tysOk (E := env166) rfl (envOk (trivial) eqsOk) Try.func166 (c := (Try.f166.body).getD .skip) (by kernel_rfl) (by rw [show Try.f166.name = "loop.example/g00106/spec.l1Byte" by kernel_rfl]; decide) (fun ds out h => evalFW_some ((run166 ds).trans h)) (by decide) (by decide) (fun h => by cases h)
/-! ### 79: loop.example/g00106/spec.l1Below -/
noncomputable def f79 (a0 : List (List D)) (a1 : Int) (a2 : Int) (a3 : Int) : Option (List D) :=
  if (leI a3 0) = true then
    some [D.int .i64 0, D.slc a0, D.int .i64 a1, D.int .i64 a2]
  else
    if (leI a3 256) = true then
      callB (f166 a0 a1 a2) fun r1 =>
      if (!eqI a3 0) = true then
        some [D.int .i64 (Int.tmod ((r1.headD .undef).asInt) a3), D.slc (((r1.drop 1).headD .undef).asRows), D.int .i64 ((((r1.drop 1).tail).headD .undef).asInt), D.int .i64 (((((r1.drop 1).tail).tail).headD .undef).asInt)]
      else
        none
    else
      callB (f166 a0 a1 a2) fun r2 =>
      callB (f166 (((r2.drop 1).headD .undef).asRows) ((((r2.drop 1).tail).headD .undef).asInt) (((((r2.drop 1).tail).tail).headD .undef).asInt)) fun r3 =>
      callB (f166 (((r3.drop 1).headD .undef).asRows) ((((r3.drop 1).tail).headD .undef).asInt) (((((r3.drop 1).tail).tail).headD .undef).asInt)) fun r4 =>
      callB (f166 (((r4.drop 1).headD .undef).asRows) ((((r4.drop 1).tail).headD .undef).asInt) (((((r4.drop 1).tail).tail).headD .undef).asInt)) fun r5 =>
      let v6 : Int := IntKind.wrap .i64 ((IntKind.wrap .i64 (((r2.headD .undef).asInt) * 16777216)) + (IntKind.wrap .i64 (((r3.headD .undef).asInt) * 65536)))
      let v7 : Int := IntKind.wrap .i64 (v6 + (IntKind.wrap .i64 (((r4.headD .undef).asInt) * 256)))
      if (!eqI a3 0) = true then
        let v8 : Int := Int.tmod (IntKind.wrap .i64 (v7 + ((r5.headD .undef).asInt))) a3
        some [D.int .i64 v8, D.slc (((r5.drop 1).headD .undef).asRows), D.int .i64 ((((r5.drop 1).tail).headD .undef).asInt), D.int .i64 (((((r5.drop 1).tail).tail).headD .undef).asInt)]
      else
        none
noncomputable def live79 : Nat → List (Nat × LHint) := fun n => match n with
  | _ => []
noncomputable def env79 : Env := ⟨tys, look [(166, fi166)], eqs⟩
noncomputable def fi79 : FI := { ps := [.ptr 207 [(.slc 5, 0, 0), (.int .i64, 0, 0), (.int .i64, 0, 0)], .val false [(.int .i64, 0)]], rs := [.val false [(.int .i64, 0)]], fresh := false, run := fun ds => f79 ((ds.headD .undef).asRows) ((ds.tail.headD .undef).asInt) ((ds.tail.tail.headD .undef).asInt) (((ds.drop 3).headD .undef).asInt) }
theorem run79 (ds : List D) : evalFW env79 live79 Try.f79 [.ptr 207 [(.slc 5, 0, 0), (.int .i64, 0, 0), (.int .i64, 0, 0)], .val false [(.int .i64, 0)]] [.val false [(.int .i64, 0)]] ds = fi79.run ds := by kernel_rfl
theorem ok79 : FnOk Try.prog tys 79 fi79 :=
  evalF_ok (live := live79) mixed tysOk (E := env79) rfl (envOk (⟨ok166, trivial⟩) eqsOk) Try.func79 (c := (Try.f79.body).getD .skip) (by kernel_rfl) (by rw [show Try.f79.name = "loop.example/g00106/spec.l1Below" by kernel_rfl]; decide) (fun ds out h => evalFW_some ((run79 ds).trans h)) (by decide) (by decide) (fun h => by cases h)
/-! ### 98: loop.example/g00106/spec.l1PickInt -/
noncomputable def f98 (a0 : List (List D)) (a1 : Int) (a2 : Int) (a3 : List (List D)) : Option (List D) :=
  callB (f79 a0 a1 a2 ((a3.length : Int))) fun r1 =>
  if (leI 0 ((r1.headD .undef).asInt) && ltI ((r1.headD .undef).asInt) ((a3.length : Int))) = true then
    some [D.int .i64 (rI (a3.getD (((r1.headD .undef).asInt).toNat) []) 0), D.slc (((r1.drop 1).headD .undef).asRows), D.int .i64 ((((r1.drop 1).tail).headD .undef).asInt), D.int .i64 (((((r1.drop 1).tail).tail).headD .undef).asInt)]
  else
    none
noncomputable def live98 : Nat → List (Nat × LHint) := fun n => match n with
  | _ => []
noncomputable def env98 : Env := ⟨tys, look [(79, fi79)], eqs⟩
noncomputable def fi98 : FI := { ps := [.ptr 207 [(.slc 5, 0, 0), (.int .i64, 0, 0), (.int .i64, 0, 0)], .val false [(.slc 3, 0)]], rs := [.val false [(.int .i64, 0)]], fresh := false, run := fun ds => f98 ((ds.headD .undef).asRows) ((ds.tail.headD .undef).asInt) ((ds.tail.tail.headD .undef).asInt) (((ds.drop 3).headD .undef).asRows) }
theorem run98 (ds : List D) : evalFW env98 live98 Try.f98 [.ptr 207 [(.slc 5, 0, 0), (.int .i64, 0, 0), (.int .i64, 0, 0)], .val false [(.slc 3, 0)]] [.val false [(.int .i64, 0)]] ds = fi98.run ds := by kernel_rfl
theorem ok98 : FnOk Try.prog tys 98 fi98 :=
  evalF_ok (live := live98) mixed tysOk (E := env98) rfl (envOk (⟨ok79, trivial⟩) eqsOk) Try.func98 (c := (Try.f98.body).getD .skip) (by kernel_rfl) (by rw [show Try.f98.name = "loop.example/g00106/spec.l1PickInt" by kernel_rfl]; decide) (fun ds out h => evalFW_some ((run98 ds).trans h)) (by decide) (by decide) (fun h => by cases h)
/-! ### 78: loop.example/g00106/spec.l1Once -/
noncomputable def f78 (a0 : List (List D)) (a1 : Int) (a2 : Int) (a3 : Int) : Option (List D) :=
  callB (f79 a0 a1 a2 a3) fun r1 =>
  some [D.bool (((r1.headD .undef).asInt) == 0), D.slc (((r1.drop 1).headD .undef).asRows), D.int .i64 ((((r1.drop 1).tail).headD .undef).asInt), D.int .i64 (((((r1.drop 1).tail).tail).headD .undef).asInt)]
noncomputable def live78 : Nat → List (Nat × LHint) := fun n => match n with
  | _ => []
noncomputable def env78 : Env := ⟨tys, look [(79, fi79)], eqs⟩
noncomputable def fi78 : FI := { ps := [.ptr 207 [(.slc 5, 0, 0), (.int .i64, 0, 0), (.int .i64, 0, 0)], .val false [(.int .i64, 0)]], rs := [.val false [(.bool, 0)]], fresh := false, run := fun ds => f78 ((ds.headD .undef).asRows) ((ds.tail.headD .undef).asInt) ((ds.tail.tail.headD .undef).asInt) (((ds.drop 3).headD .undef).asInt) }
theorem run78 (ds : List D) : evalFW env78 live78 Try.f78 [.ptr 207 [(.slc 5, 0, 0), (.int .i64, 0, 0), (.int .i64, 0, 0)], .val false [(.int .i64, 0)]] [.val false [(.bool, 0)]] ds = fi78.run ds := by kernel_rfl
theorem ok78 : FnOk Try.prog tys 78 fi78 :=
  evalF_ok (live := live78) mixed tysOk (E := env78) rfl (envOk (⟨ok79, trivial⟩) eqsOk) Try.func78 (c := (Try.f78.body).getD .skip) (by kernel_rfl) (by rw [show Try.f78.name = "loop.example/g00106/spec.l1Once" by kernel_rfl]; decide) (fun ds out h => evalFW_some ((run78 ds).trans h)) (by decide) (by decide) (fun h => by cases h)
/-! ### 237: loop.example/g00106/spec.l12DrawRule -/
noncomputable def f237 (a0 : List (List D)) (a1 : Int) (a2 : Int) : Option (List D) :=
  callB (f79 a0 a1 a2 3) fun r1 =>
  callB (f79 (((r1.drop 1).headD .undef).asRows) ((((r1.drop 1).tail).headD .undef).asInt) (((((r1.drop 1).tail).tail).headD .undef).asInt) 70) fun r2 =>
  callB (f79 (((r2.drop 1).headD .undef).asRows) ((((r2.drop 1).tail).headD .undef).asInt) (((((r2.drop 1).tail).tail).headD .undef).asInt) 12) fun r3 =>
  callB (f79 (((r3.drop 1).headD .undef).asRows) ((((r3.drop 1).tail).headD .undef).asInt) (((((r3.drop 1).tail).tail).headD .undef).asInt) 24) fun r4 =>
  callB (f98 (((r4.drop 1).headD .undef).asRows) ((((r4.drop 1).tail).headD .undef).asInt) (((((r4.drop 1).tail).tail).headD .undef).asInt) ([[D.int .i64 0], [D.int .i64 60], [D.int .i64 30], [D.int .i64 0]])) fun r5 =>
  callB (f79 (((r5.drop 1).headD .undef).asRows) ((((r5.drop 1).tail).headD .undef).asInt) (((((r5.drop 1).tail).tail).headD .undef).asInt) 20) fun r6 =>
  let v7 : Int := IntKind.wrap .i64 ((IntKind.wrap .i64 (1960 + ((r2.headD .undef).asInt))) + ((r6.headD .undef).asInt))
  callB (f79 (((r6.drop 1).headD .undef).asRows) ((((r6.drop 1).tail).headD .undef).asInt) (((((r6.drop 1).tail).tail).headD .undef).asInt) 7) fun r8 =>
  callB (f78 (((r8.drop 1).headD .undef).asRows) ((((r8.drop 1).tail).headD .undef).asInt) (((((r8.drop 1).tail).tail).headD .undef).asInt) 2) fun r9 =>
  if ((r9.headD .undef).asBool) = true then
    callB (f79 (((r9.drop 1).headD .undef).asRows) ((((r9.drop 1).tail).headD .undef).asInt) (((((r9.drop 1).tail).tail).headD .undef).asInt) 7) fun r10 =>
    callB (f79 (((r10.drop 1).headD .undef).asRows) ((((r10.drop 1).tail).headD .undef).asInt) (((((r10.drop 1).tail).tail).headD .undef).asInt) 20) fun r11 =>
    callB (f78 (((r11.drop 1).headD .undef).asRows) ((((r11.drop 1).tail).headD .undef).asInt) (((((r11.drop 1).tail).tail).headD .undef).asInt) 4) fun r12 =>
    if ((r12.headD .undef).asBool) = true then
      callB (f79 (((r12.drop 1).headD .undef).asRows) ((((r12.drop 1).tail).headD .undef).asInt) (((((r12.drop 1).tail).tail).headD .undef).asInt) 31) fun r13 =>
      some [D.int .i64 (IntKind.wrap .i64 (97 + ((r1.headD .undef).asInt))), D.int .i64 (IntKind.wrap .i64 (1960 + ((r2.headD .undef).asInt))), D.int .i64 v7, D.int .i64 (IntKind.wrap .i64 (1 + ((r3.headD .undef).asInt))), D.int .i64 1, D.int .i64 (IntKind.wrap .i64 (1 + ((r13.headD .undef).asInt))), D.int .i64 0, D.int .i64 (IntKind.wrap .i64 (60 * ((r4.headD .undef).asInt))), D.int .i64 ((r5.headD .undef).asInt), D.slc (((r13.drop 1).headD .undef).asRows), D.int .i64 ((((r13.drop 1).tail).headD .undef).asInt), D.int .i64 (((((r13.drop 1).tail).tail).headD .undef).asInt)]
    else
      some [D.int .i64 (IntKind.wrap .i64 (97 + ((r1.headD .undef).asInt))), D.int .i64 (IntKind.wrap .i64 (1960 + ((r2.headD .undef).asInt))), D.int .i64 v7, D.int .i64 (IntKind.wrap .i64 (1 + ((r3.headD .undef).asInt))), D.int .i64 3, D.int .i64 (IntKind.wrap .i64 (1 + ((r11.headD .undef).asInt))), D.int .i64 ((r10.headD .undef).asInt), D.int .i64 (IntKind.wrap .i64 (60 * ((r4.headD .undef).asInt))), D.int .i64 ((r5.headD .undef).asInt), D.slc (((r12.drop 1).headD .undef).asRows), D.int .i64 ((((r12.drop 1).tail).headD .undef).asInt), D.int .i64 (((((r12.drop 1).tail).tail).headD .undef).asInt)]
  else
    callB (f78 (((r9.drop 1).headD .undef).asRows) ((((r9.drop 1).tail).headD .undef).asInt) (((((r9.drop 1).tail).tail).headD .undef).asInt) 4) fun r14 =>
    if ((r14.headD .undef).asBool) = true then
      callB (f79 (((r14.drop 1).headD .undef).asRows) ((((r14.drop 1).tail).headD .undef).asInt) (((((r14.drop 1).tail).tail).headD .undef).asInt) 31) fun r15 =>
      some [D.int .i64 (IntKind.wrap .i64 (97 + ((r1.headD .undef).asInt))), D.int .i64 (IntKind.wrap .i64 (1960 + ((r2.headD .undef).asInt))), D.int .i64 v7, D.int .i64 (IntKind.wrap .i64 (1 + ((r3.headD .undef).asInt))), D.int .i64 1, D.int .i64 (IntKind.wrap .i64 (1 + ((r15.headD .undef).asInt))), D.int .i64 0, D.int .i64 (IntKind.wrap .i64 (60 * ((r4.headD .undef).asInt))), D.int .i64 ((r5.headD .undef).asInt), D.slc (((r15.drop 1).headD .undef).asRows), D.int .i64 ((((r15.drop 1).tail).headD .undef).asInt), D.int .i64 (((((r15.drop 1).tail).tail).headD .undef).asInt)]
    else
      some [D.int .i64 (IntKind.wrap .i64 (97 + ((r1.headD .undef).asInt))), D.int .i64 (IntKind.wrap .i64 (1960 + ((r2.headD .undef).asInt))), D.int .i64 v7, D.int .i64 (IntKind.wrap .i64 (1 + ((r3.headD .undef).asInt))), D.int .i64 2, D.int .i64 0, D.int .i64 ((r8.headD .undef).asInt), D.int .i64 (IntKind.wrap .i64 (60 * ((r4.headD .undef).asInt))), D.int .i64 ((r5.headD .undef).asInt), D.slc (((r14.drop 1).headD .undef).asRows), D.int .i64 ((((r14.drop 1).tail).headD .undef).asInt), D.int .i64 (((((r14.drop 1).tail).tail).headD .undef).asInt)]
noncomputable def live237 : Nat → List (Nat × LHint) := fun n => match n with
  | _ => []
noncomputable def env237 : Env := ⟨tys, look [(78, fi78), (79, fi79), (98, fi98)], eqs⟩
noncomputable def fi237 : FI := { ps := [.ptr 207 [(.slc 5, 0, 0), (.int .i64, 0, 0), (.int .i64, 0, 0)]], rs := [.val true [(.int .i64, 0), (.int .i64, 0), (.int .i64, 0), (.int .i64, 0), (.int .i64, 0), (.int .i64, 0), (.int .i64, 0), (.int .i64, 0), (.int .i64, 0)]], fresh := false, run := fun ds => f237 ((ds.headD .undef).asRows) ((ds.tail.headD .undef).asInt) ((ds.tail.tail.headD .undef).asInt) }
theorem run237 (ds : List D) : evalFW env237 live237 Try.f237 [.ptr 207 [(.slc 5, 0, 0), (.int .i64, 0, 0), (.int .i64, 0, 0)]] [.val true [(.int .i64, 0), (.int .i64, 0), (.int .i64, 0), (.int .i64, 0), (.int .i64, 0), (.int .i64, 0), (.int .i64, 0), (.int .i64, 0), (.int .i64, 0)]] ds = fi237.run ds := by kernel_rfl
theorem ok237 : FnOk Try.prog tys 237 fi237 :=
  evalF_ok (live := live237) mixed tysOk (E := env237) rfl (envOk (⟨ok78, ⟨ok79, ⟨ok98, trivial⟩⟩⟩) eqsOk) Try.func237 (c := (Try.f237.body).getD .skip) (by kernel_rfl) (by rw [show Try.f237.name = "loop.example/g00106/spec.l12DrawRule" by kernel_rfl]; decide) (fun ds out h => evalFW_some ((run237 ds).trans h)) (by decide) (by decide) (fun h => by cases h)
/-! ### 175: loop.example/g00106/spec.l12DrawRight -/
noncomputable def b175_3 (a0 : List (List D)) (a1 : Int) (a2 : Int) (a3 : List (List D)) (a4 : List (List D)) (a5 : List (List D)) (a6 : List (List D)) (a7 : List (List D)) (a8 : List (List D)) (a9 : Int) : Option (Nat × List D) :=
  callB (f79 a0 a1 a2 5) fun r1 =>
  if (ltI a9 ((r1.headD .undef).asInt)) = true then
    callB (f237 (((r1.drop 1).headD .undef).asRows) ((((r1.drop 1).tail).headD .undef).asInt) (((((r1.drop 1).tail).tail).headD .undef).asInt)) fun r2 =>
    let v3 : Int := (r2.tail.tail.tail.tail.tail.tail.tail.tail.headD .undef).asInt
    if (lenB (a6.length + 1) 72) = true then
      let v4 : List (List D) := a6 ++ ([[D.int .i64 ((r2.headD .undef).asInt), D.int .i64 ((r2.tail.headD .undef).asInt), D.int .i64 ((r2.tail.tail.headD .undef).asInt), D.int .i64 ((r2.tail.tail.tail.headD .undef).asInt), D.int .i64 ((r2.tail.tail.tail.tail.headD .undef).asInt), D.int .i64 ((r2.tail.tail.tail.tail.tail.headD .undef).asInt), D.int .i64 ((r2.tail.tail.tail.tail.tail.tail.headD .undef).asInt), D.int .i64 ((r2.tail.tail.tail.tail.tail.tail.tail.headD .undef).asInt), D.int .i64 v3]])
      some (0, [D.slc (((r2.drop 9).headD .undef).asRows), D.int .i64 ((((r2.drop 9).tail).headD .undef).asInt), D.int .i64 (((((r2.drop 9).tail).tail).headD .undef).asInt), D.slc a3, D.slc a4, D.slc a5, D.slc v4, D.slc a7, D.slc a8, D.int .i64 (IntKind.wrap .i64 (a9 + 1))])
    else
      none
  else
    some (2, [D.slc (((r1.drop 1).headD .undef).asRows), D.int .i64 ((((r1.drop 1).tail).headD .undef).asInt), D.int .i64 (((((r1.drop 1).tail).tail).headD .undef).asInt), D.slc a3, D.slc a4, D.slc a5, D.slc a6, D.slc a7, D.slc a8, D.int .i64 a9])
noncomputable def B175_3 : Step := fun ds => b175_3 ((ds.headD .undef).asRows) ((ds.tail.headD .undef).asInt) ((ds.tail.tail.headD .undef).asInt) (((ds.drop 3).headD .undef).asRows) ((((ds.drop 3).tail).headD .undef).asRows) (((((ds.drop 3).tail).tail).headD .undef).asRows) ((((ds.drop 3).drop 3).headD .undef).asRows) (((((ds.drop 3).drop 3).tail).headD .undef).asRows) ((((((ds.drop 3).drop 3).tail).tail).headD .undef).asRows) (((((ds.drop 3).drop 3).drop 3).headD .undef).asInt)
noncomputable def b175_8 (a0 : List (List D)) (a1 : Int) (a2 : Int) (a3 : List (List D)) (a4 : List (List D)) (a5 : List (List D)) (a6 : List (List D)) (a7 : List (List D)) (a8 : List (List D)) (a9 : Int) (a10 : Int) : Option (Nat × List D) :=
  callB (f79 a0 a1 a2 4) fun r1 =>
  if (ltI a10 ((r1.headD .undef).asInt)) = true then
    callB (f79 (((r1.drop 1).headD .undef).asRows) ((((r1.drop 1).tail).headD .undef).asInt) (((((r1.drop 1).tail).tail).headD .undef).asInt) 50) fun r2 =>
    let v3 : Int := IntKind.wrap .i64 ((IntKind.wrap .i64 (30 * ((r2.headD .undef).asInt))) - 720)
    if (ltI 0 ((a6.length : Int))) = true then
      callB (f78 (((r2.drop 1).headD .undef).asRows) ((((r2.drop 1).tail).headD .undef).asInt) (((((r2.drop 1).tail).tail).headD .undef).asInt) 4) fun r4 =>
      if (!((r4.headD .undef).asBool)) = true then
        callB (f79 (((r4.drop 1).headD .undef).asRows) ((((r4.drop 1).tail).headD .undef).asInt) (((((r4.drop 1).tail).tail).headD .undef).asInt) ((a6.length : Int))) fun r5 =>
        if (leI 0 ((r5.headD .undef).asInt) && ltI ((r5.headD .undef).asInt) ((a6.length : Int))) = true then
          if (lenB (a7.length + 1) 24) = true then
            let v6 : List (List D) := a7 ++ ([[D.int .i64 (IntKind.wrap .i64 a9), D.int .i64 v3, D.int .i64 (rI (a6.getD (((r5.headD .undef).asInt).toNat) []) 0)]])
            callB (f79 (((r5.drop 1).headD .undef).asRows) ((((r5.drop 1).tail).headD .undef).asInt) (((((r5.drop 1).tail).tail).headD .undef).asInt) 2) fun r7 =>
            let v8 : Int := IntKind.wrap .i32 ((IntKind.wrap .i32 (a9 + 1)) + (IntKind.wrap .i32 ((r7.headD .undef).asInt)))
            some (0, [D.slc (((r7.drop 1).headD .undef).asRows), D.int .i64 ((((r7.drop 1).tail).headD .undef).asInt), D.int .i64 (((((r7.drop 1).tail).tail).headD .undef).asInt), D.slc a3, D.slc a4, D.slc a5, D.slc a6, D.slc v6, D.slc a8, D.int .i32 v8, D.int .i64 (IntKind.wrap .i64 (a10 + 1))])
          else
            none
        else
          none
      else
        if (lenB (a7.length + 1) 24) = true then
          let v9 : List (List D) := a7 ++ ([[D.int .i64 (IntKind.wrap .i64 a9), D.int .i64 v3, D.int .i64 0]])
          callB (f79 (((r4.drop 1).headD .undef).asRows) ((((r4.drop 1).tail).headD .undef).asInt) (((((r4.drop 1).tail).tail).headD .undef).asInt) 2) fun r10 =>
          let v11 : Int := IntKind.wrap .i32 ((IntKind.wrap .i32 (a9 + 1)) + (IntKind.wrap .i32 ((r10.headD .undef).asInt)))
          some (0, [D.slc (((r10.drop 1).headD .undef).asRows), D.int .i64 ((((r10.drop 1).tail).headD .undef).asInt), D.int .i64 (((((r10.drop 1).tail).tail).headD .undef).asInt), D.slc a3, D.slc a4, D.slc a5, D.slc a6, D.slc v9, D.slc a8, D.int .i32 v11, D.int .i64 (IntKind.wrap .i64 (a10 + 1))])
        else
          none
    else
      if (lenB (a7.length + 1) 24) = true then
        let v12 : List (List D) := a7 ++ ([[D.int .i64 (IntKind.wrap .i64 a9), D.int .i64 v3, D.int .i64 0]])
        callB (f79 (((r2.drop 1).headD .undef).asRows) ((((r2.drop 1).tail).headD .undef).asInt) (((((r2.drop 1).tail).tail).headD .undef).asInt) 2) fun r13 =>
        let v14 : Int := IntKind.wrap .i32 ((IntKind.wrap .i32 (a9 + 1)) + (IntKind.wrap .i32 ((r13.headD .undef).asInt)))
        some (0, [D.slc (((r13.drop 1).headD .undef).asRows), D.int .i64 ((((r13.drop 1).tail).headD .undef).asInt), D.int .i64 (((((r13.drop 1).tail).tail).headD .undef).asInt), D.slc a3, D.slc a4, D.slc a5, D.slc a6, D.slc v12, D.slc a8, D.int .i32 v14, D.int .i64 (IntKind.wrap .i64 (a10 + 1))])
      else
        none
  else
    some (4, [D.slc (((r1.drop 1).headD .undef).asRows), D.int .i64 ((((r1.drop 1).tail).headD .undef).asInt), D.int .i64 (((((r1.drop 1).tail).tail).headD .undef).asInt), D.slc a3, D.slc a4, D.slc a5, D.slc a6, D.slc a7, D.slc a8, D.int .i32 a9, D.int .i64 a10])
noncomputable def B175_8 : Step := fun ds => b175_8 ((ds.headD .undef).asRows) ((ds.tail.headD .undef).asInt) ((ds.tail.tail.headD .undef).asInt) (((ds.drop 3).headD .undef).asRows) ((((ds.drop 3).tail).headD .undef).asRows) (((((ds.drop 3).tail).tail).headD .undef).asRows) ((((ds.drop 3).drop 3).headD .undef).asRows) (((((ds.drop 3).drop 3).tail).headD .undef).asRows) ((((((ds.drop 3).drop 3).tail).tail).headD .undef).asRows) (((((ds.drop 3).drop 3).drop 3).headD .undef).asInt) ((((((ds.drop 3).drop 3).drop 3).drop 1).headD .undef).asInt)
noncomputable def b175_16 (a0 : List (List D)) (a1 : Int) (a2 : Int) (a3 : List (List D)) (a4 : List (List D)) (a5 : List (List D)) (a6 : List (List D)) (a7 : List (List D)) (a8 : List (List D)) (a9 : Int) : Option (Nat × List D) :=
  callB (f79 a0 a1 a2 3) fun r1 =>
  if (ltI a9 ((r1.headD .undef).asInt)) = true then
    if (ltI 0 ((a7.length : Int))) = true then
      callB (f79 (((r1.drop 1).headD .undef).asRows) ((((r1.drop 1).tail).headD .undef).asInt) (((((r1.drop 1).tail).tail).headD .undef).asInt) ((a7.length : Int))) fun r2 =>
      if (leI 0 ((r2.headD .undef).asInt) && ltI ((r2.headD .undef).asInt) ((a7.length : Int))) = true then
        if (lenB (a8.length + 1) 16) = true then
          let v3 : List (List D) := a8 ++ ([[D.int .i64 (IntKind.wrap .i64 (84 + a9)), D.int .i64 (rI (a7.getD (((r2.headD .undef).asInt).toNat) []) 0)]])
          some (0, [D.slc (((r2.drop 1).headD .undef).asRows), D.int .i64 ((((r2.drop 1).tail).headD .undef).asInt), D.int .i64 (((((r2.drop 1).tail).tail).headD .undef).asInt), D.slc a3, D.slc a4, D.slc a5, D.slc a6, D.slc a7, D.slc v3, D.int .i64 (IntKind.wrap .i64 (a9 + 1))])
        else
          none
      else
        none
    else
      some (6, [D.slc (((r1.drop 1).headD .undef).asRows), D.int .i64 ((((r1.drop 1).tail).headD .undef).asInt), D.int .i64 (((((r1.drop 1).tail).tail).headD .undef).asInt), D.slc a3, D.slc a4, D.slc a5, D.slc a6, D.slc a7, D.slc a8, D.int .i64 a9])
  else
    some (6, [D.slc (((r1.drop 1).headD .undef).asRows), D.int .i64 ((((r1.drop 1).tail).headD .undef).asInt), D.int .i64 (((((r1.drop 1).tail).tail).headD .undef).asInt), D.slc a3, D.slc a4, D.slc a5, D.slc a6, D.slc a7, D.slc a8, D.int .i64 a9])
noncomputable def B175_16 : Step := fun ds => b175_16 ((ds.headD .undef).asRows) ((ds.tail.headD .undef).asInt) ((ds.tail.tail.headD .undef).asInt) (((ds.drop 3).headD .undef).asRows) ((((ds.drop 3).tail).headD .undef).asRows) (((((ds.drop 3).tail).tail).headD .undef).asRows) ((((ds.drop 3).drop 3).headD .undef).asRows) (((((ds.drop 3).drop 3).tail).headD .undef).asRows) ((((((ds.drop 3).drop 3).tail).tail).headD .undef).asRows) (((((ds.drop 3).drop 3).drop 3).headD .undef).asInt)
noncomputable def b175_20 (a0 : List (List D)) (a1 : Int) (a2 : Int) (a3 : List (List D)) (a4 : List (List D)) (a5 : List (List D)) (a6 : List (List D)) (a7 : List (List D)) (a8 : List (List D)) : Option (Nat × List D) :=
  if (ltI ((a6.length : Int)) 20) = true then
    callB (f237 a0 a1 a2) fun r1 =>
    let v2 : Int := (r1.tail.tail.tail.tail.tail.tail.tail.tail.headD .undef).asInt
    if (lenB (a6.length + 1) 72) = true then
      let v3 : List (List D) := a6 ++ ([[D.int .i64 ((r1.headD .undef).asInt), D.int .i64 ((r1.tail.headD .undef).asInt), D.int .i64 ((r1.tail.tail.headD .undef).asInt), D.int .i64 ((r1.tail.tail.tail.headD .undef).asInt), D.int .i64 ((r1.tail.tail.tail.tail.headD .undef).asInt), D.int .i64 ((r1.tail.tail.tail.tail.tail.headD .undef).asInt), D.int .i64 ((r1.tail.tail.tail.tail.tail.tail.headD .undef).asInt), D.int .i64 ((r1.tail.tail.tail.tail.tail.tail.tail.headD .undef).asInt), D.int .i64 v2]])
      some (0, [D.slc (((r1.drop 9).headD .undef).asRows), D.int .i64 ((((r1.drop 9).tail).headD .undef).asInt), D.int .i64 (((((r1.drop 9).tail).tail).headD .undef).asInt), D.slc a3, D.slc a4, D.slc a5, D.slc v3, D.slc a7, D.slc a8])
    else
      none
  else
    some (8, [D.slc a0, D.int .i64 a1, D.int .i64 a2, D.slc a3, D.slc a4, D.slc a5, D.slc a6, D.slc a7, D.slc a8])
noncomputable def B175_20 : Step := fun ds => b175_20 ((ds.headD .undef).asRows) ((ds.tail.headD .undef).asInt) ((ds.tail.tail.headD .undef).asInt) (((ds.drop 3).headD .undef).asRows) ((((ds.drop 3).tail).headD .undef).asRows) (((((ds.drop 3).tail).tail).headD .undef).asRows) ((((ds.drop 3).drop 3).headD .undef).asRows) (((((ds.drop 3).drop 3).tail).headD .undef).asRows) ((((((ds.drop 3).drop 3).tail).tail).headD .undef).asRows)
noncomputable def f175 (a0 : List (List D)) (a1 : Int) (a2 : Int) : Option (List D) :=
  getB (whileW B175_3 [D.slc a0, D.int .i64 a1, D.int .i64 a2, D.slc ([]), D.slc ([]), D.slc ([]), D.slc ([]), D.slc ([]), D.slc ([]), D.int .i64 0]) fun x1 =>
  if (Nat.beq x1.1 2) = true then
    getB (whileW B175_8 [D.slc ((x1.2.headD .undef).asRows), D.int .i64 ((x1.2.tail.headD .undef).asInt), D.int .i64 ((x1.2.tail.tail.headD .undef).asInt), D.slc ((((x1.2.drop 3).headD .undef)).asRows), D.slc (((((x1.2.drop 3).tail).headD .undef)).asRows), D.slc ((((((x1.2.drop 3).tail).tail).headD .undef)).asRows), D.slc (((((x1.2.drop 3).drop 3).headD .undef)).asRows), D.slc ((((((x1.2.drop 3).drop 3).tail).headD .undef)).asRows), D.slc (((((((x1.2.drop 3).drop 3).tail).tail).headD .undef)).asRows), D.int .i32 65, D.int .i64 0]) fun x2 =>
    if (Nat.beq x2.1 4) = true then
      getB (whileW B175_16 [D.slc ((x2.2.headD .undef).asRows), D.int .i64 ((x2.2.tail.headD .undef).asInt), D.int .i64 ((x2.2.tail.tail.headD .undef).asInt), D.slc ((((x2.2.drop 3).headD .undef)).asRows), D.slc (((((x2.2.drop 3).tail).headD .undef)).asRows), D.slc ((((((x2.2.drop 3).tail).tail).headD .undef)).asRows), D.slc (((((x2.2.drop 3).drop 3).headD .undef)).asRows), D.slc ((((((x2.2.drop 3).drop 3).tail).headD .undef)).asRows), D.slc (((((((x2.2.drop 3).drop 3).tail).tail).headD .undef)).asRows), D.int .i64 0]) fun x3 =>
      if (Nat.beq x3.1 6) = true then
        callB (f78 ((x3.2.headD .undef).asRows) ((x3.2.tail.headD .undef).asInt) ((x3.2.tail.tail.headD .undef).asInt) 20) fun r4 =>
        if ((r4.headD .undef).asBool) = true then
          getB (whileW B175_20 [D.slc (((r4.drop 1).headD .undef).asRows), D.int .i64 ((((r4.drop 1).tail).headD .undef).asInt), D.int .i64 (((((r4.drop 1).tail).tail).headD .undef).asInt), D.slc ((((x3.2.drop 3).headD .undef)).asRows), D.slc (((((x3.2.drop 3).tail).headD .undef)).asRows), D.slc ((((((x3.2.drop 3).tail).tail).headD .undef)).asRows), D.slc (((((x3.2.drop 3).drop 3).headD .undef)).asRows), D.slc ((((((x3.2.drop 3).drop 3).tail).headD .undef)).asRows), D.slc (((((((x3.2.drop 3).drop 3).tail).tail).headD .undef)).asRows)]) fun x5 =>
          if (Nat.beq x5.1 8) = true then
            some [D.slc (((((x5.2.drop 3).drop 3).headD .undef)).asRows), D.slc ((((((x5.2.drop 3).drop 3).tail).headD .undef)).asRows), D.slc (((((((x5.2.drop 3).drop 3).tail).tail).headD .undef)).asRows), D.slc ((x5.2.headD .undef).asRows), D.int .i64 ((x5.2.tail.headD .undef).asInt), D.int .i64 ((x5.2.tail.tail.headD .undef).asInt)]
          else
            if (Nat.beq x5.1 1) = true then
              some x5.2
            else
              none
        else
          some [D.slc (((((x3.2.drop 3).drop 3).headD .undef)).asRows), D.slc ((((((x3.2.drop 3).drop 3).tail).headD .undef)).asRows), D.slc (((((((x3.2.drop 3).drop 3).tail).tail).headD .undef)).asRows), D.slc (((r4.drop 1).headD .undef).asRows), D.int .i64 ((((r4.drop 1).tail).headD .undef).asInt), D.int .i64 (((((r4.drop 1).tail).tail).headD .undef).asInt)]
      else
        if (Nat.beq x3.1 1) = true then
          some x3.2
        else
          none
    else
      if (Nat.beq x2.1 1) = true then
        some x2.2
      else
        none
  else
    if (Nat.beq x1.1 1) = true then
      some x1.2
    else
      none
noncomputable def live175 : Nat → List (Nat × LHint) := fun n => match n with
  | 3 => [(0, .auto [.ptr 207]), (2, .auto []), (3, .auto []), (4, .auto [.int .i64])]
  | 8 => [(0, .auto [.ptr 207]), (2, .auto []), (3, .auto []), (5, .auto [.int .i32]), (6, .auto [.int .i64])]
  | 16 => [(0, .auto [.ptr 207]), (2, .auto []), (3, .auto []), (8, .auto [.int .i64])]
  | 20 => [(0, .auto [.ptr 207]), (2, .auto []), (3, .auto [])]
  | _ => []
noncomputable def env175 : Env := ⟨tys, look [(78, fi78), (79, fi79), (237, fi237)], eqs⟩
noncomputable def fi175 : FI := { ps := [.ptr 207 [(.slc 5, 0, 0), (.int .i64, 0, 0), (.int .i64, 0, 0)]], rs := [.val true [(.slc 153, 1), (.slc 63, 1), (.slc 157, 1)]], fresh := false, run := fun ds => f175 ((ds.headD .undef).asRows) ((ds.tail.headD .undef).asInt) ((ds.tail.tail.headD .undef).asInt) }
theorem run175 (ds : List D) : evalFW env175 live175 Try.f175 [.ptr 207 [(.slc 5, 0, 0), (.int .i64, 0, 0), (.int .i64, 0, 0)]] [.val true [(.slc 153, 1), (.slc 63, 1), (.slc 157, 1)]] ds = fi175.run ds := by kernel_rfl
theorem ok175 : FnOk Try.prog tys 175 fi175 :=
  evalF_ok (live := live175) mixed tysOk (E := env175) rfl (envOk (⟨ok78, ⟨ok79, ⟨ok237, trivial⟩⟩⟩) eqsOk) Try.func175 (c := (Try.f175.body).getD .skip) (by kernel_rfl) (by rw [show Try.f175.name = "loop.example/g00106/spec.l12DrawRight" by kernel_rfl]; decide) (fun ds out h => evalFW_some ((run175 ds).trans h)) (by decide) (by decide) (fun h => by cases h)
/-! ### 100: loop.example/g00106/spec.l12DrawSource -/
noncomputable def f100 (a0 : List (List D)) (a1 : Int) (a2 : Int) : Option (List D) :=
  callB (f175 a0 a1 a2) fun r1 =>
  callB (f79 (((r1.drop 3).headD .undef).asRows) ((((r1.drop 3).tail).headD .undef).asInt) (((((r1.drop 3).tail).tail).headD .undef).asInt) 20) fun r2 =>
  if (((r2.headD .undef).asInt) == 0) = true then
    if (ltI 0 (((((r1.headD .undef)).asRows).length : Int))) = true then
      callB (f79 (((r2.drop 1).headD .undef).asRows) ((((r2.drop 1).tail).headD .undef).asInt) (((((r2.drop 1).tail).tail).headD .undef).asInt) 14) fun r3 =>
      if (leI 0 0 && ltI 0 (((((r1.headD .undef)).asRows).length : Int))) = true then
        some [D.slc ((((r1.headD .undef)).asRows).set 0 (splice ((((r1.headD .undef)).asRows).getD 0 []) 3 [D.int .i64 ((r3.headD .undef).asInt)])), D.slc (((r1.tail.headD .undef)).asRows), D.slc (((r1.tail.tail.headD .undef)).asRows), D.slc (((r3.drop 1).headD .undef).asRows), D.int .i64 ((((r3.drop 1).tail).headD .undef).asInt), D.int .i64 (((((r3.drop 1).tail).tail).headD .undef).asInt)]
      else
        none
    else
      some [D.slc (((r1.headD .undef)).asRows), D.slc (((r1.tail.headD .undef)).asRows), D.slc (((r1.tail.tail.headD .undef)).asRows), D.slc (((r2.drop 1).headD .undef).asRows), D.int .i64 ((((r2.drop 1).tail).headD .undef).asInt), D.int .i64 (((((r2.drop 1).tail).tail).headD .undef).asInt)]
  else
    if (((r2.headD .undef).asInt) == 1) = true then
      callB (f79 (((r2.drop 1).headD .undef).asRows) ((((r2.drop 1).tail).headD .undef).asInt) (((((r2.drop 1).tail).tail).headD .undef).asInt) 30) fun r4 =>
      callB (f79 (((r4.drop 1).headD .undef).asRows) ((((r4.drop 1).tail).headD .undef).asInt) (((((r4.drop 1).tail).tail).headD .undef).asInt) 2) fun r5 =>
      if (lenB ((((r1.tail.headD .undef)).asRows).length + 1) 24) = true then
        let v6 : List (List D) := (((r1.tail.headD .undef)).asRows) ++ ([[D.int .i64 (IntKind.wrap .i64 (65 + ((r4.headD .undef).asInt))), D.int .i64 (IntKind.wrap .i64 (901 - ((r5.headD .undef).asInt))), D.int .i64 0]])
        some [D.slc (((r1.headD .undef)).asRows), D.slc v6, D.slc (((r1.tail.tail.headD .undef)).asRows), D.slc (((r5.drop 1).headD .undef).asRows), D.int .i64 ((((r5.drop 1).tail).headD .undef).asInt), D.int .i64 (((((r5.drop 1).tail).tail).headD .undef).asInt)]
      else
        none
    else
      if (((r2.headD .undef).asInt) == 2) = true then
        callB (f79 (((r2.drop 1).headD .undef).asRows) ((((r2.drop 1).tail).headD .undef).asInt) (((((r2.drop 1).tail).tail).headD .undef).asInt) 3) fun r7 =>
        if (lenB ((((r1.tail.tail.headD .undef)).asRows).length + 1) 16) = true then
          let v8 : List (List D) := (((r1.tail.tail.headD .undef)).asRows) ++ ([[D.int .i64 90, D.int .i64 (IntKind.wrap .i64 (65 + ((r7.headD .undef).asInt)))]])
          some [D.slc (((r1.headD .undef)).asRows), D.slc (((r1.tail.headD .undef)).asRows), D.slc v8, D.slc (((r7.drop 1).headD .undef).asRows), D.int .i64 ((((r7.drop 1).tail).headD .undef).asInt), D.int .i64 (((((r7.drop 1).tail).tail).headD .undef).asInt)]
        else
          none
      else
        if (((r2.headD .undef).asInt) == 3) = true then
          callB (f79 (((r2.drop 1).headD .undef).asRows) ((((r2.drop 1).tail).headD .undef).asInt) (((((r2.drop 1).tail).tail).headD .undef).asInt) 5) fun r9 =>
          if (lenB ((((r1.tail.headD .undef)).asRows).length + 1) 24) = true then
            let v10 : List (List D) := (((r1.tail.headD .undef)).asRows) ++ ([[D.int .i64 90, D.int .i64 0, D.int .i64 (IntKind.wrap .i64 (97 + ((r9.headD .undef).asInt)))]])
            some [D.slc (((r1.headD .undef)).asRows), D.slc v10, D.slc (((r1.tail.tail.headD .undef)).asRows), D.slc (((r9.drop 1).headD .undef).asRows), D.int .i64 ((((r9.drop 1).tail).headD .undef).asInt), D.int .i64 (((((r9.drop 1).tail).tail).headD .undef).asInt)]
          else
            none
        else
          some [D.slc (((r1.headD .undef)).asRows), D.slc (((r1.tail.headD .undef)).asRows), D.slc (((r1.tail.tail.headD .undef)).asRows), D.slc (((r2.drop 1).headD .undef).asRows), D.int .i64 ((((r2.drop 1).tail).headD .undef).asInt), D.int .i64 (((((r2.drop 1).tail).tail).headD .undef).asInt)]
noncomputable def live100 : Nat → List (Nat × LHint) := fun n => match n with
  | _ => []
noncomputable def env100 : Env := ⟨tys, look [(79, fi79), (175, fi175)], eqs⟩
noncomputable def fi100 : FI := { ps := [.ptr 207 [(.slc 5, 0, 0), (.int .i64, 0, 0), (.int .i64, 0, 0)]], rs := [.val true [(.slc 153, 1), (.slc 63, 1), (.slc 157, 1)]], fresh := false, run := fun ds => f100 ((ds.headD .undef).asRows) ((ds.tail.headD .undef).asInt) ((ds.tail.tail.headD .undef).asInt) }
theorem run100 (ds : List D) : evalFW env100 live100 Try.f100 [.ptr 207 [(.slc 5, 0, 0), (.int .i64, 0, 0), (.int .i64, 0, 0)]] [.val true [(.slc 153, 1), (.slc 63, 1), (.slc 157, 1)]] ds = fi100.run ds := by kernel_rfl
theorem ok100 : FnOk Try.prog tys 100 fi100 :=
  evalF_ok (live := live100) mixed tysOk (E := env100) rfl (envOk (⟨ok79, ⟨ok175, trivial⟩⟩) eqsOk) Try.func100 (c := (Try.f100.body).getD .skip) (by kernel_rfl) (by rw [show Try.f100.name = "loop.example/g00106/spec.l12DrawSource" by kernel_rfl]; decide) (fun ds out h => evalFW_some ((run100 ds).trans h)) (by decide) (by decide) (fun h => by cases h)
/-! ### 112: loop.example/g00106/spec.l13DrawSource -/
noncomputable def f112 (a0 : List (List D)) (a1 : Int) (a2 : Int) : Option (List D) :=
  callB (f78 a0 a1 a2 3) fun r1 =>
  if ((r1.headD .undef).asBool) = true then
    callB (f100 (((r1.drop 1).headD .undef).asRows) ((((r1.drop 1).tail).headD .undef).asInt) (((((r1.drop 1).tail).tail).headD .undef).asInt)) fun r2 =>
    some [D.slc (((r2.headD .undef)).asRows), D.slc (((r2.tail.headD .undef)).asRows), D.slc (((r2.tail.tail.headD .undef)).asRows), D.slc (((r2.drop 3).headD .undef).asRows), D.int .i64 ((((r2.drop 3).tail).headD .undef).asInt), D.int .i64 (((((r2.drop 3).tail).tail).headD .undef).asInt)]
  else
    callB (f79 (((r1.drop 1).headD .undef).asRows) ((((r1.drop 1).tail).headD .undef).asInt) (((((r1.drop 1).tail).tail).headD .undef).asInt) 60) fun r3 =>
    callB (f79 (((r3.drop 1).headD .undef).asRows) ((((r3.drop 1).tail).headD .undef).asInt) (((((r3.drop 1).tail).tail).headD .undef).asInt) 90) fun r4 =>
    let v5 : Int := IntKind.wrap .i64 ((IntKind.wrap .i64 (1960 + ((r3.headD .undef).asInt))) + ((r4.headD .undef).asInt))
    let v6 : List (List D) := ([]) ++ ([[D.int .i64 97, D.int .i64 (IntKind.wrap .i64 (1960 + ((r3.headD .undef).asInt))), D.int .i64 v5, D.int .i64 3, D.int .i64 3, D.int .i64 8, D.int .i64 0, D.int .i64 120, D.int .i64 60]])
    callB (f79 (((r4.drop 1).headD .undef).asRows) ((((r4.drop 1).tail).headD .undef).asInt) (((((r4.drop 1).tail).tail).headD .undef).asInt) 7) fun r7 =>
    let v8 : List (List D) := v6 ++ ([[D.int .i64 97, D.int .i64 (IntKind.wrap .i64 (1960 + ((r3.headD .undef).asInt))), D.int .i64 v5, D.int .i64 11, D.int .i64 2, D.int .i64 0, D.int .i64 ((r7.headD .undef).asInt), D.int .i64 120, D.int .i64 0]])
    callB (f78 (((r7.drop 1).headD .undef).asRows) ((((r7.drop 1).tail).headD .undef).asInt) (((((r7.drop 1).tail).tail).headD .undef).asInt) 3) fun r9 =>
    if ((r9.headD .undef).asBool) = true then
      callB (f79 (((r9.drop 1).headD .undef).asRows) ((((r9.drop 1).tail).headD .undef).asInt) (((((r9.drop 1).tail).tail).headD .undef).asInt) 9) fun r10 =>
      callB (f79 (((r10.drop 1).headD .undef).asRows) ((((r10.drop 1).tail).headD .undef).asInt) (((((r10.drop 1).tail).tail).headD .undef).asInt) 28) fun r11 =>
      callB (f79 (((r11.drop 1).headD .undef).asRows) ((((r11.drop 1).tail).headD .undef).asInt) (((((r11.drop 1).tail).tail).headD .undef).asInt) 1440) fun r12 =>
      callB (f98 (((r12.drop 1).headD .undef).asRows) ((((r12.drop 1).tail).headD .undef).asInt) (((((r12.drop 1).tail).tail).headD .undef).asInt) ([[D.int .i64 0], [D.int .i64 30], [D.int .i64 60]])) fun r13 =>
      let v14 : List (List D) := v8 ++ ([[D.int .i64 97, D.int .i64 1980, D.int .i64 1985, D.int .i64 (IntKind.wrap .i64 (3 + ((r10.headD .undef).asInt))), D.int .i64 1, D.int .i64 (IntKind.wrap .i64 (1 + ((r11.headD .undef).asInt))), D.int .i64 0, D.int .i64 ((r12.headD .undef).asInt), D.int .i64 ((r13.headD .undef).asInt)]])
      callB (f79 (((r13.drop 1).headD .undef).asRows) ((((r13.drop 1).tail).headD .undef).asInt) (((((r13.drop 1).tail).tail).headD .undef).asInt) 24) fun r15 =>
      let v16 : Int := IntKind.wrap .i64 ((IntKind.wrap .i64 (60 * ((r15.headD .undef).asInt))) - 720)
      callB (f79 (((r15.drop 1).headD .undef).asRows) ((((r15.drop 1).tail).headD .undef).asInt) (((((r15.drop 1).tail).tail).headD .undef).asInt) 9) fun r17 =>
      some [D.slc v14, D.slc ([[D.int .i64 65, D.int .i64 v16, D.int .i64 97], [D.int .i64 66, D.int .i64 (IntKind.wrap .i64 (30 * ((r17.headD .undef).asInt))), D.int .i64 0]]), D.slc ([[D.int .i64 84, D.int .i64 65]]), D.slc (((r17.drop 1).headD .undef).asRows), D.int .i64 ((((r17.drop 1).tail).headD .undef).asInt), D.int .i64 (((((r17.drop 1).tail).tail).headD .undef).asInt)]
    else
      callB (f79 (((r9.drop 1).headD .undef).asRows) ((((r9.drop 1).tail).headD .undef).asInt) (((((r9.drop 1).tail).tail).headD .undef).asInt) 24) fun r18 =>
      let v19 : Int := IntKind.wrap .i64 ((IntKind.wrap .i64 (60 * ((r18.headD .undef).asInt))) - 720)
      callB (f79 (((r18.drop 1).headD .undef).asRows) ((((r18.drop 1).tail).headD .undef).asInt) (((((r18.drop 1).tail).tail).headD .undef).asInt) 9) fun r20 =>
      some [D.slc v8, D.slc ([[D.int .i64 65, D.int .i64 v19, D.int .i64 97], [D.int .i64 66, D.int .i64 (IntKind.wrap .i64 (30 * ((r20.headD .undef).asInt))), D.int .i64 0]]), D.slc ([[D.int .i64 84, D.int .i64 65]]), D.slc (((r20.drop 1).headD .undef).asRows), D.int .i64 ((((r20.drop 1).tail).headD .undef).asInt), D.int .i64 (((((r20.drop 1).tail).tail).headD .undef).asInt)]
noncomputable def live112 : Nat → List (Nat × LHint) := fun n => match n with
  | _ => []
noncomputable def env112 : Env := ⟨tys, look [(78, fi78), (79, fi79), (98, fi98), (100, fi100)], eqs⟩
noncomputable def fi112 : FI := { ps := [.ptr 207 [(.slc 5, 0, 0), (.int .i64, 0, 0), (.int .i64, 0, 0)]], rs := [.val true [(.slc 153, 1), (.slc 63, 1), (.slc 157, 1)]], fresh := false, run := fun ds => f112 ((ds.headD .undef).asRows) ((ds.tail.headD .undef).asInt) ((ds.tail.tail.headD .undef).asInt) }
theorem run112 (ds : List D) : evalFW env112 live112 Try.f112 [.ptr 207 [(.slc 5, 0, 0), (.int .i64, 0, 0), (.int .i64, 0, 0)]] [.val true [(.slc 153, 1), (.slc 63, 1), (.slc 157, 1)]] ds = fi112.run ds := by kernel_rfl
theorem ok112 : FnOk Try.prog tys 112 fi112 :=
  evalF_ok (live := live112) mixed tysOk (E := env112) rfl (envOk (⟨ok78, ⟨ok79, ⟨ok98, ⟨ok100, trivial⟩⟩⟩⟩) eqsOk) Try.func112 (c := (Try.f112.body).getD .skip) (by kernel_rfl) (by rw [show Try.f112.name = "loop.example/g00106/spec.l13DrawSource" by kernel_rfl]; decide) (fun ds out h => evalFW_some ((run112 ds).trans h)) (by decide) (by decide) (fun h => by cases h)
/-! ### 93: loop.example/g00106/spec.l13DrawTable -/
noncomputable def b93_10 (a0 : List (List D)) (a1 : Int) (a2 : Int) (a3 : Int) (a4 : List (List D)) (a5 : Int) (a6 : List (List D)) (a7 : Int) : Option (Nat × List D) :=
  callB (f79 a0 a1 a2 2) fun r1 =>
  if (ltI a7 (IntKind.wrap .i64 (300 + ((r1.headD .undef).asInt)))) = true then
    let v2 : Int := IntKind.wrap .i64 ((IntKind.wrap .i64 (a5 + 1)) + (Int.tmod a7 2))
    if (lenB (a6.length + 1) 16) = true then
      let v3 : List (List D) := a6 ++ ([[D.int .i64 (IntKind.wrap .i64 (100 * a7)), D.int .i64 v2]])
      some (0, [D.slc (((r1.drop 1).headD .undef).asRows), D.int .i64 ((((r1.drop 1).tail).headD .undef).asInt), D.int .i64 (((((r1.drop 1).tail).tail).headD .undef).asInt), D.int .i64 a3, D.slc a4, D.int .i64 a5, D.slc v3, D.int .i64 (IntKind.wrap .i64 (a7 + 1))])
    else
      none
  else
    some (3, [D.slc (((r1.drop 1).headD .undef).asRows), D.int .i64 ((((r1.drop 1).tail).headD .undef).asInt), D.int .i64 (((((r1.drop 1).tail).tail).headD .undef).asInt), D.int .i64 a3, D.slc a4, D.int .i64 a5, D.slc a6, D.int .i64 a7])
noncomputable def B93_10 : Step := fun ds => b93_10 ((ds.headD .undef).asRows) ((ds.tail.headD .undef).asInt) ((ds.tail.tail.headD .undef).asInt) (((ds.drop 3).headD .undef).asInt) ((((ds.drop 3).tail).headD .undef).asRows) ((((ds.drop 3).drop 2).headD .undef).asInt) (((((ds.drop 3).drop 2).tail).headD .undef).asRows) (((((ds.drop 3).drop 2).drop 2).headD .undef).asInt)
noncomputable def f93 (a0 : List (List D)) (a1 : Int) (a2 : Int) : Option (List D) :=
  callB (f112 a0 a1 a2) fun r1 =>
  callB (f98 (((r1.drop 3).headD .undef).asRows) ((((r1.drop 3).tail).headD .undef).asInt) (((((r1.drop 3).tail).tail).headD .undef).asInt) ([[D.int .i64 65], [D.int .i64 84], [D.int .i64 66]])) fun r2 =>
  callB (f37 (((r1.headD .undef)).asRows) (((r1.tail.headD .undef)).asRows) (((r1.tail.tail.headD .undef)).asRows) ((r2.headD .undef).asInt)) fun r3 =>
  callB (f79 (((r2.drop 1).headD .undef).asRows) ((((r2.drop 1).tail).headD .undef).asInt) (((((r2.drop 1).tail).tail).headD .undef).asInt) 20) fun r4 =>
  if (((r4.headD .undef).asInt) == 0) = true then
    callB (f98 (((r4.drop 1).headD .undef).asRows) ((((r4.drop 1).tail).headD .undef).asInt) (((((r4.drop 1).tail).tail).headD .undef).asInt) ([[D.int .i64 (-2000)], [D.int .i64 (-2001)], [D.int .i64 2001]])) fun r5 =>
    some [D.int .i64 ((r5.headD .undef).asInt), D.slc (((r3.tail.headD .undef)).asRows), D.slc (((r5.drop 1).headD .undef).asRows), D.int .i64 ((((r5.drop 1).tail).headD .undef).asInt), D.int .i64 (((((r5.drop 1).tail).tail).headD .undef).asInt)]
  else
    if (((r4.headD .undef).asInt) == 1) = true then
      callB (f79 (((r4.drop 1).headD .undef).asRows) ((((r4.drop 1).tail).headD .undef).asInt) (((((r4.drop 1).tail).tail).headD .undef).asInt) 9) fun r6 =>
      callB (f79 (((r6.drop 1).headD .undef).asRows) ((((r6.drop 1).tail).headD .undef).asInt) (((((r6.drop 1).tail).tail).headD .undef).asInt) 9) fun r7 =>
      if (lenB ((((r3.tail.headD .undef)).asRows).length + 1) 16) = true then
        let v8 : List (List D) := (((r3.tail.headD .undef)).asRows) ++ ([[D.int .i64 ((r6.headD .undef).asInt), D.int .i64 ((r7.headD .undef).asInt)]])
        some [D.int .i64 ((r3.headD .undef).asInt), D.slc v8, D.slc (((r7.drop 1).headD .undef).asRows), D.int .i64 ((((r7.drop 1).tail).headD .undef).asInt), D.int .i64 (((((r7.drop 1).tail).tail).headD .undef).asInt)]
      else
        none
    else
      if (((r4.headD .undef).asInt) == 2) = true then
        getB (whileW B93_10 [D.slc (((r4.drop 1).headD .undef).asRows), D.int .i64 ((((r4.drop 1).tail).headD .undef).asInt), D.int .i64 (((((r4.drop 1).tail).tail).headD .undef).asInt), D.int .i64 0, D.slc ([]), D.int .i64 ((r3.headD .undef).asInt), D.slc ([]), D.int .i64 0]) fun x9 =>
        if (Nat.beq x9.1 3) = true then
          some [D.int .i64 ((((x9.2.drop 3).drop 2).headD .undef).asInt), D.slc ((((((x9.2.drop 3).drop 2).tail).headD .undef)).asRows), D.slc ((x9.2.headD .undef).asRows), D.int .i64 ((x9.2.tail.headD .undef).asInt), D.int .i64 ((x9.2.tail.tail.headD .undef).asInt)]
        else
          if (Nat.beq x9.1 1) = true then
            some x9.2
          else
            none
      else
        if (((r4.headD .undef).asInt) == 3) = true then
          callB (f79 (((r4.drop 1).headD .undef).asRows) ((((r4.drop 1).tail).headD .undef).asInt) (((((r4.drop 1).tail).tail).headD .undef).asInt) 2) fun r10 =>
          let v11 : Int := IntKind.wrap .i64 ((-1000000000) + ((r10.headD .undef).asInt))
          callB (f79 (((r10.drop 1).headD .undef).asRows) ((((r10.drop 1).tail).headD .undef).asInt) (((((r10.drop 1).tail).tail).headD .undef).asInt) 2) fun r12 =>
          callB (f79 (((r12.drop 1).headD .undef).asRows) ((((r12.drop 1).tail).headD .undef).asInt) (((((r12.drop 1).tail).tail).headD .undef).asInt) 2) fun r13 =>
          some [D.int .i64 ((r3.headD .undef).asInt), D.slc ([[D.int .i64 (IntKind.wrap .i64 (v11 - ((r12.headD .undef).asInt))), D.int .i64 0], [D.int .i64 (IntKind.wrap .i64 (1000000000 + ((r13.headD .undef).asInt))), D.int .i64 1]]), D.slc (((r13.drop 1).headD .undef).asRows), D.int .i64 ((((r13.drop 1).tail).headD .undef).asInt), D.int .i64 (((((r13.drop 1).tail).tail).headD .undef).asInt)]
        else
          some [D.int .i64 ((r3.headD .undef).asInt), D.slc (((r3.tail.headD .undef)).asRows), D.slc (((r4.drop 1).headD .undef).asRows), D.int .i64 ((((r4.drop 1).tail).headD .undef).asInt), D.int .i64 (((((r4.drop 1).tail).tail).headD .undef).asInt)]
noncomputable def live93 : Nat → List (Nat × LHint) := fun n => match n with
  | 10 => [(0, .auto [.ptr 207]), (2, .auto []), (3, .auto []), (5, .auto [.int .i64])]
  | _ => []
noncomputable def env93 : Env := ⟨tys, look [(37, fi37), (79, fi79), (98, fi98), (112, fi112)], eqs⟩
noncomputable def fi93 : FI := { ps := [.ptr 207 [(.slc 5, 0, 0), (.int .i64, 0, 0), (.int .i64, 0, 0)]], rs := [.val true [(.int .i64, 0), (.slc 71, 1)]], fresh := false, run := fun ds => f93 ((ds.headD .undef).asRows) ((ds.tail.headD .undef).asInt) ((ds.tail.tail.headD .undef).asInt) }
theorem run93 (ds : List D) : evalFW env93 live93 Try.f93 [.ptr 207 [(.slc 5, 0, 0), (.int .i64, 0, 0), (.int .i64, 0, 0)]] [.val true [(.int .i64, 0), (.slc 71, 1)]] ds = fi93.run ds := by kernel_rfl
theorem ok93 : FnOk Try.prog tys 93 fi93 :=
  evalF_ok (live := live93) mixed tysOk (E := env93) rfl (envOk (⟨ok37, ⟨ok79, ⟨ok98, ⟨ok112, trivial⟩⟩⟩⟩) eqsOk) Try.func93 (c := (Try.f93.body).getD .skip) (by kernel_rfl) (by rw [show Try.f93.name = "loop.example/g00106/spec.l13DrawTable" by kernel_rfl]; decide) (fun ds out h => evalFW_some ((run93 ds).trans h)) (by decide) (by decide) (fun h => by cases h)
/-! ### 25: loop.example/g00106/spec.DrawTablePack -/
noncomputable def f25 (a0 : List (List D)) : Option (List D) :=
  callB (f75 a0) fun r1 =>
  callB (f93 ((((r1.headD .undef).asRow ++ r1.tail).headD .undef).asRows) (((((r1.headD .undef).asRow ++ r1.tail).tail).headD .undef).asInt) ((((((r1.headD .undef).asRow ++ r1.tail).tail).tail).headD .undef).asInt)) fun r2 =>
  some [D.int .i64 ((r2.headD .undef).asInt), D.slc (((r2.tail.headD .undef)).asRows)]
noncomputable def live25 : Nat → List (Nat × LHint) := fun n => match n with
  | _ => []
noncomputable def env25 : Env := ⟨tys, look [(75, fi75), (93, fi93)], eqs⟩
noncomputable def fi25 : FI := { ps := [.val false [(.slc 5, 0)]], rs := [.val true [(.int .i64, 0), (.slc 71, 1)]], fresh := true, run := fun ds => f25 ((ds.headD .undef).asRows) }
theorem run25 (ds : List D) : evalFW env25 live25 Try.f25 [.val false [(.slc 5, 0)]] [.val true [(.int .i64, 0), (.slc 71, 1)]] ds = fi25.run ds := by kernel_rfl
theorem ok25 : FnOk Try.prog tys 25 fi25 :=
  evalF_ok (live := live25) mixed tysOk (E := env25) rfl (envOk (⟨ok75, ⟨ok93, trivial⟩⟩) eqsOk) Try.func25 (c := (Try.f25.body).getD .skip) (by kernel_rfl) (by rw [show Try.f25.name = "loop.example/g00106/spec.DrawTablePack" by kernel_rfl]; decide) (fun ds out h => evalFW_some ((run25 ds).trans h)) (by decide) (by decide) (fun _ => by kernel_rfl)
/-! ### 116: loop.example/g00106/impl.within -/
noncomputable def f116 (a0 : Int) (a1 : Int) (a2 : Int) : Option (List D) :=
  if (leI a1 a0) = true then
    some [D.bool (leI a0 a2)]
  else
    some [D.bool false]
noncomputable def live116 : Nat → List (Nat × LHint) := fun n => match n with
  | _ => []
noncomputable def env116 : Env := ⟨tys, look [], eqs⟩
noncomputable def fi116 : FI := { ps := [.val false [(.int .i64, 0)], .val false [(.int .i64, 0)], .val false [(.int .i64, 0)]], rs := [.val false [(.bool, 0)]], fresh := true, run := fun ds => f116 ((ds.headD .undef).asInt) (((ds.drop 1).headD .undef).asInt) ((((ds.drop 1).drop 1).headD .undef).asInt) }
theorem run116 (ds : List D) : evalFW env116 live116 Try.f116 [.val false [(.int .i64, 0)], .val false [(.int .i64, 0)], .val false [(.int .i64, 0)]] [.val false [(.bool, 0)]] ds = fi116.run ds := by kernel_rfl
theorem ok116 : FnOk Try.prog tys 116 fi116 :=
  evalF_ok (live := live116) mixed tysOk (E := env116) rfl (envOk (trivial) eqsOk) Try.func116 (c := (Try.f116.body).getD .skip) (by kernel_rfl) (by rw [show Try.f116.name = "loop.example/g00106/impl.within" by kernel_rfl]; decide) (fun ds out h => evalFW_some ((run116 ds).trans h)) (by decide) (by decide) (fun _ => by kernel_rfl)
/-! ### 113: loop.example/g00106/impl.isMinute -/
noncomputable def f113 (a0 : Int) : Option (List D) :=
  callB (f116 a0 (-1000000000) 1000000000) fun r1 =>
  some [D.bool ((r1.headD .undef).asBool)]
noncomputable def live113 : Nat → List (Nat × LHint) := fun n => match n with
  | _ => []
noncomputable def env113 : Env := ⟨tys, look [(116, fi116)], eqs⟩
noncomputable def fi113 : FI := { ps := [.val false [(.int .i64, 0)]], rs := [.val false [(.bool, 0)]], fresh := true, run := fun ds => f113 ((ds.headD .undef).asInt) }
theorem run113 (ds : List D) : evalFW env113 live113 Try.f113 [.val false [(.int .i64, 0)]] [.val false [(.bool, 0)]] ds = fi113.run ds := by kernel_rfl
theorem ok113 : FnOk Try.prog tys 113 fi113 :=
  evalF_ok (live := live113) mixed tysOk (E := env113) rfl (envOk (⟨ok116, trivial⟩) eqsOk) Try.func113 (c := (Try.f113.body).getD .skip) (by kernel_rfl) (by rw [show Try.f113.name = "loop.example/g00106/impl.isMinute" by kernel_rfl]; decide) (fun ds out h => evalFW_some ((run113 ds).trans h)) (by decide) (by decide) (fun _ => by kernel_rfl)
/-! ### 114: loop.example/g00106/impl.isOff -/
noncomputable def f114 (a0 : Int) : Option (List D) :=
  callB (f116 a0 (-2000) 2000) fun r1 =>
  some [D.bool ((r1.headD .undef).asBool)]
noncomputable def live114 : Nat → List (Nat × LHint) := fun n => match n with
  | _ => []
noncomputable def env114 : Env := ⟨tys, look [(116, fi116)], eqs⟩
noncomputable def fi114 : FI := { ps := [.val false [(.int .i64, 0)]], rs := [.val false [(.bool, 0)]], fresh := true, run := fun ds => f114 ((ds.headD .undef).asInt) }
theorem run114 (ds : List D) : evalFW env114 live114 Try.f114 [.val false [(.int .i64, 0)]] [.val false [(.bool, 0)]] ds = fi114.run ds := by kernel_rfl
theorem ok114 : FnOk Try.prog tys 114 fi114 :=
  evalF_ok (live := live114) mixed tysOk (E := env114) rfl (envOk (⟨ok116, trivial⟩) eqsOk) Try.func114 (c := (Try.f114.body).getD .skip) (by kernel_rfl) (by rw [show Try.f114.name = "loop.example/g00106/impl.isOff" by kernel_rfl]; decide) (fun ds out h => evalFW_some ((run114 ds).trans h)) (by decide) (by decide) (fun _ => by kernel_rfl)
/-! ### 41: loop.example/g00106/impl.TableOk -/
noncomputable def b41_3 (a0 : Int) (a1 : List (List D)) (a2 : Int) (a3 : List (List D)) (a4 : Int) (a5 : Int) : Option (Nat × List D) :=
  if (ltI a5 a4) = true then
    if (leI 0 a5 && ltI a5 ((a3.length : Int))) = true then
      callB (f113 (rI (a3.getD a5.toNat []) 0)) fun r1 =>
      if (!((r1.headD .undef).asBool)) = true then
        some (1, [D.bool false])
      else
        if (ltI 0 a5) = true then
          if (leI 0 (IntKind.wrap .i64 (a5 - 1)) && ltI (IntKind.wrap .i64 (a5 - 1)) ((a1.length : Int))) = true then
            let v2 : Bool := leI (rI (a3.getD a5.toNat []) 0) (rI (a1.getD ((IntKind.wrap .i64 (a5 - 1)).toNat) []) 0)
            if v2 = true then
              some (1, [D.bool false])
            else
              callB (f114 (rI (a3.getD a5.toNat []) 1)) fun r3 =>
              if (!((r3.headD .undef).asBool)) = true then
                some (1, [D.bool false])
              else
                if ((rI (a3.getD a5.toNat []) 1) == a2) = true then
                  some (1, [D.bool false])
                else
                  some (0, [D.int .i64 a0, D.slc a1, D.int .i64 (rI (a3.getD a5.toNat []) 1), D.slc a3, D.int .i64 a4, D.int .i64 (IntKind.wrap .i64 (a5 + 1))])
          else
            none
        else
          callB (f114 (rI (a3.getD a5.toNat []) 1)) fun r4 =>
          if (!((r4.headD .undef).asBool)) = true then
            some (1, [D.bool false])
          else
            if ((rI (a3.getD a5.toNat []) 1) == a2) = true then
              some (1, [D.bool false])
            else
              some (0, [D.int .i64 a0, D.slc a1, D.int .i64 (rI (a3.getD a5.toNat []) 1), D.slc a3, D.int .i64 a4, D.int .i64 (IntKind.wrap .i64 (a5 + 1))])
    else
      none
  else
    some (2, [D.int .i64 a0, D.slc a1, D.int .i64 a2, D.slc a3, D.int .i64 a4, D.int .i64 a5])
noncomputable def B41_3 : Step := fun ds => b41_3 ((ds.headD .undef).asInt) ((ds.tail.headD .undef).asRows) (((ds.drop 2).headD .undef).asInt) ((((ds.drop 2).drop 1).headD .undef).asRows) (((((ds.drop 2).drop 1).drop 1).headD .undef).asInt) ((((((ds.drop 2).drop 1).drop 1).drop 1).headD .undef).asInt)
noncomputable def f41 (a0 : Int) (a1 : List (List D)) : Option (List D) :=
  getB (whileW B41_3 [D.int .i64 a0, D.slc a1, D.int .i64 a0, D.slc a1, D.int .i64 ((a1.length : Int)), D.int .i64 0]) fun x1 =>
  if (Nat.beq x1.1 2) = true then
    callB (f114 ((x1.2.headD .undef).asInt)) fun r2 =>
    if ((r2.headD .undef).asBool) = true then
      some [D.bool (leI ((((x1.2.tail.headD .undef).asRows).length : Int)) 300)]
    else
      some [D.bool false]
  else
    if (Nat.beq x1.1 1) = true then
      some x1.2
    else
      none
noncomputable def live41 : Nat → List (Nat × LHint) := fun n => match n with
  | 3 => [(1, .auto []), (3, .auto [.int .i64]), (9, .auto [.slc 71]), (10, .auto [.int .i64]), (11, .auto [.int .i64])]
  | _ => []
noncomputable def env41 : Env := ⟨tys, look [(113, fi113), (114, fi114)], eqs⟩
noncomputable def fi41 : FI := { ps := [.val true [(.int .i64, 0), (.slc 71, 0)]], rs := [.val false [(.bool, 0)]], fresh := true, run := fun ds => f41 ((ds.headD .undef).asInt) ((ds.tail.headD .undef).asRows) }
theorem run41 (ds : List D) : evalFW env41 live41 Try.f41 [.val true [(.int .i64, 0), (.slc 71, 0)]] [.val false [(.bool, 0)]] ds = fi41.run ds := by kernel_rfl
theorem ok41 : FnOk Try.prog tys 41 fi41 :=
  evalF_ok (live := live41) mixed tysOk (E := env41) rfl (envOk (⟨ok113, ⟨ok114, trivial⟩⟩) eqsOk) Try.func41 (c := (Try.f41.body).getD .skip) (by kernel_rfl) (by rw [show Try.f41.name = "loop.example/g00106/impl.TableOk" by kernel_rfl]; decide) (fun ds out h => evalFW_some ((run41 ds).trans h)) (by decide) (by decide) (fun _ => by kernel_rfl)
/-! ### 172: loop.example/g00106/impl.PutNum -/
noncomputable def b172_4 (a0 : Int) (a1 : List (List D)) : Option (Nat × List D) :=
  if (ltI 127 a0) = true then
    if (lenB (a1.length + 1) 1) = true then
      let v1 : List (List D) := a1 ++ ([[D.int .u8 (IntKind.wrap .u8 (bor .i64 (band .i64 a0 127) 128))]])
      some (0, [D.int .i64 (a0.fdiv (2 ^ 7)), D.slc v1])
    else
      none
  else
    some (2, [D.int .i64 a0, D.slc a1])
noncomputable def B172_4 : Step := fun ds => b172_4 ((ds.headD .undef).asInt) (((ds.drop 1).headD .undef).asRows)
noncomputable def f172 (a0 : Int) : Option (List D) :=
  if (ltI a0 0) = true then
    some [D.slc ([])]
  else
    getB (whileW B172_4 [D.int .i64 a0, D.slc ([])]) fun x1 =>
    if (Nat.beq x1.1 2) = true then
      if (lenB (((((x1.2.drop 1).headD .undef)).asRows).length + 1) 1) = true then
        let v2 : List (List D) := ((((x1.2.drop 1).headD .undef)).asRows) ++ ([[D.int .u8 (IntKind.wrap .u8 ((x1.2.headD .undef).asInt))]])
        some [D.slc v2]
      else
        none
    else
      if (Nat.beq x1.1 1) = true then
        some x1.2
      else
        none
noncomputable def live172 : Nat → List (Nat × LHint) := fun n => match n with
  | 4 => [(0, .auto [.int .i64]), (3, .auto [.slc 5])]
  | _ => []
noncomputable def env172 : Env := ⟨tys, look [], eqs⟩
noncomputable def fi172 : FI := { ps := [.val false [(.int .i64, 0)]], rs := [.val false [(.slc 5, 1)]], fresh := true, run := fun ds => f172 ((ds.headD .undef).asInt) }
theorem run172 (ds : List D) : evalFW env172 live172 Try.f172 [.val false [(.int .i64, 0)]] [.val false [(.slc 5, 1)]] ds = fi172.run ds := by kernel_rfl
theorem ok172 : FnOk Try.prog tys 172 fi172 :=
  evalF_ok (live := live172) mixed tysOk (E := env172) rfl (envOk (trivial) eqsOk) Try.func172 (c := (Try.f172.body).getD .skip) (by kernel_rfl) (by rw [show Try.f172.name = "loop.example/g00106/impl.PutNum" by kernel_rfl]; decide) (fun ds out h => evalFW_some ((run172 ds).trans h)) (by decide) (by decide) (fun _ => by kernel_rfl)
/-! ### 94: loop.example/g00106/impl.putNums -/
noncomputable def b94_3 (a0 : List (List D)) (a1 : List (List D)) (a2 : Int) (a3 : Int) : Option (Nat × List D) :=
  if (ltI a3 a2) = true then
    if (leI 0 a3 && ltI a3 ((a1.length : Int))) = true then
      callB (f172 (rI (a1.getD a3.toNat []) 0)) fun r1 =>
      if (lenB (a0.length + (((r1.headD .undef)).asRows).length) 1) = true then
        some (0, [D.slc (a0 ++ (((r1.headD .undef)).asRows)), D.slc a1, D.int .i64 a2, D.int .i64 (IntKind.wrap .i64 (a3 + 1))])
      else
        none
    else
      none
  else
    some (2, [D.slc a0, D.slc a1, D.int .i64 a2, D.int .i64 a3])
noncomputable def B94_3 : Step := fun ds => b94_3 ((ds.headD .undef).asRows) (((ds.drop 1).headD .undef).asRows) ((((ds.drop 1).drop 1).headD .undef).asInt) (((((ds.drop 1).drop 1).drop 1).headD .undef).asInt)
noncomputable def f94 (a0 : List (List D)) : Option (List D) :=
  getB (whileW B94_3 [D.slc ([]), D.slc a0, D.int .i64 ((a0.length : Int)), D.int .i64 0]) fun x1 =>
  if (Nat.beq x1.1 2) = true then
    some [D.slc (((x1.2.headD .undef)).asRows)]
  else
    if (Nat.beq x1.1 1) = true then
      some x1.2
    else
      none
noncomputable def live94 : Nat → List (Nat × LHint) := fun n => match n with
  | 3 => [(3, .auto [.slc 5]), (7, .auto [.slc 3]), (8, .auto [.int .i64]), (9, .auto [.int .i64])]
  | _ => []
noncomputable def env94 : Env := ⟨tys, look [(172, fi172)], eqs⟩
noncomputable def fi94 : FI := { ps := [.val false [(.slc 3, 0)]], rs := [.val false [(.slc 5, 1)]], fresh := true, run := fun ds => f94 ((ds.headD .undef).asRows) }
theorem run94 (ds : List D) : evalFW env94 live94 Try.f94 [.val false [(.slc 3, 0)]] [.val false [(.slc 5, 1)]] ds = fi94.run ds := by kernel_rfl
theorem ok94 : FnOk Try.prog tys 94 fi94 :=
  evalF_ok (live := live94) mixed tysOk (E := env94) rfl (envOk (⟨ok172, trivial⟩) eqsOk) Try.func94 (c := (Try.f94.body).getD .skip) (by kernel_rfl) (by rw [show Try.f94.name = "loop.example/g00106/impl.putNums" by kernel_rfl]; decide) (fun ds out h => evalFW_some ((run94 ds).trans h)) (by decide) (by decide) (fun _ => by kernel_rfl)
/-! ### 26: loop.example/g00106/impl.TablePack -/
noncomputable def b26_6 (a0 : List (List D)) (a1 : Int) (a2 : List (List D)) (a3 : Int) (a4 : Int) : Option (Nat × List D) :=
  if (ltI a4 a3) = true then
    if (leI 0 a4 && ltI a4 ((a2.length : Int))) = true then
      callB (f94 ([[D.int .i64 (IntKind.wrap .i64 ((rI (a2.getD a4.toNat []) 0) - a1))], [D.int .i64 (IntKind.wrap .i64 ((rI (a2.getD a4.toNat []) 1) + 2000))]])) fun r1 =>
      if (lenB (a0.length + (((r1.headD .undef)).asRows).length) 1) = true then
        some (0, [D.slc (a0 ++ (((r1.headD .undef)).asRows)), D.int .i64 (rI (a2.getD a4.toNat []) 0), D.slc a2, D.int .i64 a3, D.int .i64 (IntKind.wrap .i64 (a4 + 1))])
      else
        none
    else
      none
  else
    some (2, [D.slc a0, D.int .i64 a1, D.slc a2, D.int .i64 a3, D.int .i64 a4])
noncomputable def B26_6 : Step := fun ds => b26_6 ((ds.headD .undef).asRows) (((ds.drop 1).headD .undef).asInt) ((((ds.drop 1).drop 1).headD .undef).asRows) (((((ds.drop 1).drop 1).drop 1).headD .undef).asInt) ((((((ds.drop 1).drop 1).drop 1).drop 1).headD .undef).asInt)
noncomputable def f26 (a0 : Int) (a1 : List (List D)) : Option (List D) :=
  callB (f41 a0 a1) fun r1 =>
  if (!((r1.headD .undef).asBool)) = true then
    some [D.slc ([]), D.bool false]
  else
    callB (f94 ([[D.int .i64 (IntKind.wrap .i64 (a0 + 2000))], [D.int .i64 ((a1.length : Int))]])) fun r2 =>
    getB (whileW B26_6 [D.slc (((r2.headD .undef)).asRows), D.int .i64 (-1000000000), D.slc a1, D.int .i64 ((a1.length : Int)), D.int .i64 0]) fun x3 =>
    if (Nat.beq x3.1 2) = true then
      some [D.slc (((x3.2.headD .undef)).asRows), D.bool true]
    else
      if (Nat.beq x3.1 1) = true then
        some x3.2
      else
        none
noncomputable def live26 : Nat → List (Nat × LHint) := fun n => match n with
  | 6 => [(4, .auto [.slc 5]), (5, .auto [.int .i64]), (20, .auto [.slc 71]), (21, .auto [.int .i64]), (22, .auto [.int .i64])]
  | _ => []
noncomputable def env26 : Env := ⟨tys, look [(41, fi41), (94, fi94)], eqs⟩
noncomputable def fi26 : FI := { ps := [.val true [(.int .i64, 0), (.slc 71, 0)]], rs := [.val false [(.slc 5, 1)], .val false [(.bool, 0)]], fresh := true, run := fun ds => f26 ((ds.headD .undef).asInt) ((ds.tail.headD .undef).asRows) }
theorem run26 (ds : List D) : evalFW env26 live26 Try.f26 [.val true [(.int .i64, 0), (.slc 71, 0)]] [.val false [(.slc 5, 1)], .val false [(.bool, 0)]] ds = fi26.run ds := by kernel_rfl
theorem ok26 : FnOk Try.prog tys 26 fi26 :=
  evalF_ok (live := live26) mixed tysOk (E := env26) rfl (envOk (⟨ok41, ⟨ok94, trivial⟩⟩) eqsOk) Try.func26 (c := (Try.f26.body).getD .skip) (by kernel_rfl) (by rw [show Try.f26.name = "loop.example/g00106/impl.TablePack" by kernel_rfl]; decide) (fun ds out h => evalFW_some ((run26 ds).trans h)) (by decide) (by decide) (fun _ => by kernel_rfl)
/-! ### 173: loop.example/g00106/impl.GetNum -/
noncomputable def b173_5 (a0 : List (List D)) (a1 : Int) (a2 : Int) (a3 : Int) : Option (Nat × List D) :=
  if (ltI a3 9) = true then
    if (ltI a3 (IntKind.wrap .i64 (((a0.length : Int)) - a1))) = true then
      if (leI 0 (IntKind.wrap .i64 (a1 + a3)) && ltI (IntKind.wrap .i64 (a1 + a3)) ((a0.length : Int))) = true then
        let v1 : Int := IntKind.wrap .i64 (rI (a0.getD ((IntKind.wrap .i64 (a1 + a3)).toNat) []) 0)
        if (leI 0 (IntKind.wrap .i64 (7 * a3))) = true then
          let v2 : Int := IntKind.wrap .i64 ((band .i64 v1 127) * 2 ^ (min (IntKind.wrap .i64 (7 * a3)).toNat 64))
          if (ltI 127 v1) = true then
            some (0, [D.slc a0, D.int .i64 a1, D.int .i64 (bor .i64 a2 v2), D.int .i64 (IntKind.wrap .i64 (a3 + 1))])
          else
            if (ltI 0 a3) = true then
              if (v1 == 0) = true then
                some (1, [D.int .i64 0, D.int .i64 0, D.bool false])
              else
                some (1, [D.int .i64 (bor .i64 a2 v2), D.int .i64 (IntKind.wrap .i64 ((IntKind.wrap .i64 (a1 + a3)) + 1)), D.bool true])
            else
              some (1, [D.int .i64 (bor .i64 a2 v2), D.int .i64 (IntKind.wrap .i64 ((IntKind.wrap .i64 (a1 + a3)) + 1)), D.bool true])
        else
          none
      else
        none
    else
      some (2, [D.slc a0, D.int .i64 a1, D.int .i64 a2, D.int .i64 a3])
  else
    some (2, [D.slc a0, D.int .i64 a1, D.int .i64 a2, D.int .i64 a3])
noncomputable def B173_5 : Step := fun ds => b173_5 ((ds.headD .undef).asRows) (((ds.drop 1).headD .undef).asInt) ((((ds.drop 1).drop 1).headD .undef).asInt) (((((ds.drop 1).drop 1).drop 1).headD .undef).asInt)
noncomputable def f173 (a0 : List (List D)) (a1 : Int) : Option (List D) :=
  if (ltI a1 0) = true then
    some [D.int .i64 0, D.int .i64 0, D.bool false]
  else
    getB (whileW B173_5 [D.slc a0, D.int .i64 a1, D.int .i64 0, D.int .i64 0]) fun x1 =>
    if (Nat.beq x1.1 2) = true then
      some [D.int .i64 0, D.int .i64 0, D.bool false]
    else
      if (Nat.beq x1.1 1) = true then
        some x1.2
      else
        none
noncomputable def live173 : Nat → List (Nat × LHint) := fun n => match n with
  | 5 => [(0, .auto [.slc 5]), (1, .auto [.int .i64]), (7, .auto [.int .i64]), (8, .auto [.int .i64])]
  | _ => []
noncomputable def env173 : Env := ⟨tys, look [], eqs⟩
noncomputable def fi173 : FI := { ps := [.val false [(.slc 5, 0)], .val false [(.int .i64, 0)]], rs := [.val false [(.int .i64, 0)], .val false [(.int .i64, 0)], .val false [(.bool, 0)]], fresh := true, run := fun ds => f173 ((ds.headD .undef).asRows) (((ds.drop 1).headD .undef).asInt) }
theorem run173 (ds : List D) : evalFW env173 live173 Try.f173 [.val false [(.slc 5, 0)], .val false [(.int .i64, 0)]] [.val false [(.int .i64, 0)], .val false [(.int .i64, 0)], .val false [(.bool, 0)]] ds = fi173.run ds := by kernel_rfl
theorem ok173 : FnOk Try.prog tys 173 fi173 :=
  evalF_ok (live := live173) mixed tysOk (E := env173) rfl (envOk (trivial) eqsOk) Try.func173 (c := (Try.f173.body).getD .skip) (by kernel_rfl) (by rw [show Try.f173.name = "loop.example/g00106/impl.GetNum" by kernel_rfl]; decide) (fun ds out h => evalFW_some ((run173 ds).trans h)) (by decide) (by decide) (fun _ => by kernel_rfl)
/-! ### 95: (*loop.example/g00106/impl.reader).num -/
noncomputable def f95 (a0 : List (List D)) (a1 : Int) (a2 : Bool) : Option (List D) :=
  callB (f173 a0 a1) fun r1 =>
  if a2 = true then
    some [D.int .i64 0, D.slc a0, D.int .i64 a1, D.bool true]
  else
    if (!((r1.tail.tail.headD .undef).asBool)) = true then
      some [D.int .i64 0, D.slc a0, D.int .i64 a1, D.bool true]
    else
      some [D.int .i64 ((r1.headD .undef).asInt), D.slc a0, D.int .i64 ((r1.tail.headD .undef).asInt), D.bool a2]
noncomputable def live95 : Nat → List (Nat × LHint) := fun n => match n with
  | _ => []
noncomputable def env95 : Env := ⟨tys, look [(173, fi173)], eqs⟩
noncomputable def fi95 : FI := { ps := [.ptr 142 [(.slc 5, 0, 0), (.int .i64, 0, 0), (.bool, 0, 0)]], rs := [.val false [(.int .i64, 0)]], fresh := false, run := fun ds => f95 ((ds.headD .undef).asRows) ((ds.tail.headD .undef).asInt) ((ds.tail.tail.headD .undef).asBool) }
theorem run95 (ds : List D) : evalFW env95 live95 Try.f95 [.ptr 142 [(.slc 5, 0, 0), (.int .i64, 0, 0), (.bool, 0, 0)]] [.val false [(.int .i64, 0)]] ds = fi95.run ds := by kernel_rfl
theorem ok95 : FnOk Try.prog tys 95 fi95 :=
  evalF_ok (live := live95) mixed tysOk (E := env95) rfl (envOk (⟨ok173, trivial⟩) eqsOk) Try.func95 (c := (Try.f95.body).getD .skip) (by kernel_rfl) (by rw [show Try.f95.name = "(*loop.example/g00106/impl.reader).num" by kernel_rfl]; decide) (fun ds out h => evalFW_some ((run95 ds).trans h)) (by decide) (by decide) (fun h => by cases h)
/-! ### 96: (*loop.example/g00106/impl.reader).done -/
noncomputable def f96 (a0 : List (List D)) (a1 : Int) (a2 : Bool) : Option (List D) :=
  if (!a2) = true then
    some [D.bool (a1 == ((a0.length : Int))), D.slc a0, D.int .i64 a1, D.bool a2]
  else
    some [D.bool false, D.slc a0, D.int .i64 a1, D.bool a2]
noncomputable def live96 : Nat → List (Nat × LHint) := fun n => match n with
  | _ => []
noncomputable def env96 : Env := ⟨tys, look [], eqs⟩
noncomputable def fi96 : FI := { ps := [.ptr 142 [(.slc 5, 0, 0), (.int .i64, 0, 0), (.bool, 0, 0)]], rs := [.val false [(.bool, 0)]], fresh := false, run := fun ds => f96 ((ds.headD .undef).asRows) ((ds.tail.headD .undef).asInt) ((ds.tail.tail.headD .undef).asBool) }
theorem run96 (ds : List D) : evalFW env96 live96 Try.f96 [.ptr 142 [(.slc 5, 0, 0), (.int .i64, 0, 0), (.bool, 0, 0)]] [.val false [(.bool, 0)]] ds = fi96.run ds := by kernel_rfl
theorem ok96 : FnOk Try.prog tys 96 fi96 :=
  evalF_ok (live := live96) mixed tysOk (E := env96) rfl (envOk (trivial) eqsOk) Try.func96 (c := (Try.f96.body).getD .skip) (by kernel_rfl) (by rw [show Try.f96.name = "(*loop.example/g00106/impl.reader).done" by kernel_rfl]; decide) (fun ds out h => evalFW_some ((run96 ds).trans h)) (by decide) (by decide) (fun h => by cases h)
/-! ### 28: loop.example/g00106/impl.TableRead -/
noncomputable def b28_9 (a0 : Int) (a1 : List (List D)) (a2 : List (List D)) (a3 : Int) (a4 : Bool) (a5 : Int) (a6 : List (List D)) (a7 : Int) (a8 : Int) (a9 : Int) : Option (Nat × List D) :=
  if (ltI a9 a7) = true then
    if (!a4) = true then
      callB (f95 a2 a3 a4) fun r1 =>
      let v2 : Int := IntKind.wrap .i64 (a8 + (minI ((r1.headD .undef).asInt) 3000000000))
      callB (f95 (((r1.drop 1).headD .undef).asRows) ((((r1.drop 1).tail).headD .undef).asInt) (((((r1.drop 1).tail).tail).headD .undef).asBool)) fun r3 =>
      if (lenB (a6.length + 1) 16) = true then
        let v4 : List (List D) := a6 ++ ([[D.int .i64 v2, D.int .i64 (IntKind.wrap .i64 (((r3.headD .undef).asInt) - 2000))]])
        some (0, [D.int .i64 a0, D.slc a1, D.slc (((r3.drop 1).headD .undef).asRows), D.int .i64 ((((r3.drop 1).tail).headD .undef).asInt), D.bool (((((r3.drop 1).tail).tail).headD .undef).asBool), D.int .i64 a5, D.slc v4, D.int .i64 a7, D.int .i64 v2, D.int .i64 (IntKind.wrap .i64 (a9 + 1))])
      else
        none
    else
      some (2, [D.int .i64 a0, D.slc a1, D.slc a2, D.int .i64 a3, D.bool a4, D.int .i64 a5, D.slc a6, D.int .i64 a7, D.int .i64 a8, D.int .i64 a9])
  else
    some (2, [D.int .i64 a0, D.slc a1, D.slc a2, D.int .i64 a3, D.bool a4, D.int .i64 a5, D.slc a6, D.int .i64 a7, D.int .i64 a8, D.int .i64 a9])
noncomputable def B28_9 : Step := fun ds => b28_9 ((ds.headD .undef).asInt) ((ds.tail.headD .undef).asRows) (((ds.drop 2).headD .undef).asRows) ((((ds.drop 2).tail).headD .undef).asInt) (((((ds.drop 2).tail).tail).headD .undef).asBool) ((((ds.drop 2).drop 3).headD .undef).asInt) (((((ds.drop 2).drop 3).tail).headD .undef).asRows) (((((ds.drop 2).drop 3).drop 2).headD .undef).asInt) ((((((ds.drop 2).drop 3).drop 2).drop 1).headD .undef).asInt) (((((((ds.drop 2).drop 3).drop 2).drop 1).drop 1).headD .undef).asInt)
noncomputable def f28 (a0 : List (List D)) : Option (List D) :=
  callB (f95 a0 0 false) fun r1 =>
  callB (f95 (((r1.drop 1).headD .undef).asRows) ((((r1.drop 1).tail).headD .undef).asInt) (((((r1.drop 1).tail).tail).headD .undef).asBool)) fun r2 =>
  if (ltI 300 ((r2.headD .undef).asInt)) = true then
    some [D.int .i64 0, D.slc ([]), D.bool false]
  else
    getB (whileW B28_9 [D.int .i64 0, D.slc ([]), D.slc (((r2.drop 1).headD .undef).asRows), D.int .i64 ((((r2.drop 1).tail).headD .undef).asInt), D.bool (((((r2.drop 1).tail).tail).headD .undef).asBool), D.int .i64 (IntKind.wrap .i64 (((r1.headD .undef).asInt) - 2000)), D.slc ([]), D.int .i64 ((r2.headD .undef).asInt), D.int .i64 (-1000000000), D.int .i64 0]) fun x3 =>
    if (Nat.beq x3.1 2) = true then
      callB (f96 (((x3.2.drop 2).headD .undef).asRows) ((((x3.2.drop 2).tail).headD .undef).asInt) (((((x3.2.drop 2).tail).tail).headD .undef).asBool)) fun r4 =>
      if (!((r4.headD .undef).asBool)) = true then
        some [D.int .i64 0, D.slc ([]), D.bool false]
      else
        callB (f41 ((((x3.2.drop 2).drop 3).headD .undef).asInt) ((((((x3.2.drop 2).drop 3).tail).headD .undef)).asRows)) fun r5 =>
        if (!((r5.headD .undef).asBool)) = true then
          some [D.int .i64 0, D.slc ([]), D.bool false]
        else
          some [D.int .i64 ((((x3.2.drop 2).drop 3).headD .undef).asInt), D.slc ((((((x3.2.drop 2).drop 3).tail).headD .undef)).asRows), D.bool true]
    else
      if (Nat.beq x3.1 1) = true then
        some x3.2
      else
        none
noncomputable def live28 : Nat → List (Nat × LHint) := fun n => match n with
  | 9 => [(2, .auto []), (4, .auto [.ptr 142]), (5, .auto []), (6, .auto [.int .i64]), (7, .auto [.int .i64]), (8, .auto [.int .i64])]
  | _ => []
noncomputable def env28 : Env := ⟨tys, look [(41, fi41), (95, fi95), (96, fi96)], eqs⟩
noncomputable def fi28 : FI := { ps := [.val false [(.slc 5, 0)]], rs := [.val true [(.int .i64, 0), (.slc 71, 1)], .val false [(.bool, 0)]], fresh := true, run := fun ds => f28 ((ds.headD .undef).asRows) }
theorem run28 (ds : List D) : evalFW env28 live28 Try.f28 [.val false [(.slc 5, 0)]] [.val true [(.int .i64, 0), (.slc 71, 1)], .val false [(.bool, 0)]] ds = fi28.run ds := by kernel_rfl
theorem ok28 : FnOk Try.prog tys 28 fi28 :=
  evalF_ok (live := live28) mixed tysOk (E := env28) rfl (envOk (⟨ok41, ⟨ok95, ⟨ok96, trivial⟩⟩⟩) eqsOk) Try.func28 (c := (Try.f28.body).getD .skip) (by kernel_rfl) (by rw [show Try.f28.name = "loop.example/g00106/impl.TableRead" by kernel_rfl]; decide) (fun ds out h => evalFW_some ((run28 ds).trans h)) (by decide) (by decide) (fun _ => by kernel_rfl)
/-! ### 29: loop.example/g00106/laws.sameShifts -/
noncomputable def b29_4 (a0 : List (List D)) (a1 : List (List D)) (a2 : Int) : Option (Nat × List D) :=
  if (ltI a2 ((a0.length : Int))) = true then
    if (leI 0 a2 && ltI a2 ((a0.length : Int))) = true then
      if (leI 0 a2 && ltI a2 ((a1.length : Int))) = true then
        let v1 : Bool := !(((rI (a0.getD a2.toNat []) 0) == (rI (a1.getD a2.toNat []) 0)) && (((rI (a0.getD a2.toNat []) 1) == (rI (a1.getD a2.toNat []) 1)) && true))
        if v1 = true then
          some (1, [D.bool false])
        else
          some (0, [D.slc a0, D.slc a1, D.int .i64 (IntKind.wrap .i64 (a2 + 1))])
      else
        none
    else
      none
  else
    some (2, [D.slc a0, D.slc a1, D.int .i64 a2])
noncomputable def B29_4 : Step := fun ds => b29_4 ((ds.headD .undef).asRows) (((ds.drop 1).headD .undef).asRows) ((((ds.drop 1).drop 1).headD .undef).asInt)
noncomputable def f29 (a0 : List (List D)) (a1 : List (List D)) : Option (List D) :=
  if (((a0.length : Int)) != ((a1.length : Int))) = true then
    some [D.bool false]
  else
    getB (whileW B29_4 [D.slc a0, D.slc a1, D.int .i64 0]) fun x1 =>
    if (Nat.beq x1.1 2) = true then
      some [D.bool true]
    else
      if (Nat.beq x1.1 1) = true then
        some x1.2
      else
        none
noncomputable def live29 : Nat → List (Nat × LHint) := fun n => match n with
  | 4 => [(0, .auto [.slc 71]), (1, .auto [.slc 71]), (5, .auto [.int .i64])]
  | _ => []
noncomputable def env29 : Env := ⟨tys, look [], eqs⟩
noncomputable def fi29 : FI := { ps := [.val false [(.slc 71, 0)], .val false [(.slc 71, 0)]], rs := [.val false [(.bool, 0)]], fresh := true, run := fun ds => f29 ((ds.headD .undef).asRows) (((ds.drop 1).headD .undef).asRows) }
theorem run29 (ds : List D) : evalFW env29 live29 Try.f29 [.val false [(.slc 71, 0)], .val false [(.slc 71, 0)]] [.val false [(.bool, 0)]] ds = fi29.run ds := by kernel_rfl
theorem ok29 : FnOk Try.prog tys 29 fi29 :=
  evalF_ok (live := live29) mixed tysOk (E := env29) rfl (envOk (trivial) eqsOk) Try.func29 (c := (Try.f29.body).getD .skip) (by kernel_rfl) (by rw [show Try.f29.name = "loop.example/g00106/laws.sameShifts" by kernel_rfl]; decide) (fun ds out h => evalFW_some ((run29 ds).trans h)) (by decide) (by decide) (fun _ => by kernel_rfl)
/-! ### 81: loop.example/g00106/spec.l1Min -/
noncomputable def f81 (a0 : Int) (a1 : Int) : Option (List D) :=
  if (ltI a0 a1) = true then
    some [D.int .i64 a0]
  else
    some [D.int .i64 a1]
noncomputable def live81 : Nat → List (Nat × LHint) := fun n => match n with
  | _ => []
noncomputable def env81 : Env := ⟨tys, look [], eqs⟩
noncomputable def fi81 : FI := { ps := [.val false [(.int .i64, 0)], .val false [(.int .i64, 0)]], rs := [.val false [(.int .i64, 0)]], fresh := true, run := fun ds => f81 ((ds.headD .undef).asInt) (((ds.drop 1).headD .undef).asInt) }
theorem run81 (ds : List D) : evalFW env81 live81 Try.f81 [.val false [(.int .i64, 0)], .val false [(.int .i64, 0)]] [.val false [(.int .i64, 0)]] ds = fi81.run ds := by kernel_rfl
theorem ok81 : FnOk Try.prog tys 81 fi81 :=
  evalF_ok (live := live81) mixed tysOk (E := env81) rfl (envOk (trivial) eqsOk) Try.func81 (c := (Try.f81.body).getD .skip) (by kernel_rfl) (by rw [show Try.f81.name = "loop.example/g00106/spec.l1Min" by kernel_rfl]; decide) (fun ds out h => evalFW_some ((run81 ds).trans h)) (by decide) (by decide) (fun _ => by kernel_rfl)
/-! ### 174: loop.example/g00106/spec.PutNum -/
noncomputable def b174_4 (a0 : Int) (a1 : List (List D)) : Option (Nat × List D) :=
  if (ltI 127 a0) = true then
    let v1 : Int := IntKind.wrap .u8 (IntKind.wrap .i64 ((Int.tmod a0 128) + 128))
    if (lenB (a1.length + 1) 1) = true then
      some (0, [D.int .i64 (IntKind.wrap .i64 (Int.tdiv a0 128)), D.slc (a1 ++ ([[D.int .u8 v1]]))])
    else
      none
  else
    some (2, [D.int .i64 a0, D.slc a1])
noncomputable def B174_4 : Step := fun ds => b174_4 ((ds.headD .undef).asInt) (((ds.drop 1).headD .undef).asRows)
noncomputable def f174 (a0 : Int) : Option (List D) :=
  if (ltI a0 0) = true then
    some [D.slc ([])]
  else
    getB (whileW B174_4 [D.int .i64 a0, D.slc ([])]) fun x1 =>
    if (Nat.beq x1.1 2) = true then
      if (lenB (((((x1.2.drop 1).headD .undef)).asRows).length + 1) 1) = true then
        let v2 : List (List D) := ((((x1.2.drop 1).headD .undef)).asRows) ++ ([[D.int .u8 (IntKind.wrap .u8 ((x1.2.headD .undef).asInt))]])
        some [D.slc v2]
      else
        none
    else
      if (Nat.beq x1.1 1) = true then
        some x1.2
      else
        none
noncomputable def live174 : Nat → List (Nat × LHint) := fun n => match n with
  | 4 => [(0, .auto [.int .i64]), (3, .auto [.slc 5])]
  | _ => []
noncomputable def env174 : Env := ⟨tys, look [], eqs⟩
noncomputable def fi174 : FI := { ps := [.val false [(.int .i64, 0)]], rs := [.val false [(.slc 5, 1)]], fresh := true, run := fun ds => f174 ((ds.headD .undef).asInt) }
theorem run174 (ds : List D) : evalFW env174 live174 Try.f174 [.val false [(.int .i64, 0)]] [.val false [(.slc 5, 1)]] ds = fi174.run ds := by kernel_rfl
theorem ok174 : FnOk Try.prog tys 174 fi174 :=
  evalF_ok (live := live174) mixed tysOk (E := env174) rfl (envOk (trivial) eqsOk) Try.func174 (c := (Try.f174.body).getD .skip) (by kernel_rfl) (by rw [show Try.f174.name = "loop.example/g00106/spec.PutNum" by kernel_rfl]; decide) (fun ds out h => evalFW_some ((run174 ds).trans h)) (by decide) (by decide) (fun _ => by kernel_rfl)
/-! ### 97: loop.example/g00106/spec.TablePack -/
noncomputable def b97_6 (a0 : Int) (a1 : List (List D)) (a2 : List (List D)) (a3 : Int) (a4 : Int) : Option (Nat × List D) :=
  if (ltI a4 ((a1.length : Int))) = true then
    if (leI 0 a4 && ltI a4 ((a1.length : Int))) = true then
      callB (f174 (IntKind.wrap .i64 ((rI (a1.getD a4.toNat []) 0) - a3))) fun r1 =>
      if (lenB (a2.length + (((r1.headD .undef)).asRows).length) 1) = true then
        if (leI 0 a4 && ltI a4 ((a1.length : Int))) = true then
          callB (f174 (IntKind.wrap .i64 ((rI (a1.getD a4.toNat []) 1) + 2000))) fun r2 =>
          if (lenB ((a2 ++ (((r1.headD .undef)).asRows)).length + (((r2.headD .undef)).asRows).length) 1) = true then
            let v3 : List (List D) := (a2 ++ (((r1.headD .undef)).asRows)) ++ (((r2.headD .undef)).asRows)
            if (leI 0 a4 && ltI a4 ((a1.length : Int))) = true then
              some (0, [D.int .i64 a0, D.slc a1, D.slc v3, D.int .i64 (rI (a1.getD a4.toNat []) 0), D.int .i64 (IntKind.wrap .i64 (a4 + 1))])
            else
              none
          else
            none
        else
          none
      else
        none
    else
      none
  else
    some (2, [D.int .i64 a0, D.slc a1, D.slc a2, D.int .i64 a3, D.int .i64 a4])
noncomputable def B97_6 : Step := fun ds => b97_6 ((ds.headD .undef).asInt) ((ds.tail.headD .undef).asRows) (((ds.drop 2).headD .undef).asRows) ((((ds.drop 2).drop 1).headD .undef).asInt) (((((ds.drop 2).drop 1).drop 1).headD .undef).asInt)
noncomputable def f97 (a0 : Int) (a1 : List (List D)) : Option (List D) :=
  callB (f27 a0 a1) fun r1 =>
  if (!((r1.headD .undef).asBool)) = true then
    some [D.slc ([]), D.bool false]
  else
    callB (f174 (IntKind.wrap .i64 (a0 + 2000))) fun r2 =>
    callB (f174 ((a1.length : Int))) fun r3 =>
    if (lenB ((((r2.headD .undef)).asRows).length + (((r3.headD .undef)).asRows).length) 1) = true then
      getB (whileW B97_6 [D.int .i64 a0, D.slc a1, D.slc ((((r2.headD .undef)).asRows) ++ (((r3.headD .undef)).asRows)), D.int .i64 (-1000000000), D.int .i64 0]) fun x4 =>
      if (Nat.beq x4.1 2) = true then
        some [D.slc ((((x4.2.drop 2).headD .undef)).asRows), D.bool true]
      else
        if (Nat.beq x4.1 1) = true then
          some x4.2
        else
          none
    else
      none
noncomputable def live97 : Nat → List (Nat × LHint) := fun n => match n with
  | 6 => [(1, .auto []), (4, .auto [.slc 5]), (5, .auto [.int .i64]), (6, .auto [.int .i64])]
  | _ => []
noncomputable def env97 : Env := ⟨tys, look [(27, fi27), (174, fi174)], eqs⟩
noncomputable def fi97 : FI := { ps := [.val true [(.int .i64, 0), (.slc 71, 0)]], rs := [.val false [(.slc 5, 1)], .val false [(.bool, 0)]], fresh := true, run := fun ds => f97 ((ds.headD .undef).asInt) ((ds.tail.headD .undef).asRows) }
theorem run97 (ds : List D) : evalFW env97 live97 Try.f97 [.val true [(.int .i64, 0), (.slc 71, 0)]] [.val false [(.slc 5, 1)], .val false [(.bool, 0)]] ds = fi97.run ds := by kernel_rfl
theorem ok97 : FnOk Try.prog tys 97 fi97 :=
  evalF_ok (live := live97) mixed tysOk (E := env97) rfl (envOk (⟨ok27, ⟨ok174, trivial⟩⟩) eqsOk) Try.func97 (c := (Try.f97.body).getD .skip) (by kernel_rfl) (by rw [show Try.f97.name = "loop.example/g00106/spec.TablePack" by kernel_rfl]; decide) (fun ds out h => evalFW_some ((run97 ds).trans h)) (by decide) (by decide) (fun _ => by kernel_rfl)
/-! ### 30: loop.example/g00106/spec.DrawTableRead -/
noncomputable def f30 (a0 : List (List D)) : Option (List D) :=
  callB (f75 a0) fun r1 =>
  callB (f93 ((((r1.headD .undef).asRow ++ r1.tail).headD .undef).asRows) (((((r1.headD .undef).asRow ++ r1.tail).tail).headD .undef).asInt) ((((((r1.headD .undef).asRow ++ r1.tail).tail).tail).headD .undef).asInt)) fun r2 =>
  callB (f97 ((r2.headD .undef).asInt) (((r2.tail.headD .undef)).asRows)) fun r3 =>
  if (!((r3.tail.headD .undef).asBool)) = true then
    callB (f78 (((r2.drop 2).headD .undef).asRows) ((((r2.drop 2).tail).headD .undef).asInt) (((((r2.drop 2).tail).tail).headD .undef).asInt) 3) fun r4 =>
    if ((r4.headD .undef).asBool) = true then
      callB (f81 2 30) fun r5 =>
      callB (f79 (((r4.drop 1).headD .undef).asRows) ((((r4.drop 1).tail).headD .undef).asInt) (((((r4.drop 1).tail).tail).headD .undef).asInt) ((r5.headD .undef).asInt)) fun r6 =>
      callB (f98 (((r6.drop 1).headD .undef).asRows) ((((r6.drop 1).tail).headD .undef).asInt) (((((r6.drop 1).tail).tail).headD .undef).asInt) ([[D.int .i64 0], [D.int .i64 1], [D.int .i64 2], [D.int .i64 127], [D.int .i64 128], [D.int .i64 255]])) fun r7 =>
      if (leI 0 ((r6.headD .undef).asInt) && ltI ((r6.headD .undef).asInt) 2) = true then
        callB (f78 (((r7.drop 1).headD .undef).asRows) ((((r7.drop 1).tail).headD .undef).asInt) (((((r7.drop 1).tail).tail).headD .undef).asInt) 9) fun r8 =>
        if ((r8.headD .undef).asBool) = true then
          let v9 : Int := ((([[D.int .u8 0], [D.int .u8 0]]).set (((r6.headD .undef).asInt).toNat) (splice (([[D.int .u8 0], [D.int .u8 0]]).getD (((r6.headD .undef).asInt).toNat) []) 0 [D.int .u8 (IntKind.wrap .u8 ((r7.headD .undef).asInt))])).length : Int)
          callB (f79 (((r8.drop 1).headD .undef).asRows) ((((r8.drop 1).tail).headD .undef).asInt) (((((r8.drop 1).tail).tail).headD .undef).asInt) (IntKind.wrap .i64 (v9 + 1))) fun r10 =>
          if (leI 0 ((r10.headD .undef).asInt) && leI ((r10.headD .undef).asInt) (((([[D.int .u8 0], [D.int .u8 0]]).set (((r6.headD .undef).asInt).toNat) (splice (([[D.int .u8 0], [D.int .u8 0]]).getD (((r6.headD .undef).asInt).toNat) []) 0 [D.int .u8 (IntKind.wrap .u8 ((r7.headD .undef).asInt))])).length : Int))) = true then
            if (leI 0 0 && leI 0 ((r10.headD .undef).asInt)) = true then
              callB (f78 (((r10.drop 1).headD .undef).asRows) ((((r10.drop 1).tail).headD .undef).asInt) (((((r10.drop 1).tail).tail).headD .undef).asInt) 9) fun r11 =>
              if ((r11.headD .undef).asBool) = true then
                if (lenB (((([[D.int .u8 0], [D.int .u8 0]]).set (((r6.headD .undef).asInt).toNat) (splice (([[D.int .u8 0], [D.int .u8 0]]).getD (((r6.headD .undef).asInt).toNat) []) 0 [D.int .u8 (IntKind.wrap .u8 ((r7.headD .undef).asInt))])).take (((r10.headD .undef).asInt).toNat - 0)).length + 1) 1) = true then
                  let v12 : List (List D) := ((([[D.int .u8 0], [D.int .u8 0]]).set (((r6.headD .undef).asInt).toNat) (splice (([[D.int .u8 0], [D.int .u8 0]]).getD (((r6.headD .undef).asInt).toNat) []) 0 [D.int .u8 (IntKind.wrap .u8 ((r7.headD .undef).asInt))])).take (((r10.headD .undef).asInt).toNat - 0)) ++ ([[D.int .u8 0]])
                  some [D.slc v12]
                else
                  none
              else
                some [D.slc (((([[D.int .u8 0], [D.int .u8 0]]).set (((r6.headD .undef).asInt).toNat) (splice (([[D.int .u8 0], [D.int .u8 0]]).getD (((r6.headD .undef).asInt).toNat) []) 0 [D.int .u8 (IntKind.wrap .u8 ((r7.headD .undef).asInt))])).drop 0).take (((r10.headD .undef).asInt).toNat - 0))]
            else
              none
          else
            none
        else
          callB (f78 (((r8.drop 1).headD .undef).asRows) ((((r8.drop 1).tail).headD .undef).asInt) (((((r8.drop 1).tail).tail).headD .undef).asInt) 9) fun r13 =>
          if ((r13.headD .undef).asBool) = true then
            if (lenB ((([[D.int .u8 0], [D.int .u8 0]]).set (((r6.headD .undef).asInt).toNat) (splice (([[D.int .u8 0], [D.int .u8 0]]).getD (((r6.headD .undef).asInt).toNat) []) 0 [D.int .u8 (IntKind.wrap .u8 ((r7.headD .undef).asInt))])).length + 1) 1) = true then
              let v14 : List (List D) := (([[D.int .u8 0], [D.int .u8 0]]).set (((r6.headD .undef).asInt).toNat) (splice (([[D.int .u8 0], [D.int .u8 0]]).getD (((r6.headD .undef).asInt).toNat) []) 0 [D.int .u8 (IntKind.wrap .u8 ((r7.headD .undef).asInt))])) ++ ([[D.int .u8 0]])
              some [D.slc v14]
            else
              none
          else
            some [D.slc (([[D.int .u8 0], [D.int .u8 0]]).set (((r6.headD .undef).asInt).toNat) (splice (([[D.int .u8 0], [D.int .u8 0]]).getD (((r6.headD .undef).asInt).toNat) []) 0 [D.int .u8 (IntKind.wrap .u8 ((r7.headD .undef).asInt))]))]
      else
        none
    else
      callB (f78 (((r4.drop 1).headD .undef).asRows) ((((r4.drop 1).tail).headD .undef).asInt) (((((r4.drop 1).tail).tail).headD .undef).asInt) 9) fun r15 =>
      if ((r15.headD .undef).asBool) = true then
        callB (f79 (((r15.drop 1).headD .undef).asRows) ((((r15.drop 1).tail).headD .undef).asInt) (((((r15.drop 1).tail).tail).headD .undef).asInt) 3) fun r16 =>
        if (leI 0 ((r16.headD .undef).asInt) && leI ((r16.headD .undef).asInt) 2) = true then
          if (leI 0 0 && leI 0 ((r16.headD .undef).asInt)) = true then
            callB (f78 (((r16.drop 1).headD .undef).asRows) ((((r16.drop 1).tail).headD .undef).asInt) (((((r16.drop 1).tail).tail).headD .undef).asInt) 9) fun r17 =>
            if ((r17.headD .undef).asBool) = true then
              if (lenB ((([[D.int .u8 0], [D.int .u8 0]]).take (((r16.headD .undef).asInt).toNat - 0)).length + 1) 1) = true then
                let v18 : List (List D) := (([[D.int .u8 0], [D.int .u8 0]]).take (((r16.headD .undef).asInt).toNat - 0)) ++ ([[D.int .u8 0]])
                some [D.slc v18]
              else
                none
            else
              some [D.slc ((([[D.int .u8 0], [D.int .u8 0]]).drop 0).take (((r16.headD .undef).asInt).toNat - 0))]
          else
            none
        else
          none
      else
        callB (f78 (((r15.drop 1).headD .undef).asRows) ((((r15.drop 1).tail).headD .undef).asInt) (((((r15.drop 1).tail).tail).headD .undef).asInt) 9) fun r19 =>
        if ((r19.headD .undef).asBool) = true then
          some [D.slc (([[D.int .u8 0], [D.int .u8 0]]) ++ ([[D.int .u8 0]]))]
        else
          some [D.slc ([[D.int .u8 0], [D.int .u8 0]])]
  else
    callB (f78 (((r2.drop 2).headD .undef).asRows) ((((r2.drop 2).tail).headD .undef).asInt) (((((r2.drop 2).tail).tail).headD .undef).asInt) 3) fun r20 =>
    if ((r20.headD .undef).asBool) = true then
      callB (f81 (((((r3.headD .undef)).asRows).length : Int)) 30) fun r21 =>
      callB (f79 (((r20.drop 1).headD .undef).asRows) ((((r20.drop 1).tail).headD .undef).asInt) (((((r20.drop 1).tail).tail).headD .undef).asInt) ((r21.headD .undef).asInt)) fun r22 =>
      callB (f98 (((r22.drop 1).headD .undef).asRows) ((((r22.drop 1).tail).headD .undef).asInt) (((((r22.drop 1).tail).tail).headD .undef).asInt) ([[D.int .i64 0], [D.int .i64 1], [D.int .i64 2], [D.int .i64 127], [D.int .i64 128], [D.int .i64 255]])) fun r23 =>
      if (leI 0 ((r22.headD .undef).asInt) && ltI ((r22.headD .undef).asInt) (((((r3.headD .undef)).asRows).length : Int))) = true then
        callB (f78 (((r23.drop 1).headD .undef).asRows) ((((r23.drop 1).tail).headD .undef).asInt) (((((r23.drop 1).tail).tail).headD .undef).asInt) 9) fun r24 =>
        if ((r24.headD .undef).asBool) = true then
          let v25 : Int := (((((r3.headD .undef)).asRows).set (((r22.headD .undef).asInt).toNat) (splice ((((r3.headD .undef)).asRows).getD (((r22.headD .undef).asInt).toNat) []) 0 [D.int .u8 (IntKind.wrap .u8 ((r23.headD .undef).asInt))])).length : Int)
          callB (f79 (((r24.drop 1).headD .undef).asRows) ((((r24.drop 1).tail).headD .undef).asInt) (((((r24.drop 1).tail).tail).headD .undef).asInt) (IntKind.wrap .i64 (v25 + 1))) fun r26 =>
          if (leI 0 ((r26.headD .undef).asInt) && leI ((r26.headD .undef).asInt) ((((((r3.headD .undef)).asRows).set (((r22.headD .undef).asInt).toNat) (splice ((((r3.headD .undef)).asRows).getD (((r22.headD .undef).asInt).toNat) []) 0 [D.int .u8 (IntKind.wrap .u8 ((r23.headD .undef).asInt))])).length : Int))) = true then
            if (leI 0 0 && leI 0 ((r26.headD .undef).asInt)) = true then
              callB (f78 (((r26.drop 1).headD .undef).asRows) ((((r26.drop 1).tail).headD .undef).asInt) (((((r26.drop 1).tail).tail).headD .undef).asInt) 9) fun r27 =>
              if ((r27.headD .undef).asBool) = true then
                if (lenB ((((((r3.headD .undef)).asRows).set (((r22.headD .undef).asInt).toNat) (splice ((((r3.headD .undef)).asRows).getD (((r22.headD .undef).asInt).toNat) []) 0 [D.int .u8 (IntKind.wrap .u8 ((r23.headD .undef).asInt))])).take (((r26.headD .undef).asInt).toNat - 0)).length + 1) 1) = true then
                  let v28 : List (List D) := (((((r3.headD .undef)).asRows).set (((r22.headD .undef).asInt).toNat) (splice ((((r3.headD .undef)).asRows).getD (((r22.headD .undef).asInt).toNat) []) 0 [D.int .u8 (IntKind.wrap .u8 ((r23.headD .undef).asInt))])).take (((r26.headD .undef).asInt).toNat - 0)) ++ ([[D.int .u8 0]])
                  some [D.slc v28]
                else
                  none
              else
                some [D.slc ((((((r3.headD .undef)).asRows).set (((r22.headD .undef).asInt).toNat) (splice ((((r3.headD .undef)).asRows).getD (((r22.headD .undef).asInt).toNat) []) 0 [D.int .u8 (IntKind.wrap .u8 ((r23.headD .undef).asInt))])).drop 0).take (((r26.headD .undef).asInt).toNat - 0))]
            else
              none
          else
            none
        else
          callB (f78 (((r24.drop 1).headD .undef).asRows) ((((r24.drop 1).tail).headD .undef).asInt) (((((r24.drop 1).tail).tail).headD .undef).asInt) 9) fun r29 =>
          if ((r29.headD .undef).asBool) = true then
            if (lenB (((((r3.headD .undef)).asRows).set (((r22.headD .undef).asInt).toNat) (splice ((((r3.headD .undef)).asRows).getD (((r22.headD .undef).asInt).toNat) []) 0 [D.int .u8 (IntKind.wrap .u8 ((r23.headD .undef).asInt))])).length + 1) 1) = true then
              let v30 : List (List D) := ((((r3.headD .undef)).asRows).set (((r22.headD .undef).asInt).toNat) (splice ((((r3.headD .undef)).asRows).getD (((r22.headD .undef).asInt).toNat) []) 0 [D.int .u8 (IntKind.wrap .u8 ((r23.headD .undef).asInt))])) ++ ([[D.int .u8 0]])
              some [D.slc v30]
            else
              none
          else
            some [D.slc ((((r3.headD .undef)).asRows).set (((r22.headD .undef).asInt).toNat) (splice ((((r3.headD .undef)).asRows).getD (((r22.headD .undef).asInt).toNat) []) 0 [D.int .u8 (IntKind.wrap .u8 ((r23.headD .undef).asInt))]))]
      else
        none
    else
      callB (f78 (((r20.drop 1).headD .undef).asRows) ((((r20.drop 1).tail).headD .undef).asInt) (((((r20.drop 1).tail).tail).headD .undef).asInt) 9) fun r31 =>
      if ((r31.headD .undef).asBool) = true then
        let v32 : Int := IntKind.wrap .i64 ((((((r3.headD .undef)).asRows).length : Int)) + 1)
        callB (f79 (((r31.drop 1).headD .undef).asRows) ((((r31.drop 1).tail).headD .undef).asInt) (((((r31.drop 1).tail).tail).headD .undef).asInt) v32) fun r33 =>
        if (leI 0 ((r33.headD .undef).asInt) && leI ((r33.headD .undef).asInt) (((((r3.headD .undef)).asRows).length : Int))) = true then
          if (leI 0 0 && leI 0 ((r33.headD .undef).asInt)) = true then
            callB (f78 (((r33.drop 1).headD .undef).asRows) ((((r33.drop 1).tail).headD .undef).asInt) (((((r33.drop 1).tail).tail).headD .undef).asInt) 9) fun r34 =>
            if ((r34.headD .undef).asBool) = true then
              if (lenB (((((r3.headD .undef)).asRows).take (((r33.headD .undef).asInt).toNat - 0)).length + 1) 1) = true then
                let v35 : List (List D) := ((((r3.headD .undef)).asRows).take (((r33.headD .undef).asInt).toNat - 0)) ++ ([[D.int .u8 0]])
                some [D.slc v35]
              else
                none
            else
              some [D.slc (((((r3.headD .undef)).asRows).drop 0).take (((r33.headD .undef).asInt).toNat - 0))]
          else
            none
        else
          none
      else
        callB (f78 (((r31.drop 1).headD .undef).asRows) ((((r31.drop 1).tail).headD .undef).asInt) (((((r31.drop 1).tail).tail).headD .undef).asInt) 9) fun r36 =>
        if ((r36.headD .undef).asBool) = true then
          if (lenB ((((r3.headD .undef)).asRows).length + 1) 1) = true then
            some [D.slc ((((r3.headD .undef)).asRows) ++ ([[D.int .u8 0]]))]
          else
            none
        else
          some [D.slc (((r3.headD .undef)).asRows)]
noncomputable def live30 : Nat → List (Nat × LHint) := fun n => match n with
  | _ => []
noncomputable def env30 : Env := ⟨tys, look [(75, fi75), (78, fi78), (79, fi79), (81, fi81), (93, fi93), (97, fi97), (98, fi98)], eqs⟩
noncomputable def fi30 : FI := { ps := [.val false [(.slc 5, 0)]], rs := [.val false [(.slc 5, 1)]], fresh := true, run := fun ds => f30 ((ds.headD .undef).asRows) }
theorem run30 (ds : List D) : evalFW env30 live30 Try.f30 [.val false [(.slc 5, 0)]] [.val false [(.slc 5, 1)]] ds = fi30.run ds := by kernel_rfl
theorem ok30 : FnOk Try.prog tys 30 fi30 :=
  evalF_ok (live := live30) mixed tysOk (E := env30) rfl (envOk (⟨ok75, ⟨ok78, ⟨ok79, ⟨ok81, ⟨ok93, ⟨ok97, ⟨ok98, trivial⟩⟩⟩⟩⟩⟩⟩) eqsOk) Try.func30 (c := (Try.f30.body).getD .skip) (by kernel_rfl) (by rw [show Try.f30.name = "loop.example/g00106/spec.DrawTableRead" by kernel_rfl]; decide) (fun ds out h => evalFW_some ((run30 ds).trans h)) (by decide) (by decide) (fun _ => by kernel_rfl)
/-! ### 99: loop.example/g00106/spec.GetNum -/
noncomputable def b99_6 (a0 : List (List D)) (a1 : Int) (a2 : Int) (a3 : Int) (a4 : Int) : Option (Nat × List D) :=
  if (ltI a4 9) = true then
    if (ltI (IntKind.wrap .i64 (a1 + a4)) ((a0.length : Int))) = true then
      if (leI 0 (IntKind.wrap .i64 (a1 + a4)) && ltI (IntKind.wrap .i64 (a1 + a4)) ((a0.length : Int))) = true then
        let v1 : Int := IntKind.wrap .i64 (rI (a0.getD ((IntKind.wrap .i64 (a1 + a4)).toNat) []) 0)
        let v2 : Int := IntKind.wrap .i64 (a2 + (IntKind.wrap .i64 ((Int.tmod v1 128) * a3)))
        if (ltI v1 128) = true then
          if (v1 == 0) = true then
            if (ltI 0 a4) = true then
              some (1, [D.int .i64 0, D.int .i64 0, D.bool false])
            else
              some (1, [D.int .i64 v2, D.int .i64 (IntKind.wrap .i64 ((IntKind.wrap .i64 (a1 + a4)) + 1)), D.bool true])
          else
            some (1, [D.int .i64 v2, D.int .i64 (IntKind.wrap .i64 ((IntKind.wrap .i64 (a1 + a4)) + 1)), D.bool true])
        else
          some (0, [D.slc a0, D.int .i64 a1, D.int .i64 v2, D.int .i64 (IntKind.wrap .i64 (a3 * 128)), D.int .i64 (IntKind.wrap .i64 (a4 + 1))])
      else
        none
    else
      some (2, [D.slc a0, D.int .i64 a1, D.int .i64 a2, D.int .i64 a3, D.int .i64 a4])
  else
    some (2, [D.slc a0, D.int .i64 a1, D.int .i64 a2, D.int .i64 a3, D.int .i64 a4])
noncomputable def B99_6 : Step := fun ds => b99_6 ((ds.headD .undef).asRows) (((ds.drop 1).headD .undef).asInt) ((((ds.drop 1).drop 1).headD .undef).asInt) (((((ds.drop 1).drop 1).drop 1).headD .undef).asInt) ((((((ds.drop 1).drop 1).drop 1).drop 1).headD .undef).asInt)
noncomputable def f99 (a0 : List (List D)) (a1 : Int) : Option (List D) :=
  if (ltI a1 0) = true then
    some [D.int .i64 0, D.int .i64 0, D.bool false]
  else
    if (leI ((a0.length : Int)) a1) = true then
      some [D.int .i64 0, D.int .i64 0, D.bool false]
    else
      getB (whileW B99_6 [D.slc a0, D.int .i64 a1, D.int .i64 0, D.int .i64 1, D.int .i64 0]) fun x1 =>
      if (Nat.beq x1.1 2) = true then
        some [D.int .i64 0, D.int .i64 0, D.bool false]
      else
        if (Nat.beq x1.1 1) = true then
          some x1.2
        else
          none
noncomputable def live99 : Nat → List (Nat × LHint) := fun n => match n with
  | 6 => [(0, .auto [.slc 5]), (1, .auto [.int .i64]), (7, .auto [.int .i64]), (8, .auto [.int .i64]), (9, .auto [.int .i64])]
  | _ => []
noncomputable def env99 : Env := ⟨tys, look [], eqs⟩
noncomputable def fi99 : FI := { ps := [.val false [(.slc 5, 0)], .val false [(.int .i64, 0)]], rs := [.val false [(.int .i64, 0)], .val false [(.int .i64, 0)], .val false [(.bool, 0)]], fresh := true, run := fun ds => f99 ((ds.headD .undef).asRows) (((ds.drop 1).headD .undef).asInt) }
theorem run99 (ds : List D) : evalFW env99 live99 Try.f99 [.val false [(.slc 5, 0)], .val false [(.int .i64, 0)]] [.val false [(.int .i64, 0)], .val false [(.int .i64, 0)], .val false [(.bool, 0)]] ds = fi99.run ds := by kernel_rfl
theorem ok99 : FnOk Try.prog tys 99 fi99 :=
  evalF_ok (live := live99) mixed tysOk (E := env99) rfl (envOk (trivial) eqsOk) Try.func99 (c := (Try.f99.body).getD .skip) (by kernel_rfl) (by rw [show Try.f99.name = "loop.example/g00106/spec.GetNum" by kernel_rfl]; decide) (fun ds out h => evalFW_some ((run99 ds).trans h)) (by decide) (by decide) (fun _ => by kernel_rfl)
/-! ### 31: loop.example/g00106/spec.TableRead -/
noncomputable def b31_11 (a0 : List (List D)) (a1 : Int) (a2 : List (List D)) (a3 : Int) (a4 : List (List D)) (a5 : Int) (a6 : Int) (a7 : Int) (a8 : List (List D)) (a9 : Int) (a10 : Int) : Option (Nat × List D) :=
  if (ltI a10 a6) = true then
    callB (f99 a0 a5) fun r1 =>
    if (!((r1.tail.tail.headD .undef).asBool)) = true then
      some (1, [D.int .i64 a3, D.slc a4, D.bool false])
    else
      if (ltI 2000000000 ((r1.headD .undef).asInt)) = true then
        some (1, [D.int .i64 a3, D.slc a4, D.bool false])
      else
        callB (f99 a0 ((r1.tail.headD .undef).asInt)) fun r2 =>
        if (!((r2.tail.tail.headD .undef).asBool)) = true then
          some (1, [D.int .i64 a3, D.slc a4, D.bool false])
        else
          if (ltI 4000 ((r2.headD .undef).asInt)) = true then
            some (1, [D.int .i64 a3, D.slc a4, D.bool false])
          else
            if (lenB (a8.length + 1) 16) = true then
              let v3 : List (List D) := a8 ++ ([[D.int .i64 (IntKind.wrap .i64 (a9 + ((r1.headD .undef).asInt))), D.int .i64 (IntKind.wrap .i64 (((r2.headD .undef).asInt) - 2000))]])
              some (0, [D.slc a0, D.int .i64 a1, D.slc a2, D.int .i64 a3, D.slc a4, D.int .i64 ((r2.tail.headD .undef).asInt), D.int .i64 a6, D.int .i64 a7, D.slc v3, D.int .i64 (IntKind.wrap .i64 (a9 + ((r1.headD .undef).asInt))), D.int .i64 (IntKind.wrap .i64 (a10 + 1))])
            else
              none
  else
    some (2, [D.slc a0, D.int .i64 a1, D.slc a2, D.int .i64 a3, D.slc a4, D.int .i64 a5, D.int .i64 a6, D.int .i64 a7, D.slc a8, D.int .i64 a9, D.int .i64 a10])
noncomputable def B31_11 : Step := fun ds => b31_11 ((ds.headD .undef).asRows) (((ds.drop 1).headD .undef).asInt) ((((ds.drop 1).tail).headD .undef).asRows) ((((ds.drop 1).drop 2).headD .undef).asInt) (((((ds.drop 1).drop 2).tail).headD .undef).asRows) (((((ds.drop 1).drop 2).drop 2).headD .undef).asInt) ((((((ds.drop 1).drop 2).drop 2).drop 1).headD .undef).asInt) (((((((ds.drop 1).drop 2).drop 2).drop 1).drop 1).headD .undef).asInt) ((((((((ds.drop 1).drop 2).drop 2).drop 1).drop 1).tail).headD .undef).asRows) ((((((((ds.drop 1).drop 2).drop 2).drop 1).drop 1).drop 2).headD .undef).asInt) (((((((((ds.drop 1).drop 2).drop 2).drop 1).drop 1).drop 2).drop 1).headD .undef).asInt)
noncomputable def f31 (a0 : List (List D)) : Option (List D) :=
  callB (f99 a0 0) fun r1 =>
  if (!((r1.tail.tail.headD .undef).asBool)) = true then
    some [D.int .i64 0, D.slc ([]), D.bool false]
  else
    if (ltI 4000 ((r1.headD .undef).asInt)) = true then
      some [D.int .i64 0, D.slc ([]), D.bool false]
    else
      callB (f99 a0 ((r1.tail.headD .undef).asInt)) fun r2 =>
      if (!((r2.tail.tail.headD .undef).asBool)) = true then
        some [D.int .i64 0, D.slc ([]), D.bool false]
      else
        if (ltI 300 ((r2.headD .undef).asInt)) = true then
          some [D.int .i64 0, D.slc ([]), D.bool false]
        else
          getB (whileW B31_11 [D.slc a0, D.int .i64 0, D.slc ([]), D.int .i64 0, D.slc ([]), D.int .i64 ((r2.tail.headD .undef).asInt), D.int .i64 ((r2.headD .undef).asInt), D.int .i64 (IntKind.wrap .i64 (((r1.headD .undef).asInt) - 2000)), D.slc ([]), D.int .i64 (-1000000000), D.int .i64 0]) fun x3 =>
          if (Nat.beq x3.1 2) = true then
            let v4 : Bool := (((((x3.2.drop 1).drop 2).drop 2).headD .undef).asInt) != ((((x3.2.headD .undef).asRows).length : Int))
            if v4 = true then
              some [D.int .i64 ((((x3.2.drop 1).drop 2).headD .undef).asInt), D.slc ((((((x3.2.drop 1).drop 2).tail).headD .undef)).asRows), D.bool false]
            else
              let v5 : Int := ((((((x3.2.drop 1).drop 2).drop 2).drop 1).drop 1).headD .undef).asInt
              callB (f27 v5 (((((((((x3.2.drop 1).drop 2).drop 2).drop 1).drop 1).tail).headD .undef)).asRows)) fun r6 =>
              if (!((r6.headD .undef).asBool)) = true then
                some [D.int .i64 ((((x3.2.drop 1).drop 2).headD .undef).asInt), D.slc ((((((x3.2.drop 1).drop 2).tail).headD .undef)).asRows), D.bool false]
              else
                let v7 : Int := ((((((x3.2.drop 1).drop 2).drop 2).drop 1).drop 1).headD .undef).asInt
                some [D.int .i64 v7, D.slc (((((((((x3.2.drop 1).drop 2).drop 2).drop 1).drop 1).tail).headD .undef)).asRows), D.bool true]
          else
            if (Nat.beq x3.1 1) = true then
              some x3.2
            else
              none
noncomputable def live31 : Nat → List (Nat × LHint) := fun n => match n with
  | 11 => [(0, .auto [.slc 5]), (2, .auto []), (4, .auto []), (6, .auto [.int .i64]), (8, .auto [.int .i64]), (9, .auto []), (10, .auto [.int .i64]), (11, .auto [.int .i64])]
  | _ => []
noncomputable def env31 : Env := ⟨tys, look [(27, fi27), (99, fi99)], eqs⟩
noncomputable def fi31 : FI := { ps := [.val false [(.slc 5, 0)]], rs := [.val true [(.int .i64, 0), (.slc 71, 1)], .val false [(.bool, 0)]], fresh := true, run := fun ds => f31 ((ds.headD .undef).asRows) }
theorem run31 (ds : List D) : evalFW env31 live31 Try.f31 [.val false [(.slc 5, 0)]] [.val true [(.int .i64, 0), (.slc 71, 1)], .val false [(.bool, 0)]] ds = fi31.run ds := by kernel_rfl
theorem ok31 : FnOk Try.prog tys 31 fi31 :=
  evalF_ok (live := live31) mixed tysOk (E := env31) rfl (envOk (⟨ok27, ⟨ok99, trivial⟩⟩) eqsOk) Try.func31 (c := (Try.f31.body).getD .skip) (by kernel_rfl) (by rw [show Try.f31.name = "loop.example/g00106/spec.TableRead" by kernel_rfl]; decide) (fun ds out h => evalFW_some ((run31 ds).trans h)) (by decide) (by decide) (fun _ => by kernel_rfl)
/-! ### 6: loop.example/g00106/laws.FnTable -/
noncomputable def f6 (a0 : List (List D)) : Option (List D) :=
  callB (f19 a0) fun r1 =>
  if ((r1.headD .undef).asBool) = true then
    some [D.bool true]
  else
    callB (f25 a0) fun r2 =>
    callB (f26 ((r2.headD .undef).asInt) (((r2.tail.headD .undef)).asRows)) fun r3 =>
    callB (f27 ((r2.headD .undef).asInt) (((r2.tail.headD .undef)).asRows)) fun r4 =>
    let v5 : Bool := !(((r3.tail.headD .undef).asBool) == ((r4.headD .undef).asBool))
    if v5 = true then
      some [D.bool false]
    else
      if ((r3.tail.headD .undef).asBool) = true then
        callB (f28 (((r3.headD .undef)).asRows)) fun r6 =>
        if (!((r6.tail.tail.headD .undef).asBool)) = true then
          some [D.bool false]
        else
          if (((r6.headD .undef).asInt) != ((r2.headD .undef).asInt)) = true then
            some [D.bool false]
          else
            callB (f29 (((r6.tail.headD .undef)).asRows) (((r2.tail.headD .undef)).asRows)) fun r7 =>
            if (!((r7.headD .undef).asBool)) = true then
              some [D.bool false]
            else
              callB (f30 a0) fun r8 =>
              callB (f28 (((r8.headD .undef)).asRows)) fun r9 =>
              callB (f31 (((r8.headD .undef)).asRows)) fun r10 =>
              let v11 : Bool := !(((r9.tail.tail.headD .undef).asBool) == ((r10.tail.tail.headD .undef).asBool))
              if v11 = true then
                some [D.bool false]
              else
                callB (f26 ((r9.headD .undef).asInt) (((r9.tail.headD .undef)).asRows)) fun r12 =>
                if (!((r9.tail.tail.headD .undef).asBool)) = true then
                  if ((((((r9.tail.headD .undef)).asRows).length : Int)) == 0) = true then
                    some [D.bool true]
                  else
                    if ((r9.tail.tail.headD .undef).asBool) = true then
                      if ((r12.tail.headD .undef).asBool) = true then
                        let v13 : Bool := (bytesOfRows (((r12.headD .undef)).asRows)).toList == (bytesOfRows (((r8.headD .undef)).asRows)).toList
                        some [D.bool v13]
                      else
                        some [D.bool false]
                    else
                      some [D.bool false]
                else
                  if ((r9.tail.tail.headD .undef).asBool) = true then
                    if ((r12.tail.headD .undef).asBool) = true then
                      let v14 : Bool := (bytesOfRows (((r12.headD .undef)).asRows)).toList == (bytesOfRows (((r8.headD .undef)).asRows)).toList
                      some [D.bool v14]
                    else
                      some [D.bool false]
                  else
                    some [D.bool false]
      else
        callB (f30 a0) fun r15 =>
        callB (f28 (((r15.headD .undef)).asRows)) fun r16 =>
        callB (f31 (((r15.headD .undef)).asRows)) fun r17 =>
        let v18 : Bool := !(((r16.tail.tail.headD .undef).asBool) == ((r17.tail.tail.headD .undef).asBool))
        if v18 = true then
          some [D.bool false]
        else
          callB (f26 ((r16.headD .undef).asInt) (((r16.tail.headD .undef)).asRows)) fun r19 =>
          if (!((r16.tail.tail.headD .undef).asBool)) = true then
            if ((((((r16.tail.headD .undef)).asRows).length : Int)) == 0) = true then
              some [D.bool true]
            else
              if ((r16.tail.tail.headD .undef).asBool) = true then
                if ((r19.tail.headD .undef).asBool) = true then
                  let v20 : Bool := (bytesOfRows (((r19.headD .undef)).asRows)).toList == (bytesOfRows (((r15.headD .undef)).asRows)).toList
                  some [D.bool v20]
                else
                  some [D.bool false]
              else
                some [D.bool false]
          else
            if ((r16.tail.tail.headD .undef).asBool) = true then
              if ((r19.tail.headD .undef).asBool) = true then
                let v21 : Bool := (bytesOfRows (((r19.headD .undef)).asRows)).toList == (bytesOfRows (((r15.headD .undef)).asRows)).toList
                some [D.bool v21]
              else
                some [D.bool false]
            else
              some [D.bool false]
noncomputable def live6 : Nat → List (Nat × LHint) := fun n => match n with
  | _ => []
noncomputable def env6 : Env := ⟨tys, look [(19, fi19), (25, fi25), (26, fi26), (27, fi27), (28, fi28), (29, fi29), (30, fi30), (31, fi31)], eqs⟩
noncomputable def fi6 : FI := { ps := [.val false [(.slc 5, 0)]], rs := [.val false [(.bool, 0)]], fresh := true, run := fun ds => f6 ((ds.headD .undef).asRows) }
theorem run6 (ds : List D) : evalFW env6 live6 Try.f6 [.val false [(.slc 5, 0)]] [.val false [(.bool, 0)]] ds = fi6.run ds := by kernel_rfl
theorem ok6 : FnOk Try.prog tys 6 fi6 :=
  evalF_ok (live := live6) mixed tysOk (E := env6) rfl (envOk (⟨ok19, ⟨ok25, ⟨ok26, ⟨ok27, ⟨ok28, ⟨ok29, ⟨ok30, ⟨ok31, trivial⟩⟩⟩⟩⟩⟩⟩⟩) eqsOk) Try.func6 (c := (Try.f6.body).getD .skip) (by kernel_rfl) (by rw [show Try.f6.name = "loop.example/g00106/laws.FnTable" by kernel_rfl]; decide) (fun ds out h => evalFW_some ((run6 ds).trans h)) (by decide) (by decide) (fun _ => by kernel_rfl)
end Go.Ev
