/- The logical machine, part 3: VmPrim, VmTab, VmMemo, VmLaw, VmSym. -/
import Derived.Test.YtcpamijbhidheaaGreatVm2
import Derived.Laws.Externs
import Derived.Lib.SliceRun
import Derived.ProofKit
import Derived.Carry
import Derived.OpenShut
import Derived.Deep.Slices
import Derived.Deep.Grids
import Derived.Test.YtcpamijbhidheaaGreatVm1
/- Functions that are known without their code: math/bits.Add64 and Sub64, slices.Clone. -/
namespace Go.Vm

section
variable {P : Program}

theorem fpost_pure {im : Im} {w : World} {v : PV} {u : Value} (hsr : SR im noLoc [] [] w) (hv : VR im noLoc v u) : FPost im noLoc [] w v [] [] im noLoc w u where
  imle := .refl _
  locle := .refl _
  vr := hv
  sr := hsr
  os := rfl
  tape := rfl
  output := rfl
  size := Nat.le_refl _
  frame := fun _ _ _ => rfl
  imnew := fun _ _ h => .inl h
  locs := fun _ _ h => .inl h
  own := fun t li k h => by cases h

theorem three_ints {im : Im} {loc : Loc} {k1 k2 k3 : IntKind} {a b c : Int} {us : List Value} (h : VRL im loc [.int k1 a, .int k2 b, .int k3 c] us) : us = [.int k1 a, .int k2 b, .int k3 c] := by
  cases h with
  | cons _ _ _ _ h1 h =>
    cases h with
    | cons _ _ _ _ h2 h =>
      cases h with
      | cons _ _ _ _ h3 h =>
        cases h
        rw [h1.int_inv, h2.int_inv, h3.int_inv]

/-- What is asked of math/bits.Add64 in a program. -/
theorem prim_add64 {f : FuncId} {fn : Func} (hf : P.funcs[f]? = some fn) (hname : (fn.name == "runtime.NumGoroutine") = false) (hb : fn.body.isNone = true) (hn : Extern.findNext fn = none) (he : Extern.find fn = some add64Entry) : PrimOK P f pAdd64 := by
  intro args v news hp im w us hsr hus
  unfold pAdd64 at hp
  split at hp
  · rename_i a b c
    split at hp
    · rename_i hc
      have hc : c ≤ 1 := by simpa using hc
      simp only [Option.some.injEq, Prod.mk.injEq] at hp
      obtain ⟨rfl, rfl⟩ := hp
      obtain rfl := three_ints hus
      refine .inl ⟨_, w, ?_, im, noLoc, fpost_pure hsr (.tup _ [.int .u64 (((a : Int) + b + c) % 18446744073709551616), .int .u64 (((a : Int) + b + c) / 18446744073709551616)] (.cons _ _ _ _ ?_ (.cons _ _ _ _ ?_ .nil)))⟩
      · rw [run_callFunc_extern hf hname hb hn he]
        have := run_add64 (P := P) (a : Int) b c (by omega) (by omega) (by omega) (by omega) w
        simp only [Int.ofNat_eq_natCast]
        rw [this]; rfl
      · have : Int.ofNat ((a + b + c) % 18446744073709551616) = ((a : Int) + b + c) % 18446744073709551616 := by
          simp only [Int.ofNat_eq_natCast]; omega
        rw [this]; exact .int _ _
      · have : Int.ofNat ((a + b + c) / 18446744073709551616) = ((a : Int) + b + c) / 18446744073709551616 := by
          simp only [Int.ofNat_eq_natCast]; omega
        rw [this]; exact .int _ _
    · cases hp
  · cases hp

def sub64Entry : Array Value → Sem Value := fun args => do
  let (x, y, b) ← Extern.MathBitsCarry.three "Sub64" args
  pure (Extern.MathBitsCarry.pair ((x + Extern.MathBitsCarry.m64 - y - b) % Extern.MathBitsCarry.m64) (if x < y + b then 1 else 0))

theorem prim_sub64 {f : FuncId} {fn : Func} (hf : P.funcs[f]? = some fn) (hname : (fn.name == "runtime.NumGoroutine") = false) (hb : fn.body.isNone = true) (hn : Extern.findNext fn = none) (he : Extern.find fn = some sub64Entry) : PrimOK P f pSub64 := by
  intro args v news hp im w us hsr hus
  unfold pSub64 at hp
  split at hp
  · rename_i a b c
    split at hp
    · rename_i hc
      simp only [Bool.and_eq_true, Nat.ble_eq] at hc
      obtain ⟨hc, hb2⟩ := hc
      simp only [Option.some.injEq, Prod.mk.injEq] at hp
      obtain ⟨rfl, rfl⟩ := hp
      obtain rfl := three_ints hus
      refine .inl ⟨Extern.MathBitsCarry.pair ((a + Extern.MathBitsCarry.m64 - b - c) % Extern.MathBitsCarry.m64) (if a < b + c then 1 else 0), w, ?_, im, noLoc, fpost_pure hsr (.tup _ _ (.cons _ _ _ _ (.int _ _) (.cons _ _ _ _ ?_ .nil)))⟩
      · rw [run_callFunc_extern hf hname hb hn he]
        have : c = 0 ∨ c = 1 := by omega
        rcases this with rfl | rfl <;> rfl
      · by_cases h : a < b + c
        · have : Nat.blt a (b + c) = true := by simpa using h
          rw [this, if_pos h]; exact .int _ _
        · have : Nat.blt a (b + c) = false := by
            cases hq : Nat.blt a (b + c) with
            | false => rfl
            | true => exact absurd (by simpa using hq) h
          rw [this, if_neg h]; exact .int _ _
    · cases hp
  · cases hp

/-! ### slices.Clone -/

def xcA (esz : Nat) : XCode := .region none [⟨some 2, .mov (.c (.sl esz true [])), none⟩] [0]
def xcN (esz : Nat) : XCode := .seq (.region none [⟨some 2, .mov (.c (.sl esz true [])), none⟩] [2]) .ret
def xcC (esz : Nat) (zero : Row) : XCode := .seq (.region none [⟨some 5, .mkrow esz 0 zero [], none⟩, ⟨some 6, .mov (.t 0), none⟩, ⟨some 7, .append esz (.t 5) (.t 6), none⟩, ⟨some 2, .mov (.t 7), none⟩] [2]) .ret

def chkNil (P : Program) (o : Oper) : Bool :=
  o.guard.isNone && o.dst == some 4 && (match o.op with
    | .binOp .eql t x (.const (.slice none 0 0)) _ => chkOpd (.t 3) x && isSliceT P t
    | _ => false)

def chkClone (P : Program) (esz : Nat) (zero : Row) (f : FuncId) : Bool :=
  match P.funcs[f]? with
  | some fn => !(fn.name == "runtime.NumGoroutine") && Nat.blt 7 fn.ntmps && chkRes P [.tmp 2] fn.results.toList && (match fn.body with
    | some (.seq a (.seq (.seq (.region _ ops false) (.cond c n .skip)) r)) =>
      chkCode P (fun _ => true) fn.ntmps (xcA esz) a && chkCode P (fun _ => true) fn.ntmps (xcN esz) n && chkCode P (fun _ => true) fn.ntmps (xcC esz zero) r && chkOpd (.t 4) c &&
        (match ops.toList with
        | [o1, o2] => chkOper P (fun _ => true) fn.ntmps ops ⟨some 3, .mov (.t 0), none⟩ o1 && chkNil P o2
        | _ => false)
    | _ => false)
  | none => false

theorem env0 : Env0 P (fun _ => none) (fun _ => none) := ⟨(fun f args sto fz v sto' fz' h => nomatch h), (fun f k p h => nomatch h)⟩
theorem loop0 {prims : FuncId → Bool} : LoopOK P prims (fun _ => none) := fun live x st e st' h => nomatch h

theorem prim_clone (hmix : P.follows .mixedOrders = true) {esz : Nat} {zero : Row} {f : FuncId} (hc : chkClone P esz zero f = true) : PrimOK P f (pClone esz) := by
  intro args v news hp im w us hsr hus
  unfold chkClone at hc
  cases hf : P.funcs[f]? with
  | none => rw [hf] at hc; cases hc
  | some fn =>
    rw [hf] at hc
    simp only [Bool.and_eq_true, Bool.not_eq_true'] at hc
    obtain ⟨⟨⟨hname, hnt⟩, hres⟩, hbody⟩ := hc
    have hnt : 7 < fn.ntmps := by simpa using hnt
    split at hbody
    · rename_i ca id ops cc cn cr hb
      simp only [Bool.and_eq_true] at hbody
      obtain ⟨⟨⟨⟨hA, hN⟩, hC⟩, hcc⟩, hops⟩ := hbody
      split at hops
      · rename_i o1 o2 hl
        simp only [Bool.and_eq_true] at hops
        obtain ⟨ho1, ho2⟩ := hops
        -- the argument
        have harg : ∃ e c rows, args = [.sl e c rows] := by
          unfold pClone at hp
          split at hp
          · exact ⟨_, _, _, rfl⟩
          · cases hp
        obtain ⟨e, cl, rows, rfl⟩ := harg
        obtain ⟨u, rfl⟩ : ∃ u, us = [u] := by
          cases hus with
          | cons _ u _ us h1 h2 => cases h2; exact ⟨u, rfl⟩
        refine .inr ⟨callFunc_enter hf hname hb, calls_of_wp hf hb ?_⟩
        let st0 : St := { env := [(0, .sl e cl rows)], sto := [], fz := [], kn := 0 }
        let a0 : Act := { tmps := (⟨[u]⟩ : Array Value) ++ Array.replicate (fn.ntmps - (⟨[u]⟩ : Array Value).size) Go.undef, defers := [] }
        have hat0 : At im noLoc [] w fn.ntmps st0 a0 w := by
          refine ⟨im, noLoc, ⟨⟨hsr, .refl _, .refl _, rfl, rfl, rfl, Nat.le_refl _, fun _ _ _ => rfl, fun _ _ h => .inl h, fun _ _ h => .inl h, fun t li k hl => by cases hl⟩, rfl, Nat.le_refl _, fun t li hl => by cases hl⟩, ⟨start_env hus _, rfl, ?_⟩⟩
          simp only [a0, Array.size_append, Array.size_replicate]
          show 1 + (fn.ntmps - 1) = _
          omega
        have fin : ∀ (st : St) (v' : PV), lk 2 st.env = v' → ∀ a' w', At im noLoc [] w fn.ntmps st a' w' →
            a'.defers = [] ∧ ∃ u, (results fn a'.tmps).run P w' = .ok u w' ∧ ∃ v'' : Value, Ending.returned u = .returned v'' ∧ ∃ im' loc', FPost im noLoc [] w v' st.sto st.fz im' loc' w' v'' := by
          intro st v' hv' a' w' hat
          obtain ⟨im', loc', hk, hact⟩ := hat.ex
          obtain ⟨u, hu, hvr⟩ := results_ok (P := P) (fn := fn) hk.kept.sr hact.env hres (vs := [v']) (by simp [resAll, resOf, hv'])
          have K := hk.kept
          exact ⟨hact.defers, u, hu, u, rfl, im', loc', ⟨K.imle, K.locle, hvr, K.sr, K.os, K.tape, K.output, K.size, K.frame, K.imnew, K.locs, K.own⟩⟩
        refine wp_seq ?_
        refine code_sim env0 loop0 hmix (xcA esz) _ st0 .normal { env := [(0, .sl e cl rows)], sto := [], fz := [], kn := 0 } hA rfl a0 w hat0 _ fun a1 w1 hat1 => ?_
        refine wp_seq (wp_seq ?_)
        -- the comparison with nil
        refine wp_region ?_
        have hops2 : ops = #[o1, o2] := Array.ext' (by simpa using hl)
        subst hops2
        obtain ⟨im1, loc1, hk1, hact1⟩ := hat1.ex
        have hx0 := hact1.env 0
        have hx0 : VR im1 loc1 (.sl e cl rows) (a1.tmps.getD 0 Go.undef) := hx0
        obtain ⟨ad, cap, hu0, hcap, hck, hrows⟩ := hx0.sl_inv
        -- the first operation
        unfold chkOper at ho1
        simp only [Bool.and_eq_true, beq_iff_eq] at ho1
        obtain ⟨⟨⟨hd1, _⟩, hg1⟩, hop1⟩ := ho1
        have hg1' : o1.guard = none := by
          cases hg : o1.guard with
          | none => rfl
          | some q => rw [hg] at hg1; simp [chkGuard] at hg1
        have hop1' : ∃ x, (o1.op = .move x ∨ o1.op = .assign x) ∧ chkOpd (.t 0) x = true := by
          cases ho : o1.op <;> rw [ho] at hop1 <;> simp only [chkOp] at hop1 <;> first | exact ⟨_, .inl rfl, hop1⟩ | exact ⟨_, .inr rfl, hop1⟩ | simp at hop1
        obtain ⟨x1, hx1, hcx1⟩ := hop1'
        have hx1' : a1.eval x1 = .slice ad rows.length cap := by
          have h := opd_ok (a := a1) (e := [(0, PV.sl e cl rows)]) (.t 0) (fun t ht => by injection ht with ht; subst ht; exact hact1.env 0) x1 hcx1
          cases x1 with
          | tmp t =>
            have : (0 : Nat) = t := by simpa [chkOpd] using hcx1
            subst this
            simpa [Act.eval] using hu0
          | _ => simp [chkOpd] at hcx1
        have hrun1 : (execOp a1.eval o1).run P w1 = .ok (.value (.slice ad rows.length cap)) w1 := by
          rcases hx1 with h | h <;> simp [execOp, h, hx1']
        -- the second
        unfold chkNil at ho2
        simp only [Bool.and_eq_true, beq_iff_eq, Option.isNone_iff_eq_none] at ho2
        obtain ⟨⟨hg2, hd2⟩, hop2⟩ := ho2
        split at hop2
        case h_2 => cases hop2
        rename_i ty x2 ub hop2e
        simp only [Bool.and_eq_true] at hop2
        obtain ⟨hx2, hst⟩ := hop2
        have hx2' : x2 = .tmp 3 := by
          cases x2 with
          | tmp t =>
            have : (3 : Nat) = t := by simpa [chkOpd] using hx2
            subst this; rfl
          | _ => simp [chkOpd] at hx2
        subst hx2'
        unfold isSliceT at hst
        split at hst
        case h_2 => cases hst
        rename_i el hty
        have hsz1 : a1.tmps.size = fn.ntmps := hact1.nts
        let a2 : Act := a1.put (some 3) (.slice ad rows.length cap)
        have ha2 : a2.tmps.getD 3 Go.undef = .slice ad rows.length cap := by
          simp only [a2, Act.put, Array.getD_eq_getD_getElem?]
          rw [Array.getElem?_setIfInBounds_self_of_lt (by omega)]; rfl
        have hrun2 : (execOp a2.eval o2).run P w1 = .ok (.value (.bool ad.isNone)) w1 := by
          simp only [execOp, hop2e]
          refine run_value ?_
          have e3 : a2.eval (.tmp 3) = .slice ad rows.length cap := by simpa [Act.eval] using ha2
          rw [e3]
          have hg : (eqGuard .eql ty (.tmp 3) (.const (.slice none 0 0)) (.slice ad rows.length cap) (a2.eval (.const (.slice none 0 0)))).run P w1 = .ok () w1 := by
            unfold eqGuard; simp [Act.eval]
          simp only [Sem.run_bind, hg, Result.andThen_ok]
          exact Lib.run_eql_slice_nil w1 ty el ad rows.length cap 0 0 hty
        let a3 : Act := a2.put (some 4) (.bool ad.isNone)
        have hat3 : At im noLoc [] w fn.ntmps { env := [(0, .sl e cl rows)], sto := [], fz := [], kn := 0 } a3 w1 := by
          refine ⟨im1, loc1, hk1, ⟨fun t => ?_, hact1.defers, by simp [a3, a2, Act.put, hsz1]⟩⟩
          have h := hact1.env t
          simp only [lk_cons] at h ⊢
          by_cases ht : t = 0
          · subst ht
            simp only [if_true] at h ⊢
            simpa [a3, a2, Act.put, Array.getElem?_setIfInBounds] using h
          · rw [if_neg (fun e => ht e.symm)]; exact .undef _
        have ha3 : a3.eval cc = .bool ad.isNone := by
          cases cc with
          | tmp t =>
            have : (4 : Nat) = t := by simpa [chkOpd] using hcc
            subst this
            simp only [Act.eval, a3, Act.put, Array.getD_eq_getD_getElem?]
            rw [Array.getElem?_setIfInBounds_self_of_lt (by simp [a2, Act.put]; omega)]; rfl
          | _ => simp [chkOpd] at hcc
        have hrange : List.range #[o1, o2].size = [0, 1] := rfl
        rw [hrange]
        simp only [wpOps]
        have e0 : (#[o1, o2] : Array Oper)[0]? = some o1 := rfl
        have e1 : (#[o1, o2] : Array Oper)[1]? = some o2 := rfl
        rw [e0]; dsimp only
        have hw1 : Region.wanted o1 (yielded #[o1, o2] a1.tmps) = true := by unfold Region.wanted; rw [hg1']
        rw [hw1, if_pos rfl]
        refine .inl ?_
        unfold Oper.wp
        rw [hrun1, Oper.upon_value, ← hd1, e1]
        dsimp only
        have hw2 : Region.wanted o2 (yielded #[o1, o2] (a1.put (some 3) (.slice ad rows.length cap)).tmps) = true := by unfold Region.wanted; rw [hg2]
        rw [hw2, if_pos rfl]
        refine .inl ?_
        rw [show a1.put (some 3) (.slice ad rows.length cap) = a2 from rfl, hrun2, Oper.upon_value, hd2]
        show (Code.cond cc cn .skip).wp P _ a3 w1
        -- the branches
        cases had : ad with
        | none =>
          have hnil : rows = [] := by
            rcases rows with _ | ⟨r, rs⟩
            · rfl
            · obtain ⟨b, o, h, _⟩ := hrows (by simp)
              rw [had] at h; cases h
          subst hnil
          simp only [pClone, Option.some.injEq, Prod.mk.injEq] at hp
          obtain ⟨rfl, rfl⟩ := hp
          refine wp_cond_true (by rw [ha3, had]; rfl) ?_
          refine code_sim env0 loop0 hmix (xcN esz) _ _ .ret { env := [(2, .sl esz true [])], sto := [], fz := [], kn := 0 } hN rfl a3 w1 hat3 _ fun a4 w4 hat4 => ?_
          obtain ⟨hdf, u', hu', v'', hv'', im', loc', hf'⟩ := fin _ _ rfl a4 w4 hat4
          refine ⟨hdf, u', hu', v'', hv'', im', loc'.set 0 ⟨0, 0, esz, 0, 0⟩, ?_⟩
          have hnone : ∀ t, loc' t = none := fun t => by
            cases hl : loc' t with
            | none => rfl
            | some li => obtain ⟨k, hk, _⟩ := hf'.sr.blk t li hl; simp at hk
          obtain ⟨ad', cap', hv3, _, hck', _⟩ := hf'.vr.sl_inv
          have hc0 : cap' = 0 := by simpa using hck' rfl
          subst hc0
          exact {
            imle := hf'.imle, locle := fun t li h => by cases h
            vr := by rw [hv3]; exact .own 0 esz 0 0 0 false ⟨0, 0, esz, 0, 0⟩ ad' 0 (Loc.set_same _ _ _) rfl (Nat.le_refl _) (Nat.le_refl _) (Nat.le_refl _) (fun h => by cases h) (.inl rfl)
            sr := {
              im_ok := hf'.sr.im_ok
              blk := fun t li h => by
                unfold Loc.set at h
                split at h
                · rename_i ht; subst ht; injection h with h; subst h
                  exact ⟨_, rfl, rfl, rfl, fun h => absurd rfl h⟩
                · rw [hnone t] at h; cases h
              excl := fun t u li lj k k' h h' hs hs' hso => by
                unfold Loc.set at h
                split at h
                · rename_i ht; subst ht; simp at hs; subst hs; cases hso
                · rw [hnone t] at h; cases h
              free := fun t li k h hs hso => by
                unfold Loc.set at h
                split at h
                · rename_i ht; subst ht; simp at hs; subst hs; cases hso
                · rw [hnone t] at h; cases h }
            os := hf'.os, tape := hf'.tape, output := hf'.output, size := hf'.size, frame := hf'.frame, imnew := hf'.imnew
            locs := fun t li h => .inr (Nat.zero_le _)
            own := fun t li k h hs hso => by
              unfold Loc.set at h
              split at h
              · rename_i ht; subst ht; simp at hs; subst hs; cases hso
              · rw [hnone t] at h; cases h }
        | some ad' =>
          refine wp_cond_false (by rw [ha3, had]; rfl) (wp_skip ?_)
          rcases rows with _ | ⟨r, rs⟩
          · simp only [pClone, Option.some.injEq, Prod.mk.injEq] at hp
            obtain ⟨rfl, rfl⟩ := hp
            refine code_sim env0 loop0 hmix (xcC esz zero) _ _ .ret { env := [(2, .own 0 esz 0 0 0 true)], sto := [.arr esz []], fz := [], kn := 0 } hC rfl a3 w1 hat3 _ fun a4 w4 hat4 => ?_
            obtain ⟨hdf, u', hu', v'', hv'', im', loc', hf'⟩ := fin _ _ rfl a4 w4 hat4
            refine ⟨hdf, u', hu', v'', hv'', im', loc', ?_⟩
            obtain ⟨li, a, cap', h1, h2, h3, h4, h5, h6, h7, h8⟩ := hf'.vr.own_inv
            exact { imle := hf'.imle, locle := hf'.locle, sr := hf'.sr, os := hf'.os, tape := hf'.tape, output := hf'.output, size := hf'.size, frame := hf'.frame, imnew := hf'.imnew, locs := hf'.locs, own := hf'.own
                    vr := by rw [h1]; exact .own 0 esz 0 0 0 false li a cap' h2 h3 h4 h5 h6 (fun h => by cases h) h8 }
          · simp only [pClone] at hp
            split at hp
            case isFalse => cases hp
            rename_i hcond
            simp only [Bool.and_eq_true, Nat.beq_eq, Nat.ble_eq] at hcond
            obtain ⟨rfl, hmost⟩ := hcond
            simp only [Option.some.injEq, Prod.mk.injEq] at hp
            obtain ⟨rfl, rfl⟩ := hp
            have hap : appendE [.arr e []] [] e (.own 0 e 0 0 0 true) (.sl e cl (r :: rs)) = some { v := .own 1 e 0 (0 + (rs.length + 1)) (0 + (rs.length + 1)) false, news := [.arr e (r :: rs)], rd := [0] } := by
              have h1 : Nat.beq e e = true := by simp
              have h2 : Nat.ble (rs.length + 1) 0 = false := rfl
              have h3 : Nat.ble (0 + (rs.length + 1)) most = true := by simpa using hmost
              simp only [appendE, rowsOf, h1, if_true]
              simp [h2, hmost, tokOf]
            refine code_sim env0 loop0 hmix (xcC e zero) _ _ .ret { env := [(2, .own 1 e 0 (0 + (rs.length + 1)) (0 + (rs.length + 1)) false)], sto := [.arr e [], .arr e (r :: rs)], fz := [], kn := 0 } hC ?_ a3 w1 hat3 _ fun a4 w4 hat4 => fin _ _ rfl a4 w4 hat4
            simp only [xcC, evC, evRegion, evOps, wanted, evX, evOp, Opd.ev, lk]
            simp [fillRows, XR.ok, nodupW, XR.next, putEnv, addN, applyWr, lk, hap]
      · cases hops
    · cases hbody

end
end Go.Vm

/- A table of functions as a tree. -/
namespace Go.Vm

inductive TT where
  | nil
  | leaf (k : Nat) (e : Ent)
  | node (m : Nat) (a b : TT)

def TT.get : TT → Nat → Option Ent
  | .nil, _ => none
  | .leaf k e, f => bif Nat.beq f k then some e else none
  | .node m a b, f => bif Nat.blt f m then a.get f else b.get f

def TT.All (p : Nat → Ent → Prop) : TT → Prop
  | .nil => True
  | .leaf k e => p k e
  | .node _ a b => a.All p ∧ b.All p

theorem TT.get_all {p : Nat → Ent → Prop} : ∀ {t : TT} {f : Nat} {e : Ent}, t.All p → t.get f = some e → p f e
  | .nil, f, e, _, h => by cases h
  | .leaf k e', f, e, ha, h => by
    simp only [TT.get] at h
    cases hk : Nat.beq f k with
    | false => rw [hk] at h; cases h
    | true =>
      rw [hk] at h
      have : f = k := by simpa using hk
      subst this
      have h : some e' = some e := h
      injection h with h; subst h; exact ha
  | .node m a b, f, e, ha, h => by
    simp only [TT.get] at h
    cases hk : Nat.blt f m with
    | false => rw [hk] at h; exact TT.get_all ha.2 h
    | true => rw [hk] at h; exact TT.get_all ha.1 h

def EntOK (P : Program) (f : Nat) : Ent → Prop
  | .code x => chkFunc P (fun _ => true) x f = true
  | .prim k p => k = false ∧ PrimOK P f p

theorem TT.tabOK {P : Program} {t : TT} (h : t.All (EntOK P)) : TabOK P (fun _ => true) t.get := fun f x hf => by
  have := TT.get_all h hf
  exact this

theorem TT.primsOK {P : Program} {t : TT} (h : t.All (EntOK P)) : PrimsOK P t.get := fun f k p hf => by
  have := TT.get_all h hf
  exact this

end Go.Vm

/- What a function is known to answer at some arguments, as a table of its own. -/
namespace Go.Vm

def intEq : Int → Int → Bool
  | .ofNat a, .ofNat b => Nat.beq a b
  | .negSucc a, .negSucc b => Nat.beq a b
  | _, _ => false

theorem intEq_eq : ∀ {a b : Int}, intEq a b = true → a = b
  | .ofNat a, .ofNat b, h => by simp only [intEq, Nat.beq_eq] at h; rw [h]
  | .negSucc a, .negSucc b, h => by simp only [intEq, Nat.beq_eq] at h; rw [h]
  | .ofNat _, .negSucc _, h => by cases h
  | .negSucc _, .ofNat _, h => by cases h

def plainEq : PV → PV → Bool
  | .int k a, .int l b => kindEq k l && intEq a b
  | .bool a, .bool b => match a, b with | true, true => true | false, false => true | _, _ => false
  | _, _ => false

theorem plainEq_eq {x y : PV} (h : plainEq x y = true) : x = y := by
  unfold plainEq at h
  split at h
  · simp only [Bool.and_eq_true] at h
    rw [kindEq_iff.1 h.1, intEq_eq h.2]
  · split at h <;> first | rfl | cases h
  · cases h

def rowEq : Row → Row → Bool
  | [], [] => true
  | x :: xs, y :: ys => plainEq x y && rowEq xs ys
  | _, _ => false

theorem rowEq_eq : ∀ {x y : Row}, rowEq x y = true → x = y
  | [], [], _ => rfl
  | x :: xs, y :: ys, h => by
    simp only [rowEq, Bool.and_eq_true] at h
    rw [plainEq_eq h.1, rowEq_eq h.2]
  | [], _ :: _, h => by cases h
  | _ :: _, [], h => by cases h

def rowsEq : List Row → List Row → Bool
  | [], [] => true
  | x :: xs, y :: ys => rowEq x y && rowsEq xs ys
  | _, _ => false

theorem rowsEq_eq : ∀ {x y : List Row}, rowsEq x y = true → x = y
  | [], [], _ => rfl
  | x :: xs, y :: ys, h => by
    simp only [rowsEq, Bool.and_eq_true] at h
    rw [rowEq_eq h.1, rowsEq_eq h.2]
  | [], _ :: _, h => by cases h
  | _ :: _, [], h => by cases h

/-- Values of a flat kind: plain ones, and slices. -/
def cellEq : PV → PV → Bool
  | .sl e c r, .sl e' c' r' => Nat.beq e e' && (match c, c' with | true, true => true | false, false => true | _, _ => false) && rowsEq r r'
  | x, y => plainEq x y

theorem cellEq_eq {x y : PV} (h : cellEq x y = true) : x = y := by
  unfold cellEq at h
  split at h
  · simp only [Bool.and_eq_true, Nat.beq_eq] at h
    obtain ⟨⟨rfl, h2⟩, h3⟩ := h
    rw [rowsEq_eq h3]
    split at h2 <;> first | rfl | cases h2
  · exact plainEq_eq h

def cellsEq : List PV → List PV → Bool
  | [], [] => true
  | x :: xs, y :: ys => cellEq x y && cellsEq xs ys
  | _, _ => false

theorem cellsEq_eq : ∀ {x y : List PV}, cellsEq x y = true → x = y
  | [], [], _ => rfl
  | x :: xs, y :: ys, h => by
    simp only [cellsEq, Bool.and_eq_true] at h
    rw [cellEq_eq h.1, cellsEq_eq h.2]
  | [], _ :: _, h => by cases h
  | _ :: _, [], h => by cases h

def argEq : PV → PV → Bool
  | .agg a, .agg b => cellsEq a b
  | x, y => cellEq x y

theorem argEq_eq {x y : PV} (h : argEq x y = true) : x = y := by
  unfold argEq at h
  split at h
  · rw [cellsEq_eq h]
  · exact cellEq_eq h

def argsEq : List PV → List PV → Bool
  | [], [] => true
  | x :: xs, y :: ys => argEq x y && argsEq xs ys
  | _, _ => false

theorem argsEq_eq : ∀ {x y : List PV}, argsEq x y = true → x = y
  | [], [], _ => rfl
  | x :: xs, y :: ys, h => by
    simp only [argsEq, Bool.and_eq_true] at h
    rw [argEq_eq h.1, argsEq_eq h.2]
  | [], _ :: _, h => by cases h
  | _ :: _, [], h => by cases h

def pMemo : List (List PV × PV) → List PV → Option (PV × Sto)
  | [], _ => none
  | p :: r, args => match argsEq p.1 args with
    | true => some (p.2, [])
    | false => pMemo r args

theorem pMemo_mem : ∀ {l : List (List PV × PV)} {args : List PV} {q : PV × Sto}, pMemo l args = some q → (args, q.1) ∈ l ∧ q.2 = []
  | [], args, q, h => by cases h
  | p :: r, args, q, h => by
    simp only [pMemo] at h
    split at h
    · rename_i he
      injection h with h; subst h
      have := argsEq_eq he
      subst this
      exact ⟨by simp, rfl⟩
    · obtain ⟨h1, h2⟩ := pMemo_mem h
      exact ⟨by simp [h1], h2⟩

/-- An answer without slices. -/
def gives (o : Option Out) (v : PV) : Bool :=
  match o with
  | some (.func u _ _) => argEq u v || (match u, v with | .tup a, .tup b => rowEq a b | _, _ => false)
  | _ => false

theorem gives_eq {o : Option Out} {v : PV} (h : gives o v = true) : ∃ s z, o = some (.func v s z) := by
  unfold gives at h
  split at h
  · rename_i u s z
    simp only [Bool.or_eq_true] at h
    rcases h with h | h
    · rw [argEq_eq h]; exact ⟨s, z, rfl⟩
    · split at h
      · rw [rowEq_eq h]; exact ⟨s, z, rfl⟩
      · cases h
  · cases h

def over (f : FuncId) (l : List (List PV × PV)) (F : Tab) : Tab := fun k => bif Nat.beq k f then some (.prim false (pMemo l)) else F k

section
variable {P : Program} {F : Tab} {prims : FuncId → Bool}

theorem over_tabOK {f : FuncId} {l : List (List PV × PV)} (h : TabOK P prims F) : TabOK P prims (over f l F) := fun g x hg => by
  unfold over at hg
  cases hk : Nat.beq g f with
  | true => rw [hk] at hg; cases hg
  | false => rw [hk] at hg; exact h g x hg

theorem prim_memo (hT : TabOK P prims F) (hprim : PrimsOK P F) (hmix : P.follows .mixedOrders = true) {f : FuncId} {l : List (List PV × PV)} (h : ∀ p ∈ l, ∃ n, gives (run F n (.func f p.1 [] [])) p.2 = true) (hn : l.all (fun p => p.2.noref) = true) :
    PrimOK P f (pMemo l) := by
  intro args v news hp im w us hsr hus
  obtain ⟨hm, hnil⟩ := pMemo_mem hp
  dsimp only at hnil hm
  subst hnil
  obtain ⟨n, hg⟩ := h _ hm
  obtain ⟨s, z, hr⟩ := gives_eq hg
  have hno : v.noref = true := List.all_eq_true.1 hn _ hm
  refine ((sound hT hprim hmix n).1 f args [] [] v s z hr im noLoc w us hsr hus).mono fun u w' ⟨im', loc', hf⟩ => ⟨im, noLoc, ?_⟩
  exact {
    imle := .refl _, locle := .refl _
    vr := noref_ok hno hf.vr
    sr := SR.empty fun b o hb => hf.sr.im_ok b o (hf.imle b o hb)
    os := hf.os, tape := hf.tape, output := hf.output, size := hf.size
    frame := fun b hb _ => hf.frame b hb fun t li k hl => by cases hl
    imnew := fun b o hb => .inl hb
    locs := fun t li hl => by cases hl
    own := fun t li k hl => by cases hl }

theorem over_primsOK {f : FuncId} {l : List (List PV × PV)} (hT : TabOK P prims F) (hprim : PrimsOK P F) (hmix : P.follows .mixedOrders = true) (h : ∀ p ∈ l, ∃ n, gives (run F n (.func f p.1 [] [])) p.2 = true) (hn : l.all (fun p => p.2.noref) = true) :
    PrimsOK P (over f l F) := fun g k p hg => by
  unfold over at hg
  cases hk : Nat.beq g f with
  | true =>
    rw [hk] at hg
    have : g = f := by simpa using hk
    subst this
    simp only [cond_true, Option.some.injEq, Ent.prim.injEq] at hg
    obtain ⟨rfl, rfl⟩ := hg
    exact ⟨rfl, prim_memo hT hprim hmix h hn⟩
  | false => rw [hk] at hg; exact hprim g k p hg

end
end Go.Vm

/- A law's row from what the logical machine answers: the result is true, nothing that was there has turned. -/
namespace Go.Vm
open Go.ChangeShapes Go.WideShapes Go.ChangeAt Go.RowKit

section
variable {H : Type} {enc : TypeId × Value → H} {P : Program}

theorem trodAll_below (hl : laidOutB P = true) {W W' : World} (hb : Below W.heap.size W W') : ∀ {ts : List TypeId} {vs : List Value} {ds : List (DataW H)} {ps : List MemPlace}, (∀ t ∈ ts, P.readableRec t = true ∧ t < P.types.size) →
    DataW.TrodAll enc P W 0 (fun _ => true) true ts vs ds ps → (∀ x ∈ ps, x.block < W.heap.size) → DataW.TrodAll enc P W' 0 (fun b => decide (b < W.heap.size)) true ts vs ds ps
  | [], vs, ds, ps, _, h, _ => by
    obtain ⟨rfl, rfl, rfl⟩ := trodAll_nil h
    exact trodAll_mk0
  | t :: ts, vs, ds, ps, ht, h, hlt => by
    obtain ⟨v, vs', d, ds', p, q, rfl, rfl, rfl, h1, h2⟩ := trodAll_cons h
    obtain ⟨h3, h4⟩ := ht t (by simp)
    exact trodAll_cons_mk (Below.trod hl h3 h4 h1 hb fun x hx => hlt x (by simp [hx])) (trodAll_below hl hb (fun t' ht' => ht t' (by simp [ht'])) h2 fun x hx => hlt x (by simp [hx]))

/-- Where a law says 'true' and leaves its arguments as they are. -/
theorem law_post (hl : laidOutB P = true) {f : Func} {s : ChangeSpec} {W W' : World} {args : Array Value} {ds : List (DataW H)} {before : List MemPlace} {bt : TypeId} (hvars : s.vars = []) (hres : f.resultTypes = #[bt]) (hbt : P.underlying bt = some .bool)
    (hp : ∀ t ∈ f.params.toList, P.readableRec t = true ∧ t < P.types.size) (hW : DataW.Whole enc P f.params.toList s.vars false W args.toList ds [] before)
    (hfn : s.fn H (ds ++ []) = { results := [.lit (.bool true)], args := ds }) (hb : Below W.heap.size W W') : s.post enc P f false true false false W args (.bool true) W' := by
  have hW' := hW
  obtain ⟨p, q, hA, hV, rfl, hfz, hnd⟩ := hW
  have hlt : ∀ x ∈ p ++ q, x.block < W.heap.size := fun x hx => by simpa using hW'.lt x hx
  refine ⟨ds, [], p ++ q, [], p, [], hW', ?_, ?_, ?_, hb.frame _, fun h => by cases h⟩
  · rw [hfn, hres]
    exact trodAll_mk1 (shut_bool hbt true)
  · rw [hfn]
    exact trodAll_below hl hb hp hA fun x hx => hlt x (by simp [hx])
  · rw [hfn, hvars]
    rfl

end

/-- All that is there. -/
def imOf (w : World) : Im := fun b => w.heap[b]?

theorem imOf_cell {w : World} {b o : Nat} {v : Value} (h : w.cell? ⟨b, o, none⟩ = some v) : imCell (imOf w) b o = some v := by
  unfold World.cell? at h
  unfold imCell imOf
  exact h

def encBools (l : List Bool) : PV := .sl 1 false (l.map fun b => [.bool b])

/-- A slice of bools that came in. -/
theorem vr_bools {H : Type} {enc : TypeId × Value → H} {P : Program} {t e : TypeId} {w : World} {base : Nat} {v : Value} {d : DataW H} {p : List MemPlace} (ht : P.underlying t = some (.slice e)) (he : P.underlying e = some .bool) (hc : P.cellsOf e = 1)
    (hv : Value.okWide P w .any base t v) (h : DataW.Trod enc P w 0 (fun _ => true) true t v d p) : ∃ l : List Bool, VR (imOf w) noLoc (encBools l) v ∧ l.length ≤ maxLen := by
  obtain ⟨a, len, cap, rfl⟩ := okWide_slice ht hv
  obtain ⟨fuel, hf⟩ := h
  rcases Go.Deep.open_bools (cs := (Value.slice a len cap).cells.toList) ht he hc hf with ⟨hcs, _⟩ | ⟨ad, len', cap', B, hcs, _, hl, hm, _, hcell⟩
  · have : a = none ∧ len = 0 ∧ cap = 0 := by simpa [Value.cells] using hcs
    obtain ⟨rfl, rfl, rfl⟩ := this
    exact ⟨[], .sl 1 false [] none 0 (Nat.le_refl _) (fun h => by cases h) (fun h => absurd rfl h), Nat.zero_le _⟩
  · have : a = some ad ∧ len = len' ∧ cap = cap' := by simpa [Value.cells] using hcs
    obtain ⟨rfl, rfl, rfl⟩ := this
    refine ⟨(List.range len).map B, ?_, by simp; omega⟩
    have hlen : ((((List.range len).map B)).map fun b => [PV.bool b]).length = len := by simp
    have := VR.sl (im := imOf w) (loc := noLoc) 1 false ((((List.range len).map B)).map fun b => [PV.bool b]) (some ad) cap (by rw [hlen]; exact hl) (fun h => by cases h) (fun hne => by
      have hpos : 0 < len := by
        rcases Nat.eq_zero_or_pos len with h | h
        · subst h; exact absurd rfl hne
        · exact h
      obtain ⟨b, off, spot⟩ := ad
      have hspot : spot = none := by simpa [Addr.add] using World.cell?_spot (hcell 0 (by omega))
      subst hspot
      refine ⟨b, off, rfl, fun i r hr => ?_⟩
      simp only [List.map_map, List.getElem?_map, Option.map_eq_some_iff] at hr
      obtain ⟨j, hj, rfl⟩ := hr
      have hjl := lt_of_get hj
      have : j = i := by
        rw [List.getElem?_range (by simpa using hjl)] at hj
        exact (Option.some.inj hj).symm
      subst this
      refine ⟨rfl, fun k c hk => ?_⟩
      match k, hk with
      | 0, hk =>
        simp at hk; subst hk
        refine ⟨_, rfl, imOf_cell ?_⟩
        have := hcell j (by simp at hjl; omega)
        rw [Go.WideShapes.add_plain] at this
        simpa using this
      | k + 1, hk => simp at hk)
    rw [hlen] at this
    exact this

/-- The contract of a law, over the logical machine. -/
theorem law_calls {P : Program} {F : Tab} {prims : FuncId → Bool} (hT : TabOK P prims F) (hprim : PrimsOK P F) (hmix : P.follows .mixedOrders = true) {f : FuncId} {args : List PV} {s : Sto} {z : List Nat} {n : Nat} {us : List Value} {w : World}
    (h : run F n (.func f args [] []) = some (.func (.bool true) s z)) (hus : VRL (imOf w) noLoc args us) : Calls P f ⟨us⟩ w fun e w' => e = .returned (.bool true) ∧ Below w.heap.size w w' := by
  refine (call_pure hT hprim hmix h (im := imOf w) (fun b o h => h) hus).mono fun e w' ⟨u, he, ⟨im', loc', hvr, _⟩, h1, h2, h3, h4, h5⟩ => ?_
  obtain rfl := hvr.bool_inv
  exact ⟨he, ⟨h1, h2, h3, h4, h5⟩⟩

end Go.Vm

/- Regions of one order, step by step, for contracts. -/
namespace Go.Vm

def isCall : XOp → Bool
  | .call .. | .callv .. => true
  | _ => false

variable {F : Tab}

/-- A region's operations from a state on; the trace is not asked for. -/
def WS (F : Tab) (ops : List XOper) (st : St) (Q : St → Prop) : Prop := ∀ tr, WO F ops st tr (fun s _ => Q s)

def stepOp (st : St) (o : XOper) : Option St :=
  match wanted o.guard st.env with
  | some true => match evOp st.env st.sto st.fz o.op with
    | some x => if (XR.loc x).ok st.fz then some ((XR.loc x).next o.dst st) else none
    | none => none
  | some false => some { st with env := putEnv o.dst .nul st.env }
  | none => none

theorem evX_loc {rec : Task → Option Out} {e : Env} {sto : Sto} {fz : List Nat} {op : XOp} (h : isCall op = false) :
    evX F rec e sto fz op = (evOp e sto fz op).map .loc := by
  cases op <;> first | rfl | cases h

theorem WS.nil {st : St} {Q : St → Prop} (h : Q st) : WS F [] st Q := fun _ => WO.nil h

theorem WS.cons {o : XOper} {r : List XOper} {st st' : St} {Q : St → Prop} (h : isCall o.op = false) (hs : stepOp st o = some st') (k : WS F r st' Q) : WS F (o :: r) st Q := by
  intro tr
  unfold stepOp at hs
  split at hs
  · rename_i hw
    split at hs
    · rename_i x hx
      split at hs
      · rename_i hok
        injection hs with hs; subst hs
        exact WO.op x hw (fun rec => by rw [evX_loc h, hx]; rfl) hok (k _)
      · cases hs
    · cases hs
  · rename_i hw
    injection hs with hs; subst hs
    exact WO.skip hw (k _)
  · cases hs

theorem WS.one {o : XOper} {r : List XOper} {st : St} {Q : St → Prop} (x : Res) (hc : isCall o.op = false) (hw : wanted o.guard st.env = some true) (hx : evOp st.env st.sto st.fz o.op = some x) (hok : (XR.loc x).ok st.fz = true)
    (k : WS F r ((XR.loc x).next o.dst st) Q) : WS F (o :: r) st Q := fun tr =>
  WO.op x hw (fun rec => by rw [evX_loc hc, hx]; rfl) hok (k _)

/-- The operations that call nothing, at once. -/
def stepOps : List XOper → St → Option St
  | [], st => some st
  | o :: r, st => match isCall o.op with
    | true => none
    | false => match stepOp st o with
      | some st' => stepOps r st'
      | none => none

theorem WS.all : ∀ {ops : List XOper} {st st' : St} {Q : St → Prop}, stepOps ops st = some st' → Q st' → WS F ops st Q
  | [], st, st', Q, h, hq => by simp only [stepOps, Option.some.injEq] at h; subst h; exact WS.nil hq
  | o :: r, st, st', Q, h, hq => by
    simp only [stepOps] at h
    cases hc : isCall o.op with
    | true => rw [hc] at h; cases h
    | false =>
      rw [hc] at h
      dsimp only at h
      cases hs : stepOp st o with
      | none => rw [hs] at h; cases h
      | some s1 => rw [hs] at h; exact WS.cons hc hs (WS.all h hq)

theorem WP.reg {ops : List XOper} {keep : List Nat} {st : St} {Q : XExit → St → Prop} (h : WS F ops st (fun s => Q .normal (keepOnly keep s))) : WP F (.region none ops keep) st Q := WP.region (h [])

/-- A region without calls, at once. -/
theorem WP.regAll {ops : List XOper} {keep : List Nat} {st st' : St} {Q : XExit → St → Prop} (h : stepOps ops st = some st') (hq : Q .normal (keepOnly keep st')) : WP F (.region none ops keep) st Q :=
  WP.reg (WS.all h hq)

theorem WS.pure {d : Option Nat} {g : Option (Nat × Bool)} {f : FuncId} {as : List Opd} {r : List XOper} {st : St} {Q : St → Prop}
    {args : List PV} {v : PV} (h : Pure F f args v) (hw : wanted g st.env = some true) (ha : exL st.sto (exBx st.sto deep) (evs st.env as) = some args)
    (k : WS F r { st with env := putEnv d v st.env } Q) : WS F (⟨d, .call .pur f as, g⟩ :: r) st Q := fun tr => by
  refine WO.pure h hw ha ?_
  have := k (XR.tr st.sto.length (.loc { v, rd := toksL (toksBx st.sto deep) (evs st.env as) }) :: tr)
  simpa [XR.next, addN_eq, applyWr] using this

theorem WS.pureF {d : Option Nat} {g : Option (Nat × Bool)} {f : FuncId} {as : List Opd} {r : List XOper} {st : St} {Q : St → Prop}
    {args : List PV} {v : PV} (h : PureF F f args v) (hw : wanted g st.env = some true) (ha : exL st.sto (exBx st.sto deep) (evs st.env as) = some args)
    (k : WS F r { st with env := putEnv d v st.env, fz := toksL (toksBx st.sto deep) (evs st.env as) ++ st.fz } Q) : WS F (⟨d, .call .pur f as, g⟩ :: r) st Q := fun tr => by
  refine WO.pureF h hw ha ?_
  have := k (XR.tr st.sto.length (.loc { v, rd := toksL (toksBx st.sto deep) (evs st.env as), fr := toksL (toksBx st.sto deep) (evs st.env as) }) :: tr)
  simpa [XR.next, addN_eq, applyWr] using this

/-- A call that works on the blocks themselves. -/
theorem WS.shr {d : Option Nat} {g : Option (Nat × Bool)} {f : FuncId} {as : List Opd} {r : List XOper} {st : St} {Q : St → Prop}
    (hw : wanted g st.env = some true) (h : Does F f (evs st.env as) st.sto st.fz fun v s z => (Nat.ble st.sto.length s.length && st.fz.all (has z)) = true ∧ WS F r { st with env := putEnv d v st.env, sto := s, fz := z } Q) :
    WS F (⟨d, .call .shr f as, g⟩ :: r) st Q := fun tr => by
  obtain ⟨n, v, s, z, hr, hc, hk⟩ := h
  refine WO.call (.shr v s z) hw ⟨n, ?_⟩ rfl (hk _)
  simp only [evX, callShared, hr]
  rw [if_pos hc]

/-- A call of a function value that works on the blocks. -/
theorem WS.shrv {d : Option Nat} {g : Option (Nat × Bool)} {x : Opd} {f : FuncId} {a b : List PV} {as : List Opd} {r : List XOper} {st : St} {Q : St → Prop}
    (hw : wanted g st.env = some true) (hx : x.ev st.env = .clo f a b) (ho : (evs st.env as ++ b).any isOwnPtr = true)
    (h : Does F f (a ++ evs st.env as ++ b) st.sto st.fz fun v s z => (Nat.ble st.sto.length s.length && st.fz.all (has z)) = true ∧ WS F r { st with env := putEnv d v st.env, sto := s, fz := z } Q) :
    WS F (⟨d, .callv x as, g⟩ :: r) st Q := fun tr => by
  obtain ⟨n, v, s, z, hr, hc, hk⟩ := h
  refine WO.call (.shr v s z) hw ⟨n, ?_⟩ rfl (hk _)
  simp only [evX, hx, ho, if_true, callShared, hr]
  rw [if_pos hc]

theorem wrapF_i64 {n : Int} (h1 : -9223372036854775808 ≤ n) (h2 : n < 9223372036854775808) : wrapF .i64 n = n := by
  cases n with
  | ofNat m =>
    have hb : m < 9223372036854775808 := by
      have : (Int.ofNat m) = (m : Int) := rfl
      omega
    show (if Nat.blt m 9223372036854775808 then Int.ofNat m else _) = _
    rw [if_pos (by simpa using hb)]
  | negSucc m =>
    have hb : m < 9223372036854775808 := by
      have : Int.negSucc m = -(m : Int) - 1 := by omega
      omega
    show (if Nat.blt m 9223372036854775808 then Int.negSucc m else _) = _
    rw [if_pos (by simpa using hb)]

end Go.Vm
