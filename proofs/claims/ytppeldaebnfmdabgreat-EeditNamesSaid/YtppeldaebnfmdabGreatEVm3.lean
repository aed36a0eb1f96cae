/- The logical machine, part 3: VmPrim, VmTab, VmLaw, VmSym, SvBase, SvDef, SvCod, SvRel, SvOps1, SvOps2, SvOps3, SvOps4. -/
import Derived.Test.YtppeldaebnfmdabGreatEVm2
import Derived.Laws.Externs
import Derived.Lib.SliceRun
import Derived.ProofKit
import Derived.Carry
import Derived.OpenShut
import Derived.Deep.Slices
import Derived.Deep.Grids
import Derived.Test.YtppeldaebnfmdabGreatEVm1
/- Functions that are known without their code: math/bits.Add64 and Sub64, slices.Clone. -/
namespace Go.Vm

section
variable {P : Program}

theorem fpost_pure {im : Im} {w : World} {v : PV} {u : Value} (hsr : SR im noLoc [] [] w) (hv : VR im noLoc v u) : FPost im noLoc [] w v [] [] im noLoc w u where
  imle := .refl _
  locle := .refl _
  vr := hv
  sr := hsr
  os := rfl
  tape := rfl
  output := rfl
  size := Nat.le_refl _
  frame := fun _ _ _ => rfl
  imnew := fun _ _ h => .inl h
  locs := fun _ _ h => .inl h
  own := fun t li k h => by cases h

theorem three_ints {im : Im} {loc : Loc} {k1 k2 k3 : IntKind} {a b c : Int} {us : List Value} (h : VRL im loc [.int k1 a, .int k2 b, .int k3 c] us) : us = [.int k1 a, .int k2 b, .int k3 c] := by
  cases h with
  | cons _ _ _ _ h1 h =>
    cases h with
    | cons _ _ _ _ h2 h =>
      cases h with
      | cons _ _ _ _ h3 h =>
        cases h
        rw [h1.int_inv, h2.int_inv, h3.int_inv]

/-- What is asked of math/bits.Add64 in a program. -/
theorem prim_add64 {f : FuncId} {fn : Func} (hf : P.funcs[f]? = some fn) (hname : (fn.name == "runtime.NumGoroutine") = false) (hb : fn.body.isNone = true) (hn : Extern.findNext fn = none) (he : Extern.find fn = some add64Entry) : PrimOK P f pAdd64 := by
  intro args v news hp im w us hsr hus
  unfold pAdd64 at hp
  split at hp
  · rename_i a b c
    split at hp
    · rename_i hc
      have hc : c ≤ 1 := by simpa using hc
      simp only [Option.some.injEq, Prod.mk.injEq] at hp
      obtain ⟨rfl, rfl⟩ := hp
      obtain rfl := three_ints hus
      refine .inl ⟨_, w, ?_, im, noLoc, fpost_pure hsr (.tup _ [.int .u64 (((a : Int) + b + c) % 18446744073709551616), .int .u64 (((a : Int) + b + c) / 18446744073709551616)] (.cons _ _ _ _ ?_ (.cons _ _ _ _ ?_ .nil)))⟩
      · rw [run_callFunc_extern hf hname hb hn he]
        have := run_add64 (P := P) (a : Int) b c (by omega) (by omega) (by omega) (by omega) w
        simp only [Int.ofNat_eq_natCast]
        rw [this]; rfl
      · have : Int.ofNat ((a + b + c) % 18446744073709551616) = ((a : Int) + b + c) % 18446744073709551616 := by
          simp only [Int.ofNat_eq_natCast]; omega
        rw [this]; exact .int _ _
      · have : Int.ofNat ((a + b + c) / 18446744073709551616) = ((a : Int) + b + c) / 18446744073709551616 := by
          simp only [Int.ofNat_eq_natCast]; omega
        rw [this]; exact .int _ _
    · cases hp
  · cases hp

def sub64Entry : Array Value → Sem Value := fun args => do
  let (x, y, b) ← Extern.MathBitsCarry.three "Sub64" args
  pure (Extern.MathBitsCarry.pair ((x + Extern.MathBitsCarry.m64 - y - b) % Extern.MathBitsCarry.m64) (if x < y + b then 1 else 0))

theorem prim_sub64 {f : FuncId} {fn : Func} (hf : P.funcs[f]? = some fn) (hname : (fn.name == "runtime.NumGoroutine") = false) (hb : fn.body.isNone = true) (hn : Extern.findNext fn = none) (he : Extern.find fn = some sub64Entry) : PrimOK P f pSub64 := by
  intro args v news hp im w us hsr hus
  unfold pSub64 at hp
  split at hp
  · rename_i a b c
    split at hp
    · rename_i hc
      simp only [Bool.and_eq_true, Nat.ble_eq] at hc
      obtain ⟨hc, hb2⟩ := hc
      simp only [Option.some.injEq, Prod.mk.injEq] at hp
      obtain ⟨rfl, rfl⟩ := hp
      obtain rfl := three_ints hus
      refine .inl ⟨Extern.MathBitsCarry.pair ((a + Extern.MathBitsCarry.m64 - b - c) % Extern.MathBitsCarry.m64) (if a < b + c then 1 else 0), w, ?_, im, noLoc, fpost_pure hsr (.tup _ _ (.cons _ _ _ _ (.int _ _) (.cons _ _ _ _ ?_ .nil)))⟩
      · rw [run_callFunc_extern hf hname hb hn he]
        have : c = 0 ∨ c = 1 := by omega
        rcases this with rfl | rfl <;> rfl
      · by_cases h : a < b + c
        · have : Nat.blt a (b + c) = true := by simpa using h
          rw [this, if_pos h]; exact .int _ _
        · have : Nat.blt a (b + c) = false := by
            cases hq : Nat.blt a (b + c) with
            | false => rfl
            | true => exact absurd (by simpa using hq) h
          rw [this, if_neg h]; exact .int _ _
    · cases hp
  · cases hp

/-! ### slices.Clone -/

def xcA (esz : Nat) : XCode := .region none [⟨some 2, .mov (.c (.sl esz true [])), none⟩] [0]
def xcN (esz : Nat) : XCode := .seq (.region none [⟨some 2, .mov (.c (.sl esz true [])), none⟩] [2]) .ret
def xcC (esz : Nat) (zero : Row) : XCode := .seq (.region none [⟨some 5, .mkrow esz 0 zero [], none⟩, ⟨some 6, .mov (.t 0), none⟩, ⟨some 7, .append esz (.t 5) (.t 6), none⟩, ⟨some 2, .mov (.t 7), none⟩] [2]) .ret

def chkNil (P : Program) (o : Oper) : Bool :=
  o.guard.isNone && o.dst == some 4 && (match o.op with
    | .binOp .eql t x (.const (.slice none 0 0)) _ => chkOpd (.t 3) x && isSliceT P t
    | _ => false)

def chkClone (P : Program) (esz : Nat) (zero : Row) (f : FuncId) : Bool :=
  match P.funcs[f]? with
  | some fn => !(fn.name == "runtime.NumGoroutine") && Nat.blt 7 fn.ntmps && chkRes P [.tmp 2] fn.results.toList && (match fn.body with
    | some (.seq a (.seq (.seq (.region _ ops false) (.cond c n .skip)) r)) =>
      chkCode P (fun _ => true) fn.ntmps (xcA esz) a && chkCode P (fun _ => true) fn.ntmps (xcN esz) n && chkCode P (fun _ => true) fn.ntmps (xcC esz zero) r && chkOpd (.t 4) c &&
        (match ops.toList with
        | [o1, o2] => chkOper P (fun _ => true) fn.ntmps ops ⟨some 3, .mov (.t 0), none⟩ o1 && chkNil P o2
        | _ => false)
    | _ => false)
  | none => false

theorem env0 : Env0 P (fun _ => none) (fun _ => none) := ⟨(fun f args sto fz v sto' fz' h => (by cases h)), (fun f k p h => (by cases h))⟩
theorem loop0 {prims : FuncId → Bool} : LoopOK P prims (fun _ => none) := fun live x st e st' h => (by cases h)

theorem prim_clone (hmix : P.follows .mixedOrders = true) {esz : Nat} {zero : Row} {f : FuncId} (hc : chkClone P esz zero f = true) : PrimOK P f (pClone esz) := by
  intro args v news hp im w us hsr hus
  unfold chkClone at hc
  cases hf : P.funcs[f]? with
  | none => rw [hf] at hc; cases hc
  | some fn =>
    rw [hf] at hc
    simp only [Bool.and_eq_true, Bool.not_eq_true'] at hc
    obtain ⟨⟨⟨hname, hnt⟩, hres⟩, hbody⟩ := hc
    have hnt : 7 < fn.ntmps := by simpa using hnt
    split at hbody
    · rename_i ca id ops cc cn cr hb
      simp only [Bool.and_eq_true] at hbody
      obtain ⟨⟨⟨⟨hA, hN⟩, hC⟩, hcc⟩, hops⟩ := hbody
      split at hops
      · rename_i o1 o2 hl
        simp only [Bool.and_eq_true] at hops
        obtain ⟨ho1, ho2⟩ := hops
        -- the argument
        have harg : ∃ e c rows, args = [.sl e c rows] := by
          unfold pClone at hp
          split at hp
          · exact ⟨_, _, _, rfl⟩
          · cases hp
        obtain ⟨e, cl, rows, rfl⟩ := harg
        obtain ⟨u, rfl⟩ : ∃ u, us = [u] := by
          cases hus with
          | cons _ u _ us h1 h2 => cases h2; exact ⟨u, rfl⟩
        refine .inr ⟨callFunc_enter hf hname hb, calls_of_wp hf hb ?_⟩
        let st0 : St := { env := [(0, .sl e cl rows)], sto := [], fz := [], kn := 0 }
        let a0 : Act := { tmps := (⟨[u]⟩ : Array Value) ++ Array.replicate (fn.ntmps - (⟨[u]⟩ : Array Value).size) Go.undef, defers := [] }
        have hat0 : At im noLoc [] w fn.ntmps st0 a0 w := by
          refine ⟨im, noLoc, ⟨⟨hsr, .refl _, .refl _, rfl, rfl, rfl, Nat.le_refl _, fun _ _ _ => rfl, fun _ _ h => .inl h, fun _ _ h => .inl h, fun t li k hl => by cases hl⟩, rfl, Nat.le_refl _, fun t li hl => by cases hl⟩, ⟨start_env hus _, rfl, ?_⟩⟩
          simp only [a0, Array.size_append, Array.size_replicate]
          show 1 + (fn.ntmps - 1) = _
          omega
        have fin : ∀ (st : St) (v' : PV), lk 2 st.env = v' → ∀ a' w', At im noLoc [] w fn.ntmps st a' w' →
            a'.defers = [] ∧ ∃ u, (results fn a'.tmps).run P w' = .ok u w' ∧ ∃ v'' : Value, Ending.returned u = .returned v'' ∧ ∃ im' loc', FPost im noLoc [] w v' st.sto st.fz im' loc' w' v'' := by
          intro st v' hv' a' w' hat
          obtain ⟨im', loc', hk, hact⟩ := hat.ex
          obtain ⟨u, hu, hvr⟩ := results_ok (P := P) (fn := fn) hk.kept.sr hact.env hres (vs := [v']) (by simp [resAll, resOf, hv'])
          have K := hk.kept
          exact ⟨hact.defers, u, hu, u, rfl, im', loc', ⟨K.imle, K.locle, hvr, K.sr, K.os, K.tape, K.output, K.size, K.frame, K.imnew, K.locs, K.own⟩⟩
        refine wp_seq ?_
        refine code_sim env0 loop0 hmix (xcA esz) _ st0 .normal { env := [(0, .sl e cl rows)], sto := [], fz := [], kn := 0 } hA rfl a0 w hat0 _ fun a1 w1 hat1 => ?_
        refine wp_seq (wp_seq ?_)
        -- the comparison with nil
        refine wp_region ?_
        have hops2 : ops = #[o1, o2] := Array.ext' (by simpa using hl)
        subst hops2
        obtain ⟨im1, loc1, hk1, hact1⟩ := hat1.ex
        have hx0 := hact1.env 0
        have hx0 : VR im1 loc1 (.sl e cl rows) (a1.tmps.getD 0 Go.undef) := hx0
        obtain ⟨ad, cap, hu0, hcap, hck, hrows⟩ := hx0.sl_inv
        -- the first operation
        unfold chkOper at ho1
        simp only [Bool.and_eq_true, beq_iff_eq] at ho1
        obtain ⟨⟨⟨hd1, _⟩, hg1⟩, hop1⟩ := ho1
        have hg1' : o1.guard = none := by
          cases hg : o1.guard with
          | none => rfl
          | some q => rw [hg] at hg1; simp [chkGuard] at hg1
        have hop1' : ∃ x, (o1.op = .move x ∨ o1.op = .assign x) ∧ chkOpd (.t 0) x = true := by
          cases ho : o1.op <;> rw [ho] at hop1 <;> simp only [chkOp] at hop1 <;> first | exact ⟨_, .inl rfl, hop1⟩ | exact ⟨_, .inr rfl, hop1⟩ | simp at hop1
        obtain ⟨x1, hx1, hcx1⟩ := hop1'
        have hx1' : a1.eval x1 = .slice ad rows.length cap := by
          have h := opd_ok (a := a1) (e := [(0, PV.sl e cl rows)]) (.t 0) (fun t ht => by injection ht with ht; subst ht; exact hact1.env 0) x1 hcx1
          cases x1 with
          | tmp t =>
            have : (0 : Nat) = t := by simpa [chkOpd] using hcx1
            subst this
            simpa [Act.eval] using hu0
          | _ => simp [chkOpd] at hcx1
        have hrun1 : (execOp a1.eval o1).run P w1 = .ok (.value (.slice ad rows.length cap)) w1 := by
          rcases hx1 with h | h <;> simp [execOp, h, hx1']
        -- the second
        unfold chkNil at ho2
        simp only [Bool.and_eq_true, beq_iff_eq, Option.isNone_iff_eq_none] at ho2
        obtain ⟨⟨hg2, hd2⟩, hop2⟩ := ho2
        split at hop2
        case h_2 => cases hop2
        rename_i ty x2 ub hop2e
        simp only [Bool.and_eq_true] at hop2
        obtain ⟨hx2, hst⟩ := hop2
        have hx2' : x2 = .tmp 3 := by
          cases x2 with
          | tmp t =>
            have : (3 : Nat) = t := by simpa [chkOpd] using hx2
            subst this; rfl
          | _ => simp [chkOpd] at hx2
        subst hx2'
        unfold isSliceT at hst
        split at hst
        case h_2 => cases hst
        rename_i el hty
        have hsz1 : a1.tmps.size = fn.ntmps := hact1.nts
        let a2 : Act := a1.put (some 3) (.slice ad rows.length cap)
        have ha2 : a2.tmps.getD 3 Go.undef = .slice ad rows.length cap := by
          simp only [a2, Act.put, Array.getD_eq_getD_getElem?]
          rw [Array.getElem?_setIfInBounds_self_of_lt (by omega)]; rfl
        have hrun2 : (execOp a2.eval o2).run P w1 = .ok (.value (.bool ad.isNone)) w1 := by
          simp only [execOp, hop2e]
          refine run_value ?_
          have e3 : a2.eval (.tmp 3) = .slice ad rows.length cap := by simpa [Act.eval] using ha2
          rw [e3]
          have hg : (eqGuard .eql ty (.tmp 3) (.const (.slice none 0 0)) (.slice ad rows.length cap) (a2.eval (.const (.slice none 0 0)))).run P w1 = .ok () w1 := by
            unfold eqGuard; simp [Act.eval]
          simp only [Sem.run_bind, hg, Result.andThen_ok]
          exact Lib.run_eql_slice_nil w1 ty el ad rows.length cap 0 0 hty
        let a3 : Act := a2.put (some 4) (.bool ad.isNone)
        have hat3 : At im noLoc [] w fn.ntmps { env := [(0, .sl e cl rows)], sto := [], fz := [], kn := 0 } a3 w1 := by
          refine ⟨im1, loc1, hk1, ⟨fun t => ?_, hact1.defers, by simp [a3, a2, Act.put, hsz1]⟩⟩
          have h := hact1.env t
          simp only [lk_cons] at h ⊢
          by_cases ht : t = 0
          · subst ht
            simp only [if_true] at h ⊢
            simpa [a3, a2, Act.put, Array.getElem?_setIfInBounds] using h
          · rw [if_neg (fun e => ht e.symm)]; exact .undef _
        have ha3 : a3.eval cc = .bool ad.isNone := by
          cases cc with
          | tmp t =>
            have : (4 : Nat) = t := by simpa [chkOpd] using hcc
            subst this
            simp only [Act.eval, a3, Act.put, Array.getD_eq_getD_getElem?]
            rw [Array.getElem?_setIfInBounds_self_of_lt (by simp [a2, Act.put]; omega)]; rfl
          | _ => simp [chkOpd] at hcc
        have hrange : List.range #[o1, o2].size = [0, 1] := rfl
        rw [hrange]
        simp only [wpOps]
        have e0 : (#[o1, o2] : Array Oper)[0]? = some o1 := rfl
        have e1 : (#[o1, o2] : Array Oper)[1]? = some o2 := rfl
        rw [e0]; dsimp only
        have hw1 : Region.wanted o1 (yielded #[o1, o2] a1.tmps) = true := by unfold Region.wanted; rw [hg1']
        rw [hw1, if_pos rfl]
        refine .inl ?_
        unfold Oper.wp
        rw [hrun1, Oper.upon_value, ← hd1, e1]
        dsimp only
        have hw2 : Region.wanted o2 (yielded #[o1, o2] (a1.put (some 3) (.slice ad rows.length cap)).tmps) = true := by unfold Region.wanted; rw [hg2]
        rw [hw2, if_pos rfl]
        refine .inl ?_
        rw [show a1.put (some 3) (.slice ad rows.length cap) = a2 from rfl, hrun2, Oper.upon_value, hd2]
        show (Code.cond cc cn .skip).wp P _ a3 w1
        -- the branches
        cases had : ad with
        | none =>
          have hnil : rows = [] := by
            rcases rows with _ | ⟨r, rs⟩
            · rfl
            · obtain ⟨b, o, h, _⟩ := hrows (by simp)
              rw [had] at h; cases h
          subst hnil
          simp only [pClone, Option.some.injEq, Prod.mk.injEq] at hp
          obtain ⟨rfl, rfl⟩ := hp
          refine wp_cond_true (by rw [ha3, had]; rfl) ?_
          refine code_sim env0 loop0 hmix (xcN esz) _ _ .ret { env := [(2, .sl esz true [])], sto := [], fz := [], kn := 0 } hN rfl a3 w1 hat3 _ fun a4 w4 hat4 => ?_
          obtain ⟨hdf, u', hu', v'', hv'', im', loc', hf'⟩ := fin _ _ rfl a4 w4 hat4
          refine ⟨hdf, u', hu', v'', hv'', im', loc'.set 1 ⟨0, 0, esz, 0, 0⟩, ?_⟩
          have hnone : ∀ t, loc' t = none := fun t => by
            cases hl : loc' t with
            | none => rfl
            | some li => obtain ⟨k, hk, _⟩ := hf'.sr.blk t li hl; simp at hk
          obtain ⟨ad', cap', hv3, _, hck', _⟩ := hf'.vr.sl_inv
          have hc0 : cap' = 0 := by simpa using hck' rfl
          subst hc0
          exact {
            imle := hf'.imle, locle := fun t li h => by cases h
            vr := by rw [hv3]; exact .own 1 esz 0 0 0 false ⟨0, 0, esz, 0, 0⟩ ad' 0 (Loc.set_same _ _ _) rfl (Nat.le_refl _) (Nat.le_refl _) (Nat.le_refl _) (fun h => by cases h) (.inl rfl)
            sr := {
              im_ok := hf'.sr.im_ok
              blk := fun t li h => by
                unfold Loc.set at h
                split at h
                · rename_i ht; subst ht; injection h with h; subst h
                  exact ⟨_, rfl, rfl, rfl, fun h => absurd rfl h⟩
                · rw [hnone t] at h; cases h
              excl := fun t u li lj k k' h h' hs hs' hso => by
                unfold Loc.set at h
                split at h
                · rename_i ht; subst ht; simp at hs; subst hs; cases hso
                · rw [hnone t] at h; cases h
              free := fun t li k h hs hso => by
                unfold Loc.set at h
                split at h
                · rename_i ht; subst ht; simp at hs; subst hs; cases hso
                · rw [hnone t] at h; cases h }
            os := hf'.os, tape := hf'.tape, output := hf'.output, size := hf'.size, frame := hf'.frame, imnew := hf'.imnew
            locs := fun t li h => .inr (Nat.zero_le _)
            own := fun t li k h hs hso => by
              unfold Loc.set at h
              split at h
              · rename_i ht; subst ht; simp at hs; subst hs; cases hso
              · rw [hnone t] at h; cases h }
        | some ad' =>
          refine wp_cond_false (by rw [ha3, had]; rfl) (wp_skip ?_)
          rcases rows with _ | ⟨r, rs⟩
          · simp only [pClone, Option.some.injEq, Prod.mk.injEq] at hp
            obtain ⟨rfl, rfl⟩ := hp
            exact code_sim env0 loop0 hmix (xcC esz zero) _ _ .ret { env := [(2, .own 1 esz 0 0 0 false)], sto := [.arr esz [], .arr esz []], fz := [], kn := 0 } hC rfl a3 w1 hat3 _ fun a4 w4 hat4 => fin _ _ rfl a4 w4 hat4
          · simp only [pClone] at hp
            split at hp
            case isFalse => cases hp
            rename_i hcond
            simp only [Bool.and_eq_true, Nat.beq_eq, Nat.ble_eq] at hcond
            obtain ⟨rfl, hmost⟩ := hcond
            simp only [Option.some.injEq, Prod.mk.injEq] at hp
            obtain ⟨rfl, rfl⟩ := hp
            have hap : appendE [.arr e []] [] e (.own 0 e 0 0 0 true) (.sl e cl (r :: rs)) = some { v := .own 1 e 0 (0 + (rs.length + 1)) (0 + (rs.length + 1)) false, news := [.arr e (r :: rs)], rd := [0] } := by
              have h1 : Nat.beq e e = true := by simp
              have h2 : Nat.ble (rs.length + 1) 0 = false := rfl
              have h3 : Nat.ble (0 + (rs.length + 1)) most = true := by simpa using hmost
              simp only [appendE, rowsOf, h1, if_true]
              simp [h2, hmost, tokOf]
            refine code_sim env0 loop0 hmix (xcC e zero) _ _ .ret { env := [(2, .own 1 e 0 (0 + (rs.length + 1)) (0 + (rs.length + 1)) false)], sto := [.arr e [], .arr e (r :: rs)], fz := [], kn := 0 } hC ?_ a3 w1 hat3 _ fun a4 w4 hat4 => fin _ _ rfl a4 w4 hat4
            simp only [xcC, evC, evRegion, evOps, wanted, evX, evOp, Opd.ev, lk]
            simp [fillRows, XR.ok, nodupW, XR.next, putEnv, addN, applyWr, lk, hap]
      · cases hops
    · cases hbody

end
end Go.Vm

/- A table of functions as a tree. -/
namespace Go.Vm

inductive TT where
  | nil
  | leaf (k : Nat) (e : Ent)
  | node (m : Nat) (a b : TT)

def TT.get : TT → Nat → Option Ent
  | .nil, _ => none
  | .leaf k e, f => bif Nat.beq f k then some e else none
  | .node m a b, f => bif Nat.blt f m then a.get f else b.get f

def TT.All (p : Nat → Ent → Prop) : TT → Prop
  | .nil => True
  | .leaf k e => p k e
  | .node _ a b => a.All p ∧ b.All p

theorem TT.get_all {p : Nat → Ent → Prop} : ∀ {t : TT} {f : Nat} {e : Ent}, t.All p → t.get f = some e → p f e
  | .nil, f, e, _, h => by cases h
  | .leaf k e', f, e, ha, h => by
    simp only [TT.get] at h
    cases hk : Nat.beq f k with
    | false => rw [hk] at h; cases h
    | true =>
      rw [hk] at h
      have : f = k := by simpa using hk
      subst this
      have h : some e' = some e := h
      injection h with h; subst h; exact ha
  | .node m a b, f, e, ha, h => by
    simp only [TT.get] at h
    cases hk : Nat.blt f m with
    | false => rw [hk] at h; exact TT.get_all ha.2 h
    | true => rw [hk] at h; exact TT.get_all ha.1 h

def EntOK (P : Program) (f : Nat) : Ent → Prop
  | .code x => chkFunc P (fun _ => true) x f = true
  | .prim k p => k = false ∧ PrimOK P f p

theorem TT.tabOK {P : Program} {t : TT} (h : t.All (EntOK P)) : TabOK P (fun _ => true) t.get := fun f x hf => by
  have := TT.get_all h hf
  exact this

theorem TT.primsOK {P : Program} {t : TT} (h : t.All (EntOK P)) : PrimsOK P t.get := fun f k p hf => by
  have := TT.get_all h hf
  exact this

end Go.Vm

/- A law's row from what the logical machine answers: the result is true, nothing that was there has turned. -/
namespace Go.Vm
open Go.ChangeShapes Go.WideShapes Go.ChangeAt Go.RowKit

section
variable {H : Type} {enc : TypeId × Value → H} {P : Program}

theorem trodAll_below (hl : laidOutB P = true) {W W' : World} (hb : Below W.heap.size W W') : ∀ {ts : List TypeId} {vs : List Value} {ds : List (DataW H)} {ps : List MemPlace}, (∀ t ∈ ts, P.readableRec t = true ∧ t < P.types.size) →
    DataW.TrodAll enc P W 0 (fun _ => true) true ts vs ds ps → (∀ x ∈ ps, x.block < W.heap.size) → DataW.TrodAll enc P W' 0 (fun b => decide (b < W.heap.size)) true ts vs ds ps
  | [], vs, ds, ps, _, h, _ => by
    obtain ⟨rfl, rfl, rfl⟩ := trodAll_nil h
    exact trodAll_mk0
  | t :: ts, vs, ds, ps, ht, h, hlt => by
    obtain ⟨v, vs', d, ds', p, q, rfl, rfl, rfl, h1, h2⟩ := trodAll_cons h
    obtain ⟨h3, h4⟩ := ht t (by simp)
    exact trodAll_cons_mk (Below.trod hl h3 h4 h1 hb fun x hx => hlt x (by simp [hx])) (trodAll_below hl hb (fun t' ht' => ht t' (by simp [ht'])) h2 fun x hx => hlt x (by simp [hx]))

/-- Where a law says 'true' and leaves its arguments as they are. -/
theorem law_post (hl : laidOutB P = true) {f : Func} {s : ChangeSpec} {W W' : World} {args : Array Value} {ds : List (DataW H)} {before : List MemPlace} {bt : TypeId} (hvars : s.vars = []) (hres : f.resultTypes = #[bt]) (hbt : P.underlying bt = some .bool)
    (hp : ∀ t ∈ f.params.toList, P.readableRec t = true ∧ t < P.types.size) (hW : DataW.Whole enc P f.params.toList s.vars false W args.toList ds [] before)
    (hfn : s.fn H (ds ++ []) = { results := [.lit (.bool true)], args := ds }) (hb : Below W.heap.size W W') : s.post enc P f false true false false W args (.bool true) W' := by
  have hW' := hW
  obtain ⟨p, q, hA, hV, rfl, hfz, hnd⟩ := hW
  have hlt : ∀ x ∈ p ++ q, x.block < W.heap.size := fun x hx => by simpa using hW'.lt x hx
  refine ⟨ds, [], p ++ q, [], p, [], hW', ?_, ?_, ?_, hb.frame _, fun h => by cases h⟩
  · rw [hfn, hres]
    exact trodAll_mk1 (shut_bool hbt true)
  · rw [hfn]
    exact trodAll_below hl hb hp hA fun x hx => hlt x (by simp [hx])
  · rw [hfn, hvars]
    rfl

end

/-- All that is there. -/
def imOf (w : World) : Im := fun b => w.heap[b]?

theorem imOf_cell {w : World} {b o : Nat} {v : Value} (h : w.cell? ⟨b, o, none⟩ = some v) : imCell (imOf w) b o = some v := by
  unfold World.cell? at h
  unfold imCell imOf
  exact h

def encBools (l : List Bool) : PV := .sl 1 false (l.map fun b => [.bool b])

/-- A slice of bools that came in. -/
theorem vr_bools {H : Type} {enc : TypeId × Value → H} {P : Program} {t e : TypeId} {w : World} {base : Nat} {v : Value} {d : DataW H} {p : List MemPlace} (ht : P.underlying t = some (.slice e)) (he : P.underlying e = some .bool) (hc : P.cellsOf e = 1)
    (hv : Value.okWide P w .any base t v) (h : DataW.Trod enc P w 0 (fun _ => true) true t v d p) : ∃ l : List Bool, VR (imOf w) noLoc (encBools l) v ∧ l.length ≤ maxLen := by
  obtain ⟨a, len, cap, rfl⟩ := okWide_slice ht hv
  obtain ⟨fuel, hf⟩ := h
  rcases Go.Deep.open_bools (cs := (Value.slice a len cap).cells.toList) ht he hc hf with ⟨hcs, _⟩ | ⟨ad, len', cap', B, hcs, _, hl, hm, _, hcell⟩
  · have : a = none ∧ len = 0 ∧ cap = 0 := by simpa [Value.cells] using hcs
    obtain ⟨rfl, rfl, rfl⟩ := this
    exact ⟨[], .sl 1 false [] none 0 (Nat.le_refl _) (fun h => by cases h) (fun h => absurd rfl h), Nat.zero_le _⟩
  · have : a = some ad ∧ len = len' ∧ cap = cap' := by simpa [Value.cells] using hcs
    obtain ⟨rfl, rfl, rfl⟩ := this
    refine ⟨(List.range len).map B, ?_, by simp; omega⟩
    have hlen : ((((List.range len).map B)).map fun b => [PV.bool b]).length = len := by simp
    have := VR.sl (im := imOf w) (loc := noLoc) 1 false ((((List.range len).map B)).map fun b => [PV.bool b]) (some ad) cap (by rw [hlen]; exact hl) (fun h => by cases h) (fun hne => by
      have hpos : 0 < len := by
        rcases Nat.eq_zero_or_pos len with h | h
        · subst h; exact absurd rfl hne
        · exact h
      obtain ⟨b, off, spot⟩ := ad
      have hspot : spot = none := by simpa [Addr.add] using World.cell?_spot (hcell 0 (by omega))
      subst hspot
      refine ⟨b, off, rfl, fun i r hr => ?_⟩
      simp only [List.map_map, List.getElem?_map, Option.map_eq_some_iff] at hr
      obtain ⟨j, hj, rfl⟩ := hr
      have hjl := lt_of_get hj
      have : j = i := by
        rw [List.getElem?_range (by simpa using hjl)] at hj
        exact (Option.some.inj hj).symm
      subst this
      refine ⟨rfl, fun k c hk => ?_⟩
      match k, hk with
      | 0, hk =>
        simp at hk; subst hk
        refine ⟨_, rfl, imOf_cell ?_⟩
        have := hcell j (by simp at hjl; omega)
        rw [Go.WideShapes.add_plain] at this
        simpa using this
      | k + 1, hk => simp at hk)
    rw [hlen] at this
    exact this

/-- The contract of a law, over the logical machine. -/
theorem law_calls {P : Program} {F : Tab} {prims : FuncId → Bool} (hT : TabOK P prims F) (hprim : PrimsOK P F) (hmix : P.follows .mixedOrders = true) {f : FuncId} {args : List PV} {s : Sto} {z : List Nat} {n : Nat} {us : List Value} {w : World}
    (h : run F n (.func f args [] []) = some (.func (.bool true) s z)) (hus : VRL (imOf w) noLoc args us) : Calls P f ⟨us⟩ w fun e w' => e = .returned (.bool true) ∧ Below w.heap.size w w' := by
  refine (call_pure hT hprim hmix h (im := imOf w) (fun b o h => h) hus).mono fun e w' ⟨u, he, ⟨im', loc', hvr, _⟩, h1, h2, h3, h4, h5⟩ => ?_
  obtain rfl := hvr.bool_inv
  exact ⟨he, ⟨h1, h2, h3, h4, h5⟩⟩

end Go.Vm

/- Regions of one order, step by step, for contracts. -/
namespace Go.Vm

def isCall : XOp → Bool
  | .call .. | .callv .. => true
  | _ => false

variable {F : Tab}

/-- A region's operations from a state on; the trace is not asked for. -/
def WS (F : Tab) (ops : List XOper) (st : St) (Q : St → Prop) : Prop := ∀ tr, WO F ops st tr (fun s _ => Q s)

def stepOp (st : St) (o : XOper) : Option St :=
  match wanted o.guard st.env with
  | some true => match evOp st.env st.sto st.fz o.op with
    | some x => if (XR.loc x).ok st.fz then some ((XR.loc x).next o.dst st) else none
    | none => none
  | some false => some { st with env := putEnv o.dst .nul st.env }
  | none => none

theorem evX_loc {rec : Task → Option Out} {e : Env} {sto : Sto} {fz : List Nat} {op : XOp} (h : isCall op = false) :
    evX F rec e sto fz op = (evOp e sto fz op).map .loc := by
  cases op <;> first | rfl | cases h

theorem WS.nil {st : St} {Q : St → Prop} (h : Q st) : WS F [] st Q := fun _ => WO.nil h

theorem WS.cons {o : XOper} {r : List XOper} {st st' : St} {Q : St → Prop} (h : isCall o.op = false) (hs : stepOp st o = some st') (k : WS F r st' Q) : WS F (o :: r) st Q := by
  intro tr
  unfold stepOp at hs
  split at hs
  · rename_i hw
    split at hs
    · rename_i x hx
      split at hs
      · rename_i hok
        injection hs with hs; subst hs
        exact WO.op x hw (fun rec => by rw [evX_loc h, hx]; rfl) hok (k _)
      · cases hs
    · cases hs
  · rename_i hw
    injection hs with hs; subst hs
    exact WO.skip hw (k _)
  · cases hs

theorem WS.one {o : XOper} {r : List XOper} {st : St} {Q : St → Prop} (x : Res) (hc : isCall o.op = false) (hw : wanted o.guard st.env = some true) (hx : evOp st.env st.sto st.fz o.op = some x) (hok : (XR.loc x).ok st.fz = true)
    (k : WS F r ((XR.loc x).next o.dst st) Q) : WS F (o :: r) st Q := fun tr =>
  WO.op x hw (fun rec => by rw [evX_loc hc, hx]; rfl) hok (k _)

/-- The operations that call nothing, at once. -/
def stepOps : List XOper → St → Option St
  | [], st => some st
  | o :: r, st => match isCall o.op with
    | true => none
    | false => match stepOp st o with
      | some st' => stepOps r st'
      | none => none

theorem WS.all : ∀ {ops : List XOper} {st st' : St} {Q : St → Prop}, stepOps ops st = some st' → Q st' → WS F ops st Q
  | [], st, st', Q, h, hq => by simp only [stepOps, Option.some.injEq] at h; subst h; exact WS.nil hq
  | o :: r, st, st', Q, h, hq => by
    simp only [stepOps] at h
    cases hc : isCall o.op with
    | true => rw [hc] at h; cases h
    | false =>
      rw [hc] at h
      dsimp only at h
      cases hs : stepOp st o with
      | none => rw [hs] at h; cases h
      | some s1 => rw [hs] at h; exact WS.cons hc hs (WS.all h hq)

theorem WP.reg {ops : List XOper} {keep : List Nat} {st : St} {Q : XExit → St → Prop} (h : WS F ops st (fun s => Q .normal (keepOnly keep s))) : WP F (.region none ops keep) st Q := WP.region (h [])

/-- A region without calls, at once. -/
theorem WP.regAll {ops : List XOper} {keep : List Nat} {st st' : St} {Q : XExit → St → Prop} (h : stepOps ops st = some st') (hq : Q .normal (keepOnly keep st')) : WP F (.region none ops keep) st Q :=
  WP.reg (WS.all h hq)

theorem WS.pure {d : Option Nat} {g : Option (Nat × Bool)} {f : FuncId} {as : List Opd} {r : List XOper} {st : St} {Q : St → Prop}
    {args : List PV} {v : PV} (h : Pure F f args v) (hw : wanted g st.env = some true) (ha : exL st.sto (exBx st.sto deep) (evs st.env as) = some args)
    (k : WS F r { st with env := putEnv d v st.env } Q) : WS F (⟨d, .call .pur f as, g⟩ :: r) st Q := fun tr => by
  refine WO.pure h hw ha ?_
  have := k (XR.tr st.sto.length (.loc { v, rd := toksL (toksBx st.sto deep) (evs st.env as) }) :: tr)
  simpa [XR.next, addN_eq, applyWr] using this

theorem WS.pureF {d : Option Nat} {g : Option (Nat × Bool)} {f : FuncId} {as : List Opd} {r : List XOper} {st : St} {Q : St → Prop}
    {args : List PV} {v : PV} (h : PureF F f args v) (hw : wanted g st.env = some true) (ha : exL st.sto (exBx st.sto deep) (evs st.env as) = some args)
    (k : WS F r { st with env := putEnv d v st.env, fz := toksL (toksBx st.sto deep) (evs st.env as) ++ st.fz } Q) : WS F (⟨d, .call .pur f as, g⟩ :: r) st Q := fun tr => by
  refine WO.pureF h hw ha ?_
  have := k (XR.tr st.sto.length (.loc { v, rd := toksL (toksBx st.sto deep) (evs st.env as), fr := toksL (toksBx st.sto deep) (evs st.env as) }) :: tr)
  simpa [XR.next, addN_eq, applyWr] using this

/-- A call that works on the blocks themselves. -/
theorem WS.shr {d : Option Nat} {g : Option (Nat × Bool)} {f : FuncId} {as : List Opd} {r : List XOper} {st : St} {Q : St → Prop}
    (hw : wanted g st.env = some true) (h : Does F f (evs st.env as) st.sto st.fz fun v s z => (Nat.ble st.sto.length s.length && st.fz.all (has z)) = true ∧ WS F r { st with env := putEnv d v st.env, sto := s, fz := z } Q) :
    WS F (⟨d, .call .shr f as, g⟩ :: r) st Q := fun tr => by
  obtain ⟨n, v, s, z, hr, hc, hk⟩ := h
  refine WO.call (.shr v s z) hw ⟨n, ?_⟩ rfl (hk _)
  simp only [evX, callShared, hr]
  rw [if_pos hc]

/-- A call of a function value that works on the blocks. -/
theorem WS.shrv {d : Option Nat} {g : Option (Nat × Bool)} {x : Opd} {f : FuncId} {a b : List PV} {as : List Opd} {r : List XOper} {st : St} {Q : St → Prop}
    (hw : wanted g st.env = some true) (hx : x.ev st.env = .clo f a b) (ho : (evs st.env as ++ b).any isOwnPtr = true)
    (h : Does F f (a ++ evs st.env as ++ b) st.sto st.fz fun v s z => (Nat.ble st.sto.length s.length && st.fz.all (has z)) = true ∧ WS F r { st with env := putEnv d v st.env, sto := s, fz := z } Q) :
    WS F (⟨d, .callv x as, g⟩ :: r) st Q := fun tr => by
  obtain ⟨n, v, s, z, hr, hc, hk⟩ := h
  refine WO.call (.shr v s z) hw ⟨n, ?_⟩ rfl (hk _)
  simp only [evX, hx, ho, if_true, callShared, hr]
  rw [if_pos hc]

theorem wrapF_i64 {n : Int} (h1 : -9223372036854775808 ≤ n) (h2 : n < 9223372036854775808) : wrapF .i64 n = n := by
  cases n with
  | ofNat m =>
    have hb : m < 9223372036854775808 := by
      have : (Int.ofNat m) = (m : Int) := rfl
      omega
    show (if Nat.blt m 9223372036854775808 then Int.ofNat m else _) = _
    rw [if_pos (by simpa using hb)]
  | negSucc m =>
    have hb : m < 9223372036854775808 := by
      have : Int.negSucc m = -(m : Int) - 1 := by omega
      omega
    show (if Nat.blt m 9223372036854775808 then Int.negSucc m else _) = _
    rw [if_pos (by simpa using hb)]

end Go.Vm

/- Plain terms for what a function computes: loops, elements of lists, numbers; and the machine's loop over a plain one. -/
namespace Go.Vm

/-! ### plain loops -/

inductive Step (σ ρ : Type) where
  | next (s : σ)
  | done (r : ρ)

section
variable {σ ρ : Type}

def iterO (body : σ → Option (Step σ ρ)) : Nat → σ → Option ρ
  | 0, _ => none
  | n + 1, x => match body x with
    | some (.next y) => iterO body n y
    | some (.done r) => some r
    | none => none

open Classical in
/-- A loop that goes on until it is done. -/
noncomputable def whileO (body : σ → Option (Step σ ρ)) (x : σ) : Option ρ :=
  if h : ∃ n r, iterO body n x = some r then iterO body h.choose x else none

theorem iterO_mono {body : σ → Option (Step σ ρ)} : ∀ {n : Nat} {x : σ} {r : ρ}, iterO body n x = some r → ∀ k, iterO body (n + k) x = some r
  | 0, x, r, h, _ => by cases h
  | n + 1, x, r, h, k => by
    rw [show n + 1 + k = (n + k) + 1 by omega]
    simp only [iterO] at h ⊢
    split at h
    · exact iterO_mono h k
    · exact h
    · cases h

theorem iterO_det {body : σ → Option (Step σ ρ)} {n m : Nat} {x : σ} {r s : ρ} (h : iterO body n x = some r) (k : iterO body m x = some s) : r = s := by
  have h1 := iterO_mono h m
  have h2 := iterO_mono k n
  rw [Nat.add_comm m n] at h2
  rw [h1] at h2
  exact Option.some.inj h2

theorem whileO_some {body : σ → Option (Step σ ρ)} {x : σ} {r : ρ} : whileO body x = some r ↔ ∃ n, iterO body n x = some r := by
  unfold whileO
  constructor
  · intro h
    split at h
    · exact ⟨_, h⟩
    · cases h
  · rintro ⟨n, hn⟩
    have hex : ∃ n r, iterO body n x = some r := ⟨n, r, hn⟩
    rw [dif_pos hex]
    obtain ⟨s, hs⟩ := hex.choose_spec
    rw [hs, iterO_det hs hn]

theorem whileO_next {body : σ → Option (Step σ ρ)} {x y : σ} (h : body x = some (.next y)) : whileO body x = whileO body y := by
  apply Option.ext
  intro r
  rw [whileO_some, whileO_some]
  constructor
  · rintro ⟨n, hn⟩
    cases n with
    | zero => cases hn
    | succ n => simp only [iterO, h] at hn; exact ⟨n, hn⟩
  · rintro ⟨n, hn⟩
    exact ⟨n + 1, by simp only [iterO, h]; exact hn⟩

theorem whileO_done {body : σ → Option (Step σ ρ)} {x : σ} {r : ρ} (h : body x = some (.done r)) : whileO body x = some r :=
  whileO_some.2 ⟨1, by simp only [iterO, h]⟩

theorem whileO_none {body : σ → Option (Step σ ρ)} {x : σ} (h : body x = none) : whileO body x = none := by
  cases hw : whileO body x with
  | none => rfl
  | some r =>
    obtain ⟨n, hn⟩ := whileO_some.1 hw
    cases n with
    | zero => cases hn
    | succ n => simp only [iterO, h] at hn; cases hn

/-- One round. -/
theorem whileO_eq (body : σ → Option (Step σ ρ)) (x : σ) : whileO body x = match body x with | some (.next y) => whileO body y | some (.done r) => some r | none => none := by
  split
  · rename_i h; exact whileO_next h
  · rename_i h; exact whileO_done h
  · rename_i h; exact whileO_none h

end

/-- A loop of so many rounds at most. -/
def loopN (N : Nat) {σ ρ : Type} (body : σ → Option (Step σ ρ)) (x : σ) : Option ρ := iterO body N x
/-- Which loops a plain term has: those that go on until they are done, or those of so many rounds at most. -/
noncomputable def loopW {σ ρ : Type} (b : Option Nat) (body : σ → Option (Step σ ρ)) (x : σ) : Option ρ :=
  match b with
  | none => whileO body x
  | some N => iterO body N x
theorem loopW_ok {σ ρ : Type} {b : Option Nat} {body : σ → Option (Step σ ρ)} {x : σ} {r : ρ} (h : loopW b body x = some r) : ∃ n, iterO body n x = some r := by
  cases b with
  | none => exact whileO_some.1 h
  | some N => exact ⟨_, h⟩
def whileL : Option Nat := none
def loopL (N : Nat) : Option Nat := some N

theorem bindE {α β : Type} {x : Option α} {f : α → Option β} {r : β} (h : x.bind f = some r) : ∃ a, x = some a ∧ f a = some r := by
  cases x with
  | none => cases h
  | some a => exact ⟨a, rfl, h⟩


def bindO {α ρ : Type} (x : Option α) (f : α → Option ρ) : Option ρ := x.bind f
def condO {ρ : Type} (c : Bool) (a b : Option ρ) : Option ρ := cond c a b

theorem bindO_some {α ρ : Type} {x : Option α} {f : α → Option ρ} {y : ρ} (h : bindO x f = some y) : ∃ a, x = some a ∧ f a = some y := bindE h
theorem condO_some {ρ : Type} {c : Bool} {a b : Option ρ} {y : ρ} (h : condO c a b = some y) : (c = true ∧ a = some y) ∨ (c = false ∧ b = some y) := by
  cases c
  · exact .inr ⟨rfl, h⟩
  · exact .inl ⟨rfl, h⟩

/-- An element of a list, by a number that may be out of its range. -/
def geti {α : Type} (l : List α) (i : Int) : Option α :=
  match i with
  | .ofNat n => l[n]?
  | .negSucc _ => none

/-- A list with another element. -/
def seti {α : Type} (l : List α) (i : Int) (a : α) : List α := l.set i.toNat a

theorem geti_some {α : Type} {l : List α} {i : Int} {a : α} (h : geti l i = some a) : ∃ n : Nat, i = Int.ofNat n ∧ l[n]? = some a := by
  unfold geti at h
  split at h
  · exact ⟨_, rfl, h⟩
  · cases h

@[simp] theorem len_seti {α : Type} (l : List α) (i : Int) (a : α) : (seti l i a).length = l.length := by simp [seti]

def appendO {α : Type} (l : List α) (m : List α) : Option (List α) := if l.length + m.length ≤ 1048576 then some (l ++ m) else none
def makeO {α : Type} (n : Int) (z : α) : Option (List α) := if 0 ≤ n ∧ n ≤ 1048576 then some (List.replicate n.toNat z) else none
/-- A part of a list; 'room': up to where it may reach. -/
def sliceO {α : Type} (l : List α) (lo hi : Int) : Option (List α) := if 0 ≤ lo ∧ lo ≤ hi ∧ hi ≤ l.length then some ((l.drop lo.toNat).take (hi.toNat - lo.toNat)) else none

def cloneO {α : Type} (l : List α) : Option (List α) := if l.length ≤ 1048576 then some l else none
theorem cloneO_some {α : Type} {l r : List α} (h : cloneO l = some r) : r = l ∧ r.length ≤ 1048576 := by
  unfold cloneO at h
  split at h
  · injection h with h; subst h; exact ⟨rfl, by assumption⟩
  · cases h
def bAnd (k : IntKind) (a b : Int) : Int := k.wrap (BitVec.ofInt k.bits a &&& BitVec.ofInt k.bits b).toNat
def bOr (k : IntKind) (a b : Int) : Int := k.wrap (BitVec.ofInt k.bits a ||| BitVec.ofInt k.bits b).toNat
def bXor (k : IntKind) (a b : Int) : Int := k.wrap (BitVec.ofInt k.bits a ^^^ BitVec.ofInt k.bits b).toNat
def bAndNot (k : IntKind) (a b : Int) : Int := k.wrap (BitVec.ofInt k.bits a &&& ~~~ BitVec.ofInt k.bits b).toNat
def bShl (k : IntKind) (a b : Int) : Int := k.wrap (a * 2 ^ (min b.toNat k.bits))
def bShr (k : IntKind) (a b : Int) : Int := a.fdiv (2 ^ (min b.toNat k.bits))


/-- The byte of a string at a number. -/
def strAt (s : ByteArray) (i : Int) : Option Int :=
  match i with
  | .ofNat n => s[n]?.map fun b => (b.toNat : Int)
  | .negSucc _ => none

/-- Sets of lists of numbers. -/
def hasL (l : List (List Int)) (k : List Int) : Bool := l.any fun m => k == m
def insL (l : List (List Int)) (k : List Int) : List (List Int) := bif hasL l k then l else l ++ [k]

/-- All keys of a set, of the shape of one. -/
def keysLike (a : List Int) (l : List (List Int)) : Bool := l.all fun b => Nat.beq b.length a.length
def hasO (l : List (List Int)) (k : List Int) : Option Bool := bif keysLike k l then some (hasL l k) else none
def insO (l : List (List Int)) (k : List Int) : Option (List (List Int)) := bif keysLike k l then some (insL l k) else none

section
variable {F : Tab}

theorem WP.while {σ ρ : Type} {body : σ → Option (Step σ ρ)} {x : σ} {res : ρ} {live : List (Nat × Option Nat)} {b : XCode} {st : St} {Q : XExit → St → Prop} (S : σ → St) (hr : whileO body x = some res)
    (round : ∀ y z, body y = some z → (∀ y', z = .next y' → ∀ st, norm live st = some (S y') → WP F (.loop live b) st Q) → (∀ r', z = .done r' → r' = res) → WP F b (S y) (andThen (fun s => WP F (.loop live b) s Q) Q))
    (h0 : norm live st = some (S x)) : WP F (.loop live b) st Q := by
  obtain ⟨n, hn⟩ := whileO_some.1 hr
  clear hr
  induction n generalizing x st with
  | zero => cases hn
  | succ n ih =>
    have key : ∃ z, body x = some z := by
      simp only [iterO] at hn
      split at hn
      · exact ⟨_, by assumption⟩
      · exact ⟨_, by assumption⟩
      · cases hn
    obtain ⟨z, hz⟩ := key
    have hw := round x z hz (fun y' hy' st' hst' => by
      subst hy'
      simp only [iterO, hz] at hn
      exact ih hst' hn) (fun r' hr' => by
      subst hr'
      simp only [iterO, hz] at hn
      exact Option.some.inj hn)
    obtain ⟨m, e, s, he, hq⟩ := hw
    cases e with
    | normal =>
      obtain ⟨k, e', s', he', hq'⟩ := hq
      refine ⟨max m k + 1, e', s', ?_, hq'⟩
      simp only [evC] at he' ⊢
      rw [run_succ]
      simp only [step, h0]
      rw [evC_mono (run_mono F (Nat.le_max_left m k)) _ _ _ he]
      dsimp only
      split at he'
      · rename_i e1 s1 hr1
        rw [run_mono F (Nat.le_max_right m k) _ _ hr1]
        exact he'
      · cases he'
    | exit i => exact ⟨m + 1, .exit i, s, by simp only [evC]; rw [run_succ]; simp only [step, h0, he], hq⟩
    | ret => exact ⟨m + 1, .ret, s, by simp only [evC]; rw [run_succ]; simp only [step, h0, he], hq⟩


end
end Go.Vm

/- A logical machine over typed values: it turns a function's code into a plain term. What it computes is tied to the logical machine in SvRun. -/
namespace Go.Vm

/-! ### rows and values -/

/-- What a cell of a row holds. -/
inductive PT where
  | i (k : IntKind)
  | b

@[reducible] def PT.T : PT → Type
  | .i _ => Int
  | .b => Bool

@[reducible] def RT : List PT → Type
  | [] => Unit
  | [p] => p.T
  | p :: q :: r => p.T × RT (q :: r)

/-- 'sl': a slice that nobody writes to; 'nil': one without elements of no known type; 'own': all of a block; 'pre', 'part': the first ones, some of a block; 'pa', 'pb': a pointer to a row that is known, or is there; 'bp': into a box. -/
inductive SV where
  | junk
  | undef
  | nul
  | nilf
  | int (k : IntKind) (n : Int)
  | bool (b : Bool)
  | str (s : ByteArray)
  | agg (cs : List SV)
  | tup (cs : List SV)
  | sl (r : List PT) (l : List (RT r))
  | nil (e : Nat) (c : Bool)
  | own (t : Nat) (ex : Bool)
  | pre (t len cap : Nat) (ex : Bool)
  | part (t off len cap : Nat) (ex : Bool)
  | pa (t : Nat) (r : List PT) (i : Int) (a : RT r) (off : Nat)
  | pb (t : Nat) (i : Int) (off : Nat)
  | bp (t n off : Nat)
  | rptr (cs : List SV) (off : Nat)
  | clo (f : FuncId) (a b : List SV)
  | mp (t : Nat)

inductive SB where
  | arr (r : List PT) (l : List (RT r))
  | box (cs : List SV)
  | set (l : List (List Int))
  | dead

abbrev SE := List (Nat × SV)

structure SSt where
  env : SE
  sto : List SB
  fz : List Nat
  kn : Nat

structure Rows where
  r : List PT
  l : List (RT r)

def PT.same : PT → PT → Bool
  | .i k, .i l => kindEq k l
  | .b, .b => true
  | _, _ => false
def rSame : List PT → List PT → Bool
  | [], [] => true
  | p :: r, q :: s => p.same q && rSame r s
  | _, _ => false
theorem PT.same_eq : ∀ {p q : PT}, p.same q = true → p = q
  | .i k, .i l, h => by rw [kindEq_iff.1 h]
  | .b, .b, _ => rfl
  | .i _, .b, h => by cases h
  | .b, .i _, h => by cases h
theorem rSame_eq : ∀ {r s : List PT}, rSame r s = true → r = s
  | [], [], _ => rfl
  | p :: r, q :: s, h => by
    simp only [rSame, Bool.and_eq_true] at h
    rw [PT.same_eq h.1, rSame_eq h.2]
  | [], _ :: _, h => by cases h
  | _ :: _, [], h => by cases h
def castL (r q : List PT) (l : List (RT r)) : Option (List (RT q)) := if h : rSame r q = true then some (rSame_eq h ▸ l) else none

def PT.pv : (p : PT) → p.T → PV
  | .i k, n => .int k n
  | .b, x => .bool x
def RT.pv : (r : List PT) → RT r → List PV
  | [], _ => []
  | [p], a => [p.pv a]
  | p :: q :: r, a => p.pv a.1 :: RT.pv (q :: r) a.2
def PT.sv : (p : PT) → p.T → SV
  | .i k, n => .int k n
  | .b, x => .bool x
def RT.sv : (r : List PT) → RT r → List SV
  | [], _ => []
  | [p], a => [p.sv a]
  | p :: q :: r, a => p.sv a.1 :: RT.sv (q :: r) a.2
def PT.of : (p : PT) → SV → Option p.T
  | .i k, .int l n => bif kindEq l k then some n else none
  | .b, .bool x => some x
  | _, _ => none
def RT.of : (r : List PT) → List SV → Option (RT r)
  | [], [] => some ()
  | [p], [v] => p.of v
  | p :: q :: r, v :: vs => match p.of v, RT.of (q :: r) vs with
    | some a, some b => some (a, b)
    | _, _ => none
  | _, _ => none
def PT.zero : (p : PT) → p.T
  | .i _ => (0 : Int)
  | .b => false
def RT.zero : (r : List PT) → RT r
  | [] => ()
  | [p] => p.zero
  | p :: q :: r => (p.zero, RT.zero (q :: r))

def ptOf : PV → Option PT
  | .int k n => match n with
    | .ofNat 0 => some (.i k)
    | _ => none
  | .bool b => match b with
    | false => some .b
    | true => none
  | _ => none
def ptsOf : List PV → Option (List PT)
  | [] => some []
  | v :: vs => match ptOf v, ptsOf vs with
    | some p, some r => some (p :: r)
    | _, _ => none

def nth {α : Type} : List α → Nat → Option α
  | [], _ => none
  | x :: _, 0 => some x
  | _ :: r, n + 1 => nth r n
theorem nth_eq {α : Type} : ∀ (l : List α) (n : Nat), nth l n = l[n]?
  | [], n => by simp [nth]
  | x :: r, 0 => by simp [nth]
  | x :: r, n + 1 => by simp [nth, nth_eq r n]

def lkS (t : Nat) : SE → SV
  | [] => .undef
  | (s, v) :: r => bif Nat.beq s t then v else lkS t r
/-- A condition that is known now. -/
def setS (t : Nat) (v : SV) : SE → SE
  | [] => []
  | (s, x) :: r => bif Nat.beq s t then (s, v) :: r else (s, x) :: setS t v r

mutual
def ofPV : PV → SV
  | .undef => .undef
  | .nul => .nul
  | .nilf => .nilf
  | .int k n => .int k n
  | .bool b => .bool b
  | .str s => .str s
  | .agg cs => .agg (ofPVL cs)
  | .tup cs => .tup (ofPVL cs)
  | .sl e c rows => match rows with
    | [] => .nil e c
    | _ => .junk
  | .clo f a b => .clo f (ofPVL a) (ofPVL b)
  | _ => .junk
def ofPVL : List PV → List SV
  | [] => []
  | x :: xs => ofPV x :: ofPVL xs
end

def opdS (e : SE) : Opd → SV
  | .t n => lkS n e
  | .c v => ofPV v
def opdsS (e : SE) : List Opd → List SV
  | [] => []
  | x :: xs => opdS e x :: opdsS e xs

def SV.isOne : SV → Bool
  | .junk | .undef | .nul | .agg _ | .tup _ => false
  | _ => true
def allOne : List SV → Bool
  | [] => true
  | x :: xs => x.isOne && allOne xs
def SV.cells : SV → List SV
  | .agg cs => cs
  | v => [v]
def SV.stored (v : SV) : Option (List SV) := bif allOne v.cells then some v.cells else none

def partS (agg : Option Nat) (off : Nat) (cs : List SV) : Option SV :=
  match agg with
  | some s => bif Nat.ble (off + s) cs.length then some (.agg ((cs.drop off).take s)) else none
  | none => nth cs off
def spliceS (off : Nat) (new old : List SV) : List SV := old.take off ++ new ++ old.drop (off + new.length)

/-- All elements of a slice. -/
def contS (s : List SB) : SV → Option Rows
  | .sl r l => some ⟨r, l⟩
  | .own t _ => match nth s t with
    | some (.arr r l) => some ⟨r, l⟩
    | _ => none
  | .pre t len _ _ => match nth s t with
    | some (.arr r l) => some ⟨r, l.take len⟩
    | _ => none
  | .part t off len _ _ => match nth s t with
    | some (.arr r l) => some ⟨r, (l.drop off).take len⟩
    | _ => none
  | _ => none
def tokS : SV → List Nat
  | .own t _ => [t]
  | .pre t _ _ _ => [t]
  | .part t _ _ _ _ => [t]
  | _ => []

structure SRes where
  v : SV
  news : List SB := []
  wr : List (Nat × SB) := []
  rd : List Nat := []
  fr : List Nat := []

/-! ### answers -/

/-- A plain term that is still to be told what is done with its results. -/
def Ans (R : Type) := ∀ ρ : Type, (R → ρ) → Option ρ
section
variable {R : Type}
def leafA (b : R) : Ans R := fun _ w => some (w b)
def failA : Ans R := fun _ _ => none
def bindA {α : Type} (x : Option α) (f : α → Ans R) : Ans R := fun ρ w => bindO x fun a => f a ρ w
def condA (c : Bool) (a b : Ans R) : Ans R := fun ρ w => condO c (a ρ w) (b ρ w)

/-- A value, looked at. -/
def seqV (v : SV) (k : SV → Ans R) : Ans R :=
  match v with
  | .junk => k .junk
  | .undef => k .undef
  | .nul => k .nul
  | .nilf => k .nilf
  | .int a b => k (.int a b)
  | .bool a => k (.bool a)
  | .str a => k (.str a)
  | .agg a => k (.agg a)
  | .tup a => k (.tup a)
  | .sl a b => k (.sl a b)
  | .nil a b => k (.nil a b)
  | .own a b => k (.own a b)
  | .pre a b c d => k (.pre a b c d)
  | .part a b c d x => k (.part a b c d x)
  | .pa a b c d e => k (.pa a b c d e)
  | .pb a b c => k (.pb a b c)
  | .bp a b c => k (.bp a b c)
  | .rptr a b => k (.rptr a b)
  | .clo a b c => k (.clo a b c)
  | .mp a => k (.mp a)
theorem seqV_eq (v : SV) (k : SV → Ans R) : seqV v k = k v := by cases v <;> rfl

def arithS (op : BinOp) (k : IntKind) (a b : Int) (c : SV → Ans R) : Ans R :=
  match op with
  | .add => c (.int k (wrapF k (a + b)))
  | .sub => c (.int k (wrapF k (a - b)))
  | .mul => c (.int k (wrapF k (a * b)))
  | .quo => condA (b == 0) failA (c (.int k (wrapF k (Int.tdiv a b))))
  | .rem => condA (b == 0) failA (c (.int k (Int.tmod a b)))
  | .and => c (.int k (bAnd k a b))
  | .or => c (.int k (bOr k a b))
  | .xor => c (.int k (bXor k a b))
  | .andNot => c (.int k (bAndNot k a b))
  | .eql => c (.bool (a == b))
  | .neq => c (.bool (a != b))
  | .lss => c (.bool (decide (a < b)))
  | .leq => c (.bool (decide (a ≤ b)))
  | .gtr => c (.bool (decide (b < a)))
  | .geq => c (.bool (decide (b ≤ a)))
  | .shl | .shr => failA

def eqS : List SV → List SV → Option Bool
  | [], [] => some true
  | x :: xs, y :: ys => match x, y with
    | .int k a, .int l b => bif kindEq k l then (match xs with
      | [] => (match ys with | [] => some (a == b) | _ => none)
      | _ :: _ => match eqS xs ys with
        | some r => some (a == b && r)
        | none => none) else none
    | _, _ => none
  | _, _ => none

def fillCellsS : List (Nat × Nat × SV) → List SV → Option (List SV)
  | [], cs => some cs
  | (off, sz, v) :: r, cs => match v.stored with
    | some w => bif Nat.beq w.length sz && Nat.ble (off + sz) cs.length then fillCellsS r (spliceS off w cs) else none
    | none => none
def partsS (e : SE) : List (Nat × Nat × Opd) → List (Nat × Nat × SV)
  | [] => []
  | p :: r => (p.1, p.2.1, opdS e p.2.2) :: partsS e r

def rowsS (r : List PT) (e : SE) (n : Nat) : List (Nat × Opd) → Option (List (Nat × RT r))
  | [] => some []
  | p :: ps => match RT.of r (opdS e p.2).cells, rowsS r e n ps with
    | some a, some l => bif Nat.blt p.1 n then some ((p.1, a) :: l) else none
    | _, _ => none
def rowAt {α : Type} (i : Nat) : α → List (Nat × α) → α
  | z, [] => z
  | z, (j, a) :: r => rowAt i (bif Nat.beq j i then a else z) r
def genL {α : Type} (f : Nat → α) : Nat → Nat → List α
  | _, 0 => []
  | i, n + 1 => f i :: genL f (i + 1) n

def boundI (e : SE) (d : Int) : Option Opd → Option Int
  | none => some d
  | some x => match opdS e x with
    | .int _ n => some n
    | _ => none

def mmS (isMax : Bool) (k : IntKind) : Int → List SV → Option SV
  | a, [] => some (.int k a)
  | a, x :: r => match x with
    | .int l b => bif kindEq k l then mmS isMax k (bif isMax then (if b > a then b else a) else (if b < a then b else a)) r else none
    | _ => none

def intsS : List SV → Option (List Int)
  | [] => some []
  | x :: xs => match x, intsS xs with
    | .int .i64 n, some l => some (n :: l)
    | _, _ => none
/-- A key: one number, or some. -/
def keyS (n : Option Nat) (v : SV) : Option (List Int) :=
  match n, v with
  | none, .int .i64 a => some [a]
  | some n, .agg cs => bif Nat.beq cs.length n && !Nat.beq n 1 then intsS cs else none
  | _, _ => none

/-- One of the n parts of an array. -/
def pickS (n : Nat) (i : Int) (j : Nat) (f : Nat → Ans R) : Ans R :=
  match n with
  | 0 => failA
  | n + 1 => condA (i == Int.ofNat j) (f j) (pickS n i (j + 1) f)

def ansO {α : Type} (x : Option α) (k : α → Ans R) : Ans R :=
  match x with
  | some a => k a
  | none => failA

def ofV (k : SRes → Ans R) (v : SV) : Ans R := k { v }

def iadrS (s : List SB) (esz : Nat) (x : SV) (i : Int) (k : SRes → Ans R) : Ans R :=
  match x with
  | .sl r l => bif Nat.beq r.length esz then bindA (geti l i) fun a => k { v := .rptr (RT.sv r a) 0 } else failA
  | .own t _ => match nth s t with
    | some (.arr r l) => bif Nat.beq r.length esz then bindA (geti l i) fun a => k { v := .pa t r i a 0 } else failA
    | _ => failA
  | .pre t len _ _ => match nth s t with
    | some (.arr r l) => bif Nat.beq r.length esz then bindA (geti (l.take len) i) fun a => k { v := .pa t r i a 0 } else failA
    | _ => failA
  | _ => failA

def loadS (s : List SB) (agg : Option Nat) (p : SV) (k : SRes → Ans R) : Ans R :=
  match p with
  | .bp t _ off => match nth s t with
    | some (.box cs) => ansO (partS agg off cs) fun v => k { v, rd := [t] }
    | _ => failA
  | .pa t r _ a off => match nth s t with
    | some (.arr _ _) => ansO (partS agg off (RT.sv r a)) fun v => k { v, rd := [t] }
    | _ => failA
  | .pb t i off => match nth s t with
    | some (.arr r l) => bindA (geti l i) fun a => ansO (partS agg off (RT.sv r a)) fun v => k { v, rd := [t] }
    | _ => failA
  | .rptr cs off => ansO (partS agg off cs) fun v => k { v }
  | _ => failA

def storeS (s : List SB) (z : List Nat) (sz : Nat) (p v : SV) (k : SRes → Ans R) : Ans R :=
  match p with
  | .bp t _ off => match nth s t with
    | some (.box cs) => ansO v.stored fun w => bif Nat.beq w.length sz && Nat.ble (off + sz) cs.length && !has z t then k { v := .undef, wr := [(t, .box (spliceS off w cs))] } else failA
    | _ => failA
  | .pa t r i a off => match nth s t with
    | some (.arr q l) => bif Nat.beq v.cells.length sz && Nat.ble (off + sz) r.length && !has z t then
        ansO (RT.of q (spliceS off v.cells (RT.sv r a))) fun b => k { v := .undef, wr := [(t, .arr q (seti l i b))] } else failA
    | _ => failA
  | .pb t i off => match nth s t with
    | some (.arr q l) => bif Nat.beq v.cells.length sz && Nat.ble (off + sz) q.length && !has z t then
        (bif Nat.beq sz q.length then ansO (RT.of q v.cells) fun b => k { v := .undef, wr := [(t, .arr q (seti l i b))] }
        else bindA (geti l i) fun a => ansO (RT.of q (spliceS off v.cells (RT.sv q a))) fun b => k { v := .undef, wr := [(t, .arr q (seti l i b))] }) else failA
    | _ => failA
  | _ => failA

/-- A part of a block: from where, how many, up to where it may grow. -/
def cutS (e : SE) (t off len cap : Nat) (ex : Bool) (lo hi mx : Option Opd) (k : SRes → Ans R) : Ans R :=
  ansO (boundI e 0 lo) fun a => ansO (boundI e (.ofNat len) hi) fun b => match mx with
    | none => condA (decide (0 ≤ a) && decide (a ≤ b) && decide (b ≤ .ofNat cap)) (k { v := .part t (off + a.toNat) (b.toNat - a.toNat) (cap - a.toNat) ex }) failA
    | some m => match opdS e m with
      | .int _ c => condA (decide (0 ≤ a) && decide (a ≤ b) && decide (b ≤ c) && decide (c ≤ .ofNat cap)) (k { v := .part t (off + a.toNat) (b.toNat - a.toNat) (c.toNat - a.toNat) true }) failA
      | _ => failA

def slcS (e : SE) (s : List SB) (esz : Nat) (x : SV) (lo hi mx : Option Opd) (k : SRes → Ans R) : Ans R :=
  match x with
  | .sl r l => match mx with
    | none => bif Nat.beq r.length esz then ansO (boundI e 0 lo) fun a => ansO (boundI e (Int.ofNat l.length) hi) fun b => bindA (sliceO l a b) fun m => k { v := .sl r m } else failA
    | some _ => failA
  | .own t ex => match nth s t with
    | some (.arr r l) => bif Nat.beq r.length esz then (match lo, hi, mx with
      | none, none, none => k { v := .own t ex }
      | none, some h, none => match opdS e h with
        | .int _ b => bindA (sliceO l 0 b) fun _ => k { v := .pre t b.toNat l.length ex }
        | _ => failA
      | lo, hi, mx => cutS e t 0 l.length l.length ex lo hi mx k) else failA
    | _ => failA
  | .pre t len cap ex => match nth s t with
    | some (.arr r l) => bif Nat.beq r.length esz then (match lo, hi, mx with
      | none, none, none => condA (Nat.ble len cap) (k { v := .pre t len cap ex }) failA
      | none, some h, none => match opdS e h with
        | .int _ b => condA (decide (0 ≤ b) && decide (b ≤ .ofNat cap)) (k { v := .pre t b.toNat cap ex }) failA
        | _ => failA
      | lo, hi, mx => cutS e t 0 len cap ex lo hi mx k) else failA
    | _ => failA
  | .part t off len cap ex => match nth s t with
    | some (.arr r _) => bif Nat.beq r.length esz then cutS e t off len cap ex lo hi mx k else failA
    | _ => failA
  | _ => failA

/-- A list with others from a place on. -/
def layL {α : Type} (l : List α) (n : Nat) (m : List α) : List α := l.take n ++ m ++ l.drop (n + m.length)

def SV.isPart : SV → Bool
  | .part .. => true
  | _ => false

def appendS (s : List SB) (z : List Nat) (esz : Nat) (x y : SV) (k : SRes → Ans R) : Ans R :=
  match contS s y with
  | none => failA
  | some ⟨q, m⟩ => bif Nat.beq q.length esz then (match x with
    | .nil _ c => bif c then bindA (cloneO m) fun m' => k { v := .own s.length false, news := [.arr q m'], rd := tokS y } else failA
    | .own t ex => match nth s t with
      | some (.arr r l) => match castL q r m with
        | none => failA
        | some m => match ex with
          | true => condA l.isEmpty (bindA (cloneO m) fun m' => k { v := .own s.length false, news := [.arr r m'], rd := t :: tokS y })
              (condA m.isEmpty (k { v := .own t true, rd := tokS y }) (bindA (appendO l m) fun l' => k { v := .own s.length false, news := [.arr r l'], rd := t :: tokS y }))
          | false => condA m.isEmpty (k { v := .own t false, rd := tokS y })
              (bif has z t then failA else bindA (appendO l m) fun l' => k { v := .own s.length false, news := [.arr r l'], wr := [(t, .dead)], rd := tokS y })
      | _ => failA
    | .pre t len cap ex => match nth s t with
      | some (.arr r l) => match castL q r m with
        | none => failA
        | some m => bif ex then failA else condA m.isEmpty (k { v := .pre t len cap false, rd := tokS y })
            (condA (Nat.ble (len + m.length) cap) (condA (Nat.ble (len + m.length) l.length && !has z t) (k { v := .pre t (len + m.length) cap false, wr := [(t, .arr r (layL l len m))], rd := tokS y }) failA)
              (bif has z t || y.isPart then failA else bindA (appendO (l.take len) m) fun l' => condA (Nat.ble len l.length) (k { v := .own s.length false, news := [.arr r l'], wr := [(t, .dead)], rd := tokS y }) failA))
      | _ => failA
    | _ => failA) else failA

def clearS (s : List SB) (z : List Nat) (esz : Nat) (zero : Row) (x : SV) (k : SRes → Ans R) : Ans R :=
  match x with
  | .part t off len _ _ => match nth s t with
    | some (.arr r l) => match ptsOf zero with
      | some q => bif rSame q r && Nat.beq r.length esz then condA (Nat.beq len 0) (k { v := .undef })
          (condA (Nat.ble (off + len) l.length && !has z t) (k { v := .undef, wr := [(t, .arr r (layL l off (List.replicate len (RT.zero r))))] }) failA) else failA
      | none => failA
    | _ => failA
  | _ => failA

/-- What a slice of a block begins with, from where, how many. -/
def copyTo (s : List SB) (z : List Nat) (t : Nat) (r : List PT) (l : List (RT r)) (off len : Nat) (y : SV) (k : SRes → Ans R) : Ans R :=
  match contS s y with
  | none => failA
  | some ⟨q, m⟩ => match castL q r m with
    | none => failA
    | some m => condA (m.take len).isEmpty (k { v := .int .i64 0, rd := tokS y })
        (condA (Nat.ble (off + (m.take len).length) l.length && !has z t) (k { v := .int .i64 (.ofNat (m.take len).length), wr := [(t, .arr r (layL l off (m.take len)))], rd := tokS y }) failA)
def copyS (s : List SB) (z : List Nat) (esz : Nat) (x y : SV) (k : SRes → Ans R) : Ans R :=
  match x with
  | .own t _ => match nth s t with
    | some (.arr r l) => bif Nat.beq r.length esz then copyTo s z t r l 0 l.length y k else failA
    | _ => failA
  | .pre t len _ _ => match nth s t with
    | some (.arr r l) => bif Nat.beq r.length esz then copyTo s z t r l 0 len y k else failA
    | _ => failA
  | .part t off len _ _ => match nth s t with
    | some (.arr r l) => bif Nat.beq r.length esz then copyTo s z t r l off len y k else failA
    | _ => failA
  | _ => failA

/-- An operation that calls nothing. -/
def evS (e : SE) (s : List SB) (z : List Nat) (op : XOp) (k : SRes → Ans R) : Ans R :=
  match op with
  | .mov x => k { v := opdS e x }
  | .pick c a b => match opdS e c with
    | .bool c => condA c (k { v := opdS e a }) (k { v := opdS e b })
    | _ => failA
  | .bin op x y => match opdS e x with
    | .int ka a => match opdS e y with
      | .int kb b => match op with
        | .shl => condA (decide (b < 0)) failA (k { v := .int ka (bShl ka a b) })
        | .shr => condA (decide (b < 0)) failA (k { v := .int ka (bShr ka a b) })
        | op => bif kindEq ka kb then arithS op ka a b (ofV k) else failA
      | _ => failA
    | _ => failA
  | .binb neg x y => match opdS e x with
    | .bool a => match opdS e y with
      | .bool b => k { v := .bool (bif neg then !(a == b) else a == b) }
      | _ => failA
    | _ => failA
  | .eqc n neg x y => match opdS e x with
    | .agg xs => match opdS e y with
      | .agg ys => bif Nat.beq xs.length n && Nat.beq ys.length n then ansO (eqS xs ys) fun b => k { v := .bool (bif neg then !b else b) } else failA
      | _ => failA
    | _ => failA
  | .un op x => match op with
    | .neg => match opdS e x with
      | .int a n => k { v := .int a (wrapF a (0 - n)) }
      | _ => failA
    | .not => match opdS e x with
      | .bool b => k { v := .bool !b }
      | _ => failA
    | _ => failA
  | .conv a x => match opdS e x with
    | .int _ n => k { v := .int a (wrapF a n) }
    | _ => failA
  | .len x => match opdS e x with
    | .nil _ _ => k { v := .int .i64 0 }
    | .pre _ len _ _ => k { v := .int .i64 (.ofNat len) }
    | .part _ _ len _ _ => k { v := .int .i64 (.ofNat len) }
    | v => ansO (contS s v) fun c => k { v := .int .i64 (.ofNat c.l.length) }
  | .lenc n => k { v := .int .i64 (.ofNat n) }
  | .box x => ansO (opdS e x).stored fun cs => k { v := .bp s.length cs.length 0, news := [.box cs] }
  | .alloc cells => k { v := .bp s.length cells.length 0, news := [.box (ofPVL cells)] }
  | .build zero parts => ansO (fillCellsS (partsS e parts) (ofPVL zero)) fun cs => k { v := .agg cs }
  | .mkrow esz n zero parts => ansO (ptsOf zero) fun r => bif Nat.beq r.length esz then ansO (rowsS r e n parts) fun ps =>
      k { v := .own s.length true, news := [.arr r (genL (fun i => rowAt i (RT.zero r) ps) 0 n)] } else failA
  | .load agg p => loadS s agg (opdS e p) k
  | .store sz p v => storeS s z sz (opdS e p) (opdS e v) k
  | .nilc x => match opdS e x with
    | .pa t r i a o => k { v := .pa t r i a o }
    | .pb t i o => k { v := .pb t i o }
    | .bp t n o => k { v := .bp t n o }
    | .rptr c o => k { v := .rptr c o }
    | .clo f a b => k { v := .clo f a b }
    | _ => failA
  | .fadr off p => match opdS e p with
    | .pa t r i a o => k { v := .pa t r i a (o + off) }
    | .pb t i o => k { v := .pb t i (o + off) }
    | .bp t n o => k { v := .bp t n (o + off) }
    | .rptr c o => k { v := .rptr c (o + off) }
    | _ => failA
  | .fld agg off x => match opdS e x with
    | .agg cs => ansO (partS agg off cs) (ofV k)
    | _ => failA
  | .iadr esz x i => match opdS e i with
    | .int _ n => iadrS s esz (opdS e x) n k
    | _ => failA
  | .iadra n esz p i => match opdS e i with
    | .int _ j => match opdS e p with
      | .bp t m o => pickS n j 0 fun j => k { v := .bp t m (o + j * esz) }
      | .rptr c o => pickS n j 0 fun j => k { v := .rptr c (o + j * esz) }
      | _ => failA
    | _ => failA
  | .idx n esz agg x i => match opdS e i with
    | .int _ j => match opdS e x with
      | .agg cs => pickS n j 0 fun j => ansO (partS agg (j * esz) cs) (ofV k)
      | _ => failA
    | _ => failA
  | .sidx x i => match opdS e i with
    | .int _ j => match opdS e x with
      | .str t => bindA (strAt t j) fun b => k { v := .int .u8 b }
      | _ => failA
    | _ => failA
  | .slc esz x lo hi mx => slcS e s esz (opdS e x) lo hi mx k
  | .clear esz zero x => clearS s z esz zero (opdS e x) k
  | .copy esz x y => copyS s z esz (opdS e x) (opdS e y) k
  | .mks esz zero l c => match opdS e l with
    | .int _ n => match opdS e c with
      | .int _ m => condA (n == m) (ansO (ptsOf zero) fun r => bif Nat.beq r.length esz then bindA (makeO n (RT.zero r)) fun x => k { v := .own s.length true, news := [.arr r x] } else failA) failA
      | _ => failA
    | _ => failA
  | .mkf fn a b => k { v := .clo fn (opdsS e a) (opdsS e b) }
  | .mkm => k { v := .mp s.length, news := [.set []] }
  | .lookup n zero ok m q => match zero, ok with
    | .bool false, false => match opdS e m with
      | .mp t => match nth s t with
        | some (.set l) => ansO (keyS n (opdS e q)) fun a => bindA (hasO l a) fun b => k { v := .bool b, rd := [t] }
        | _ => failA
      | _ => failA
    | _, _ => failA
  | .mapu n m q x => match opdS e x with
    | .bool true => match opdS e m with
      | .mp t => match nth s t with
        | some (.set l) => bif has z t then failA else ansO (keyS n (opdS e q)) fun a => bindA (insO l a) fun m => k { v := .undef, wr := [(t, .set m)] }
        | _ => failA
      | _ => failA
    | _ => failA
  | .ext i x => match opdS e x with
    | .tup vs => ansO (nth vs i) (ofV k)
    | _ => failA
  | .append esz x y => appendS s z esz (opdS e x) (opdS e y) k
  | .mm isMax x xs => match opdS e x with
    | .int a n => ansO (mmS isMax a n (opdsS e xs)) (ofV k)
    | _ => failA
  | _ => failA
end

/-! ### over the border of a call -/

mutual
def exV (s : List SB) (bx : Nat → Option (List SV)) : SV → Option SV
  | .int k n => some (.int k n)
  | .bool b => some (.bool b)
  | .str x => some (.str x)
  | .nilf => some .nilf
  | .agg cs => match exVL s bx cs with | some l => some (.agg l) | none => none
  | .tup cs => match exVL s bx cs with | some l => some (.tup l) | none => none
  | .sl r l => some (.sl r l)
  | .nil e _ => some (.nil e false)
  | .own t _ => match nth s t with
    | some (.arr r l) => some (.sl r l)
    | _ => none
  | .pre t len _ _ => match nth s t with
    | some (.arr r l) => some (.sl r (l.take len))
    | _ => none
  | .part t off len _ _ => match nth s t with
    | some (.arr r l) => some (.sl r ((l.drop off).take len))
    | _ => none
  | .pa t r _ a off => match nth s t with
    | some (.arr _ _) => some (.rptr (RT.sv r a) off)
    | _ => none
  | .bp t _ off => match nth s t with
    | some (.box _) => match bx t with | some l => some (.rptr l off) | none => none
    | _ => none
  | .rptr cs off => match exVL s bx cs with | some l => some (.rptr l off) | none => none
  | .clo f a b => match exVL s bx a, exVL s bx b with
    | some x, some y => some (.clo f x y)
    | _, _ => none
  | _ => none
def exVL (s : List SB) (bx : Nat → Option (List SV)) : List SV → Option (List SV)
  | [] => some []
  | x :: xs => match exV s bx x, exVL s bx xs with
    | some y, some ys => some (y :: ys)
    | _, _ => none
end

def exBxS (s : List SB) : Nat → Nat → Option (List SV)
  | 0, _ => none
  | n + 1, t => match nth s t with
    | some (.box cs) => exVL s (exBxS s n) cs
    | _ => none

mutual
/-- The blocks that a value leads to. -/
def tkV (bx : Nat → List Nat) : SV → List Nat
  | .agg cs => tkVL bx cs
  | .tup cs => tkVL bx cs
  | .own t _ => [t]
  | .pre t _ _ _ => [t]
  | .part t _ _ _ _ => [t]
  | .pa t _ _ _ _ => t :: bx t
  | .pb t _ _ => t :: bx t
  | .bp t _ _ => t :: bx t
  | .rptr cs _ => tkVL bx cs
  | .mp t => [t]
  | .clo _ a b => tkVL bx a ++ tkVL bx b
  | _ => []
def tkVL (bx : Nat → List Nat) : List SV → List Nat
  | [] => []
  | x :: xs => tkV bx x ++ tkVL bx xs
end
def tkBx (s : List SB) : Nat → Nat → List Nat
  | 0, _ => []
  | n + 1, t => match nth s t with
    | some (.box cs) => tkVL (tkBx s n) cs
    | _ => []

mutual
/-- Is all of a value known? -/
def SV.sure : SV → Bool
  | .junk => false
  | .agg cs => sureL cs
  | .tup cs => sureL cs
  | .rptr cs _ => sureL cs
  | .clo _ a b => sureL a && sureL b
  | _ => true
def sureL : List SV → Bool
  | [] => true
  | x :: xs => x.sure && sureL xs
end

mutual
def norefS : SV → Bool
  | .int _ _ | .bool _ | .str _ => true
  | .agg cs => norefSL cs
  | .tup cs => norefSL cs
  | _ => false
def norefSL : List SV → Bool
  | [] => true
  | x :: xs => norefS x && norefSL xs
end

mutual
def imV (s : List SB) : SV → Option SV
  | .int k n => some (.int k n)
  | .bool b => some (.bool b)
  | .str x => some (.str x)
  | .agg cs => match imVL s cs with | some l => some (.agg l) | none => none
  | .tup cs => match imVL s cs with | some l => some (.tup l) | none => none
  | .sl r l => some (.sl r l)
  | .nil e _ => some (.nil e false)
  | .own t _ => match nth s t with
    | some (.arr r l) => some (.sl r l)
    | _ => none
  | .pre t len _ _ => match nth s t with
    | some (.arr r l) => some (.sl r (l.take len))
    | _ => none
  | .part t off len _ _ => match nth s t with
    | some (.arr r l) => some (.sl r ((l.drop off).take len))
    | _ => none
  | _ => none
def imVL (s : List SB) : List SV → Option (List SV)
  | [] => some []
  | x :: xs => match imV s x, imVL s xs with
    | some y, some ys => some (y :: ys)
    | _, _ => none
end

mutual
def imOV (s : List SB) (z : List Nat) : List Nat → SV → Option (SV × List Nat)
  | seen, .int k n => some (.int k n, seen)
  | seen, .bool b => some (.bool b, seen)
  | seen, .agg cs => match imOVL s z seen cs with | some p => some (.agg p.1, p.2) | none => none
  | seen, .tup cs => match imOVL s z seen cs with | some p => some (.tup p.1, p.2) | none => none
  | seen, .nil e c => bif c then some (.nil e false, seen) else none
  | seen, .own t _ => match nth s t with
    | some (.arr r l) => bif has seen t || has z t then none else some (.sl r l, t :: seen)
    | _ => none
  | _, _ => none
def imOVL (s : List SB) (z : List Nat) : List Nat → List SV → Option (List SV × List Nat)
  | seen, [] => some ([], seen)
  | seen, x :: xs => match imOV s z seen x with
    | some p => match imOVL s z p.2 xs with
      | some q => some (p.1 :: q.1, q.2)
      | none => none
    | none => none
end

mutual
/-- A result whose slices become blocks of the caller's. -/
def ownOf : Nat → SV → SV × List SB
  | nx, .sl r l => (.own nx false, [.arr r l])
  | nx, .nil e _ => (.own nx false, [.arr (List.replicate e (.i .i64)) []])
  | nx, .agg cs => (.agg (ownOfL nx cs).1, (ownOfL nx cs).2)
  | nx, .tup cs => (.tup (ownOfL nx cs).1, (ownOfL nx cs).2)
  | _, v => (v, [])
def ownOfL : Nat → List SV → List SV × List SB
  | _, [] => ([], [])
  | nx, x :: xs => ((ownOf nx x).1 :: (ownOfL (nx + (ownOf nx x).2.length) xs).1, (ownOf nx x).2 ++ (ownOfL (nx + (ownOf nx x).2.length) xs).2)
end

/-! ### the head of a loop -/

def blkTkS : SB → List Nat
  | .box cs => tkVL noBx cs
  | _ => []
def blkSure : SB → Bool
  | .box cs => sureL cs
  | _ => true

def reachS (s : List SB) : Nat → List Nat → List Nat → Option (List Nat)
  | _, [], seen => some seen
  | 0, _ :: _, _ => none
  | n + 1, t :: ts, seen =>
    bif has seen t then reachS s n ts seen
    else match nth s t with
      | some b => bif blkSure b then reachS s n (blkTkS b ++ ts) (seen ++ [t]) else none
      | none => none

mutual
def renV (m : List Nat) : SV → Option SV
  | .agg cs => match renVL m cs with | some l => some (.agg l) | none => none
  | .tup cs => match renVL m cs with | some l => some (.tup l) | none => none
  | .own t ex => match idxOf t m with | some u => some (.own u ex) | none => none
  | .pre t len cap ex => match idxOf t m with | some u => some (.pre u len cap ex) | none => none
  | .part t off len cap ex => match idxOf t m with | some u => some (.part u off len cap ex) | none => none
  | .pa t _ i _ off => match idxOf t m with | some u => some (.pb u i off) | none => none
  | .pb t i off => match idxOf t m with | some u => some (.pb u i off) | none => none
  | .bp t n off => match idxOf t m with | some u => some (.bp u n off) | none => none
  | .rptr cs off => match renVL m cs with | some l => some (.rptr l off) | none => none
  | .mp t => match idxOf t m with | some u => some (.mp u) | none => none
  | .clo f a b => match renVL m a, renVL m b with
    | some x, some y => some (.clo f x y)
    | _, _ => none
  | .junk => none
  | v => some v
def renVL (m : List Nat) : List SV → Option (List SV)
  | [] => some []
  | x :: xs => match renV m x, renVL m xs with
    | some y, some ys => some (y :: ys)
    | _, _ => none
end

def renB (m : List Nat) : SB → Option SB
  | .box cs => match renVL m cs with | some l => some (.box l) | none => none
  | b => some b
def renS (s : List SB) (m : List Nat) : List Nat → Option (List SB)
  | [] => some []
  | t :: ts => match nth s t with
    | some b => match renB m b, renS s m ts with
      | some b', some r => some (b' :: r)
      | _, _ => none
    | none => none

/-- What a row of some cells is, if nothing says otherwise. -/
def rowOf (rk : List (Nat × List PT)) (esz : Nat) : List PT :=
  match rk with
  | [] => List.replicate esz (.i .i64)
  | (n, r) :: q => bif Nat.beq n esz && Nat.beq r.length esz then r else rowOf q esz

def liveS (rk : List (Nat × List PT)) (e : SE) (m : List Nat) : Nat → List (Nat × Option Nat) → Option (SE × List SB)
  | _, [] => some ([], [])
  | nx, (s, k) :: r =>
    match k, lkS s e with
    | some esz, .nil _ true => match liveS rk e m (nx + 1) r with
      | some p => some ((s, .own nx false) :: p.1, .arr (rowOf rk esz) [] :: p.2)
      | none => none
    | _, v => match renV m v, liveS rk e m nx r with
      | some v', some p => some ((s, v') :: p.1, p.2)
      | _, _ => none

def ownCellS (rk : List (Nat × List PT)) (st : SSt) (t c esz : Nat) : SSt :=
  match nth st.sto t with
  | some (.box cs) => match nth cs c with
    | some (.nil _ true) => { st with sto := st.sto.set t (.box (cs.set c (.own st.sto.length false))) ++ [.arr (rowOf rk esz) []] }
    | _ => st
  | _ => st
def ownCellsS (rk : List (Nat × List PT)) : List (Nat × Option Nat) → SSt → SSt
  | [], st => st
  | (s, k) :: r, st => match k with
    | some n => bif Nat.ble 1000 n then (match lkS s st.env with
        | .bp t _ 0 => ownCellsS rk r (ownCellS rk st t (n / 1000 - 1) (n % 1000))
        | _ => ownCellsS rk r st) else ownCellsS rk r st
    | none => ownCellsS rk r st

/-- All of a block, as the first ones of it. -/
def wideV (s : List SB) (v : SV) : SV :=
  match v with
  | .own t ex => match nth s t with
    | some (.arr _ l) => .pre t l.length l.length ex
    | _ => v
  | _ => v
def wideE (s : List SB) (c : Nat) : SE → SE
  | [] => []
  | (t, v) :: r => bif Nat.beq t c then (t, wideV s v) :: r else (t, v) :: wideE s c r
/-- Slots that a number of at least 1000000 names. -/
def wideAll : List (Nat × Option Nat) → SSt → SSt
  | [], st => st
  | (t, _) :: r, st => bif Nat.ble 1000000 t then wideAll r { st with env := wideE st.sto (t - 1000000) st.env } else wideAll r st

def sureEnv (e : SE) : List (Nat × Option Nat) → Bool
  | [] => true
  | (s, _) :: r => (lkS s e).sure && sureEnv e r
def liveTk (e : SE) : List (Nat × Option Nat) → List Nat
  | [] => []
  | (s, _) :: r => tkV noBx (lkS s e) ++ liveTk e r
def knTk : List SB → Nat → List Nat
  | b :: r, n + 1 => blkTkS b ++ knTk r n
  | _, _ => []
def knSure : List SB → Nat → Bool
  | b :: r, n + 1 => blkSure b && knSure r n
  | _, _ => true

def norm1S (rk : List (Nat × List PT)) (live : List (Nat × Option Nat)) (st : SSt) : Option SSt :=
  bif sureEnv st.env live && knSure st.sto st.kn then
    match reachS st.sto 4096 (knTk st.sto st.kn ++ liveTk st.env live) (upTo st.kn) with
    | none => none
    | some m => match renS st.sto m m, liveS rk st.env m m.length live with
      | some s1, some (e1, s2) => some (wideAll live (ownCellsS rk live { env := e1, sto := s1 ++ s2, fz := renFz st.fz 0 m, kn := st.kn }))
      | _, _ => none
  else none

def normS (rk : List (Nat × List PT)) (live : List (Nat × Option Nat)) (st : SSt) : Option SSt :=
  match norm1S rk live st with
  | some s => bif live.any fun p => p.2.isSome then norm1S rk live s else some s
  | none => none

/-- What of a state a loop may change. -/
inductive AK where
  | i
  | b
  | n
  | l (r : List PT)
  | s

@[reducible] def AK.T : AK → Type
  | .i => Int
  | .b => Bool
  | .n => Nat
  | .l r => List (RT r)
  | .s => List (List Int)
@[reducible] def prodT : List AK → Type
  | [] => Unit
  | [a] => a.T
  | a :: q :: r => a.T × prodT (q :: r)

inductive Atm where
  | i (n : Int)
  | b (x : Bool)
  | n (x : Nat)
  | l (r : List PT) (x : List (RT r))
  | s (x : List (List Int))

def Atm.k : Atm → AK
  | .i _ => .i
  | .b _ => .b
  | .n _ => .n
  | .l r _ => .l r
  | .s _ => .s
def AK.at : (a : AK) → a.T → Atm
  | .i, x => .i x
  | .b, x => .b x
  | .n, x => .n x
  | .l r, x => .l r x
  | .s, x => .s x
def AK.of : (a : AK) → Atm → Option a.T
  | .i, .i x => some x
  | .b, .b x => some x
  | .n, .n x => some x
  | .l r, .l q x => castL q r x
  | .s, .s x => some x
  | _, _ => none
def atsOf : (ks : List AK) → prodT ks → List Atm
  | [], _ => []
  | [a], x => [a.at x]
  | a :: q :: r, x => a.at x.1 :: atsOf (q :: r) x.2
def prodOf : (ks : List AK) → List Atm → Option (prodT ks)
  | [], [] => some ()
  | [a], [x] => a.of x
  | a :: q :: r, x :: xs => match a.of x, prodOf (q :: r) xs with
    | some y, some ys => some (y, ys)
    | _, _ => none
  | _, _ => none

mutual
def atsV : SV → List Atm
  | .int _ n => [.i n]
  | .bool b => [.b b]
  | .agg cs => atsL cs
  | .tup cs => atsL cs
  | .sl r l => [.l r l]
  | .pre _ len cap _ => [.n len, .n cap]
  | .part _ off len cap _ => [.n off, .n len, .n cap]
  | .pb _ i _ => [.i i]
  | .rptr cs _ => atsL cs
  | .clo _ a b => atsL a ++ atsL b
  | _ => []
def atsL : List SV → List Atm
  | [] => []
  | x :: xs => atsV x ++ atsL xs
end
def atsB : SB → List Atm
  | .arr r l => [.l r l]
  | .box cs => atsL cs
  | .set l => [.s l]
  | .dead => []
def atsS : List SB → List Atm
  | [] => []
  | b :: r => atsB b ++ atsS r
def atsE : SE → List Atm
  | [] => []
  | (_, v) :: r => atsV v ++ atsE r
def atsSt (st : SSt) : List Atm := atsE st.env ++ atsS st.sto

mutual
/-- The same, but for what may change? -/
def likeV : SV → SV → Bool
  | .undef, .undef => true
  | .nul, .nul => true
  | .nilf, .nilf => true
  | .int k _, .int l _ => kindEq k l
  | .bool _, .bool _ => true
  | .agg a, .agg b => likeL a b
  | .tup a, .tup b => likeL a b
  | .sl r _, .sl q _ => rSame r q
  | .nil e c, .nil f d => Nat.beq e f && c == d
  | .own t x, .own u y => Nat.beq t u && x == y
  | .pre t _ _ x, .pre u _ _ y => Nat.beq t u && x == y
  | .part t _ _ _ x, .part u _ _ _ y => Nat.beq t u && x == y
  | .pb t _ o, .pb u _ p => Nat.beq t u && Nat.beq o p
  | .bp t n o, .bp u m p => Nat.beq t u && Nat.beq n m && Nat.beq o p
  | .rptr a o, .rptr b p => likeL a b && Nat.beq o p
  | .clo f a b, .clo g c d => Nat.beq f g && likeL a c && likeL b d
  | .mp t, .mp u => Nat.beq t u
  | _, _ => false
def likeL : List SV → List SV → Bool
  | [], [] => true
  | x :: xs, y :: ys => likeV x y && likeL xs ys
  | _, _ => false
end
def likeB : SB → SB → Bool
  | .arr r _, .arr q _ => rSame r q
  | .box a, .box b => likeL a b
  | .set _, .set _ => true
  | .dead, .dead => true
  | _, _ => false
def likeS : List SB → List SB → Bool
  | [], [] => true
  | x :: xs, y :: ys => likeB x y && likeS xs ys
  | _, _ => false
def likeE : SE → SE → Bool
  | [], [] => true
  | (t, x) :: xs, (u, y) :: ys => Nat.beq t u && likeV x y && likeE xs ys
  | _, _ => false
def likeN : List Nat → List Nat → Bool
  | [], [] => true
  | x :: xs, y :: ys => Nat.beq x y && likeN xs ys
  | _, _ => false
def likeSt (a b : SSt) : Bool := likeE a.env b.env && likeS a.sto b.sto && likeN a.fz b.fz && Nat.beq a.kn b.kn

mutual
/-- What may change, put in. -/
def putV : SV → List Atm → SV × List Atm
  | .int k _, .i n :: q => (.int k n, q)
  | .bool _, .b x :: q => (.bool x, q)
  | .agg cs, q => (.agg (putL cs q).1, (putL cs q).2)
  | .tup cs, q => (.tup (putL cs q).1, (putL cs q).2)
  | .sl _ _, .l r l :: q => (.sl r l, q)
  | .pre t _ _ x, .n len :: .n cap :: q => (.pre t len cap x, q)
  | .part t _ _ _ x, .n off :: .n len :: .n cap :: q => (.part t off len cap x, q)
  | .pb t _ o, .i i :: q => (.pb t i o, q)
  | .rptr cs o, q => (.rptr (putL cs q).1 o, (putL cs q).2)
  | .clo f a b, q => (.clo f (putL a q).1 (putL b (putL a q).2).1, (putL b (putL a q).2).2)
  | v, q => (v, q)
def putL : List SV → List Atm → List SV × List Atm
  | [], q => ([], q)
  | x :: xs, q => ((putV x q).1 :: (putL xs (putV x q).2).1, (putL xs (putV x q).2).2)
end
def putB : SB → List Atm → SB × List Atm
  | .arr _ _, .l r l :: q => (.arr r l, q)
  | .box cs, q => (.box (putL cs q).1, (putL cs q).2)
  | .set _, .s l :: q => (.set l, q)
  | b, q => (b, q)
def putS : List SB → List Atm → List SB × List Atm
  | [], q => ([], q)
  | b :: r, q => ((putB b q).1 :: (putS r (putB b q).2).1, (putS r (putB b q).2).2)
def putE : SE → List Atm → SE × List Atm
  | [], q => ([], q)
  | (t, v) :: r, q => ((t, (putV v q).1) :: (putE r (putV v q).2).1, (putE r (putV v q).2).2)
def putSt (st : SSt) (q : List Atm) : SSt := { st with env := (putE st.env q).1, sto := (putS st.sto (putE st.env q).2).1 }

def ksOf : List Atm → List AK
  | [] => []
  | a :: r => a.k :: ksOf r
def ptK {β : Type 1} (p : PT) (c : PT → β) : β :=
  match p with
  | .i k => c (.i k)
  | .b => c .b
def rK {β : Type 1} : List PT → (List PT → β) → β
  | [], c => c []
  | p :: r, c => ptK p fun p => rK r fun r => c (p :: r)
/-- Kinds, looked at. -/
def ksK {β : Type 1} : List AK → (List AK → β) → β
  | [], c => c []
  | .i :: r, c => ksK r fun r => c (.i :: r)
  | .b :: r, c => ksK r fun r => c (.b :: r)
  | .n :: r, c => ksK r fun r => c (.n :: r)
  | .l q :: r, c => rK q fun q => ksK r fun r => c (.l q :: r)
  | .s :: r, c => ksK r fun r => c (.s :: r)

/-! ### what is known of functions -/

mutual
/-- A value without blocks, as the logical machine has it. -/
def pvS : SV → Option PV
  | .int k n => some (.int k n)
  | .bool b => some (.bool b)
  | .str x => some (.str x)
  | .nilf => some .nilf
  | .agg cs => match pvL cs with | some l => some (.agg l) | none => none
  | .tup cs => match pvL cs with | some l => some (.tup l) | none => none
  | .sl r l => some (.sl r.length false (l.map (RT.pv r)))
  | .nil e c => some (.sl e c [])
  | .rptr cs off => match pvL cs with | some l => some (.rptr l off) | none => none
  | .clo f a b => match pvL a, pvL b with
    | some x, some y => some (.clo f x y)
    | _, _ => none
  | _ => none
def pvL : List SV → Option (List PV)
  | [] => some []
  | x :: xs => match pvS x, pvL xs with
    | some y, some ys => some (y :: ys)
    | _, _ => none
end

/-- A type of cells. -/
structure Cod (α : Type) where
  enc : α → List SV
  dec : List SV → Option (α × List SV)
  law : ∀ {vs : List SV} {a : α} {rest : List SV} {ps : List PV}, dec vs = some (a, rest) → pvL vs = some ps → ∃ p q, ps = p ++ q ∧ pvL (enc a) = some p ∧ pvL rest = some q
/-- A type of values. -/
structure Arg (α : Type) where
  enc : α → SV
  dec : SV → Option α
  law : ∀ {v : SV} {a : α} {p : PV}, dec v = some a → pvS v = some p → pvS (enc a) = some p
structure Args (α : Type) where
  enc : α → List SV
  dec : List SV → Option α
  law : ∀ {vs : List SV} {a : α} {ps : List PV}, dec vs = some a → pvL vs = some ps → pvL (enc a) = some ps

/-- How results go over: nothing in them leads to blocks; their slices are kept where nobody writes; their slices become the caller's own. -/
inductive Kd where
  | pure
  | frz
  | own

structure Con where
  {α β : Type}
  args : Args α
  res : Arg β
  fn : α → Option β
  kd : Kd
  /-- is it called as a function whose results are the caller's own? -/
  ow : Bool

/-- .. a function that works on the blocks that are lent to it. -/
structure FpCon where
  ka : List AK
  ta : List SV
  tb : List SB
  ko : List AK
  tv : SV
  to : List SB
  fn : prodT ka → Option (prodT ko)

structure Ctx where
  lp : Option Nat
  con : FuncId → List Con
  fpc : FuncId → List FpCon
  code : FuncId → Option XFunc
  rk : List (Nat × List PT)

/-! ### the machine -/

inductive XRS where
  | loc (r : SRes)
  | shr (v : SV) (s : List SB) (z : List Nat)

def SV.hasPtr : SV → Bool
  | .own .. | .pre .. | .part .. | .pa .. | .pb .. | .bp .. | .mp .. => true
  | _ => false
def anyPtr : List SV → Bool
  | [] => false
  | x :: xs => x.hasPtr || anyPtr xs

mutual
/-- Blocks that are written: what was known of their rows is gone. -/
def dgV (ts : List Nat) : SV → SV
  | .pa t r i a off => bif has ts t then .pb t i off else .pa t r i a off
  | .agg cs => .agg (dgL ts cs)
  | .tup cs => .tup (dgL ts cs)
  | .rptr cs off => .rptr (dgL ts cs) off
  | .clo f a b => .clo f (dgL ts a) (dgL ts b)
  | v => v
def dgL (ts : List Nat) : List SV → List SV
  | [] => []
  | x :: xs => dgV ts x :: dgL ts xs
end
def dgE (ts : List Nat) : SE → SE
  | [] => []
  | (t, v) :: r => (t, dgV ts v) :: dgE ts r
def dgB (ts : List Nat) : SB → SB
  | .box cs => .box (dgL ts cs)
  | b => b
def dgS (ts : List Nat) : List SB → List SB
  | [] => []
  | b :: r => dgB ts b :: dgS ts r
def setB : List SB → Nat → SB → List SB
  | [], _, _ => []
  | _ :: r, 0, b => b :: r
  | x :: r, n + 1, b => x :: setB r n b
def applyS : List (Nat × SB) → List SB → List SB
  | [], s => s
  | (t, b) :: r, s => applyS r (setB s t b)
def wrTk : List (Nat × SB) → List Nat
  | [] => []
  | (t, _) :: r => t :: wrTk r
def putD (d : Option Nat) (v : SV) (e : SE) : SE :=
  match d with
  | some t => (t, v) :: e
  | none => e
def apS : List SB → List SB → List SB
  | [], l => l
  | b :: r, l => b :: apS r l

def SRes.next (d : Option Nat) (st : SSt) (r : SRes) : SSt :=
  match r.wr with
  | [] => { env := putD d r.v st.env, sto := apS st.sto r.news, fz := r.fr ++ st.fz, kn := st.kn }
  | w => { env := putD d r.v (dgE (wrTk w) st.env), sto := apS (dgS (wrTk w) (applyS w st.sto)) r.news, fz := r.fr ++ st.fz, kn := st.kn }
def SRes.ok (z : List Nat) (r : SRes) : Bool := (wrTk r.wr).all fun t => !has z t
def SRes.tr (nx : Nat) (r : SRes) : Tr :=
  ⟨r.rd ++ r.fr, wrTk r.wr, !r.news.isEmpty, false, (r.rd ++ r.fr).all (Nat.blt · nx) && (wrTk r.wr).all (Nat.blt · nx), nx, nx + r.news.length⟩
def trShr : Tr := ⟨[], [], true, true, true, 0, 0⟩

/-- Do all blocks that were there keep their lengths? -/
def sameLen {R : Type} : List SB → List SB → Ans R → Ans R
  | [], _, k => k
  | x :: xs, y :: ys, k => match x with
    | .arr r l => match y with
      | .arr q m => bif rSame r q then condA (m.length == l.length) (sameLen xs ys k) failA else failA
      | .dead => sameLen xs ys k
      | _ => failA
    | .dead => match y with
      | .dead => sameLen xs ys k
      | _ => failA
    | _ => sameLen xs ys k
  | _, _, _ => failA

abbrev Inl := FuncId → List SV → List SB → List Nat → ∀ R : Type, (SV → List SB → List Nat → Ans R) → Ans R

section
variable {R : Type}

/-- No contract is given. -/
def noCon (_ : FuncId) (_ : List SV) : Ans R := failA
def noFp (_ : FuncId) (_ : List SV) (_ : List SB) : Ans R := failA

def conS (f : FuncId) (m : Bool) (s : List SB) (tk : List Nat) (vs : List SV) (k : XRS → Ans R) : List Con → Ans R
  | [] => noCon f vs
  | c :: r => match c.args.dec vs with
    | some a => bif m == c.ow then bindA (c.fn a) fun b => match c.kd with
        | .pure => k (.loc { v := c.res.enc b, rd := tk })
        | .frz => k (.loc { v := c.res.enc b, rd := tk, fr := tk })
        | .own => k (.loc { v := (ownOf s.length (c.res.enc b)).1, news := (ownOf s.length (c.res.enc b)).2, rd := tk }) else conS f m s tk vs k r
    | none => conS f m s tk vs k r

mutual
def backV (g : Nat → Nat) : SV → SV
  | .agg cs => .agg (backL g cs)
  | .tup cs => .tup (backL g cs)
  | .own t ex => .own (g t) ex
  | .pre t len cap ex => .pre (g t) len cap ex
  | .part t off len cap ex => .part (g t) off len cap ex
  | .pa t _ i _ off => .pb (g t) i off
  | .pb t i off => .pb (g t) i off
  | .bp t n off => .bp (g t) n off
  | .rptr cs off => .rptr (backL g cs) off
  | .mp t => .mp (g t)
  | .clo f a b => .clo f (backL g a) (backL g b)
  | v => v
def backL (g : Nat → Nat) : List SV → List SV
  | [] => []
  | x :: xs => backV g x :: backL g xs
end
def backB (g : Nat → Nat) : SB → SB
  | .box cs => .box (backL g cs)
  | b => b
def backW (g : Nat → Nat) : List Nat → List SB → List (Nat × SB)
  | t :: r, b :: s => (t, backB g b) :: backW g r s
  | _, _ => []
def keepS (k : Nat) (v : SV) (s : List SB) : Bool := (tkV noBx v ++ s.flatMap blkTkS).all fun t => Nat.blt t k
def nodupN : List Nat → Bool
  | [] => true
  | t :: r => !has r t && nodupN r

def fpS (f : FuncId) (n : Nat) (tk : List Nat) (vs : List SV) (s0 : List SB) (k : XRS → Ans R) : List FpCon → Ans R
  | [] => noFp f vs s0
  | c :: r => bif likeL c.ta vs && likeS c.tb s0 then (match prodOf c.ka (atsL vs ++ atsS s0) with
      | some a => bindA (c.fn a) fun b =>
          k (.loc { v := backV (backTok tk n) (putV c.tv (atsOf c.ko b)).1, wr := backW (backTok tk n) tk (putS c.to (putV c.tv (atsOf c.ko b)).2).1 })
      | none => fpS f n tk vs s0 k r) else fpS f n tk vs s0 k r

def callS (cx : Ctx) (inl : Inl) (e : SE) (s : List SB) (z : List Nat) (op : XOp) (k : XRS → Ans R) : Ans R :=
  match op with
  | .call m f args => match m with
    | .pur => match exVL s (exBxS s deep) (opdsS e args) with
      | some vs => conS f false s (tkVL (tkBx s deep) (opdsS e args)) vs k (cx.con f)
      | none => failA
    | .own => match exVL s (exBxS s deep) (opdsS e args) with
      | some vs => conS f true s (tkVL (tkBx s deep) (opdsS e args)) vs k (cx.con f)
      | none => failA
    | .shr => inl f (opdsS e args) s z R fun v s' z' => k (.shr v s' z')
    | .fp => match exVL s (exBxS s deep) (opdsS e args) with
      | none => failA
      | some _ => let tk := dedup (tkVL (tkBx s deep) (opdsS e args))
        bif tk.all (fun t => !has z t) then (match renVL tk (opdsS e args), renS s tk tk with
          | some vs, some s0 => fpS f s.length tk vs s0 k (cx.fpc f)
          | _, _ => failA) else failA
  | .callv x args => match opdS e x with
    | .clo f a b => bif anyPtr (opdsS e args ++ b) then inl f (a ++ opdsS e args ++ b) s z R fun v s' z' => k (.shr v s' z')
      else match exVL s (exBxS s deep) (a ++ opdsS e args ++ b) with
      | some vs => conS f false s (tkVL (tkBx s deep) (a ++ opdsS e args ++ b)) vs k (cx.con f)
      | none => failA
    | _ => failA
  | op => evS e s z op fun r => k (.loc r)

def goS (d : Option Nat) (st : SSt) (tr : List Tr) (k : SSt → List Tr → Ans R) (x : XRS) : Ans R :=
  match x with
  | .loc r => bif r.ok st.fz then seqV r.v fun v => k ({ r with v }.next d st) (r.tr st.sto.length :: tr) else failA
  | .shr v s z => seqV v fun v => sameLen st.sto s (bif st.fz.all (has z) then k { env := putD d v (dgE (upTo st.sto.length) st.env), sto := s, fz := z, kn := st.kn } (trShr :: tr) else failA)

def evOpsS (cx : Ctx) (inl : Inl) : List XOper → SSt → List Tr → (SSt → List Tr → Ans R) → Ans R
  | [], st, tr, k => k st tr
  | o :: r, st, tr, k =>
    let run := fun st : SSt => match o.op with
      | .pick (.t c) a b => match lkS c st.env with
        | .bool x => condA x (goS o.dst { st with env := setS c (.bool true) st.env } tr (evOpsS cx inl r · · k) (.loc { v := opdS st.env a }))
            (goS o.dst { st with env := setS c (.bool false) st.env } tr (evOpsS cx inl r · · k) (.loc { v := opdS st.env b }))
        | _ => failA
      | op => callS cx inl st.env st.sto st.fz op (goS o.dst st tr (evOpsS cx inl r · · k))
    let skip := fun st : SSt => evOpsS cx inl r { st with env := putD o.dst .nul st.env } (Tr.idle :: tr) k
    match o.guard with
    | none => run st
    | some (s, want) => match lkS s st.env with
      | .bool x => bif want then condA x (run { st with env := setS s (.bool true) st.env }) (skip { st with env := setS s (.bool false) st.env })
          else condA x (skip { st with env := setS s (.bool true) st.env }) (run { st with env := setS s (.bool false) st.env })
      | .nul => skip st
      | _ => failA

def keepK (e : SE) : List Nat → (SE → Ans R) → Ans R
  | [], k => k []
  | s :: r, k => seqV (lkS s e) fun v => keepK e r fun e' => k ((s, v) :: e')

noncomputable def evC' (cx : Ctx) (inl : Inl) : (c : XCode) → (R : Type) → SSt → (XExit → SSt → Ans R) → Ans R
  | .skip, _, st, k => k .normal st
  | .region d ops keep, _, st, k => evOpsS cx inl ops st [] fun st' tr =>
      let fin := keepK st'.env keep fun e => k .normal { st' with env := e }
      match d with
      | none => fin
      | some bf => match orderOk 0 (tr.reverse.zip bf) with
        | true => fin
        | false => failA
  | .seq a b, R, st, k => evC' cx inl a R st fun e st' => match e with
      | .normal => evC' cx inl b R st' k
      | e => k e st'
  | .cond c a b, R, st, k => match opdS st.env c with
      | .bool x => condA x (evC' cx inl a R st k) (evC' cx inl b R st k)
      | _ => failA
  | .block id b, R, st, k => evC' cx inl b R st fun e st' => match e with
      | .exit j => bif Nat.beq j id then k .normal st' else k (.exit j) st'
      | e => k e st'
  | .loop live b, R, st, k => match normS cx.rk live st with
      | none => failA
      | some st1 => ksK (ksOf (atsSt st1)) fun ks => match prodOf ks (atsSt st1) with
        | none => failA
        | some y0 => fun ρ w => loopW cx.lp (fun y : prodT ks => evC' cx inl b (Step (prodT ks) ρ) (putSt st1 (atsOf ks y)) (fun e st2 => match e with
            | .normal => match normS cx.rk live st2 with
              | some st3 => bif likeSt st1 st3 then (match prodOf ks (atsSt st3) with
                | some y' => leafA (.next y')
                | none => failA) else failA
              | none => failA
            | e => fun ρ' w' => k e st2 ρ' fun r => w' (.done (w r))) (Step (prodT ks) ρ) fun z => z) y0
  | .exit id, _, st, k => k (.exit id) st
  | .ret, _, st, k => k .ret st

def resOfS (st : SSt) : RV → Option SV
  | .tmp t => some (lkS t st.env)
  | .cell t agg => match lkS t st.env with
    | .bp t _ off => match nth st.sto t with
      | some (.box cs) => partS agg off cs
      | _ => none
    | .rptr cs off => partS agg off cs
    | _ => none
def resAllS (st : SSt) : List RV → Option (List SV)
  | [] => some []
  | r :: rs => match resOfS st r, resAllS st rs with
    | some v, some vs => some (v :: vs)
    | _, _ => none
def results1S : List SV → SV
  | [v] => v
  | vs => .tup vs
def envOfS : Nat → List SV → SE
  | _, [] => []
  | i, v :: r => (i, v) :: envOfS (i + 1) r

noncomputable def evFun (cx : Ctx) (inl : Inl) (x : XFunc) (R : Type) (args : List SV) (s : List SB) (z : List Nat) (k : SV → List SB → List Nat → Ans R) : Ans R :=
  bif Nat.beq args.length x.nargs then evC' cx inl x.code R { env := envOfS 0 args, sto := s, fz := z, kn := s.length } fun e st => match e with
    | .exit _ => failA
    | _ => match resAllS st x.res with
      | some vs => k (results1S vs) st.sto st.fz
      | none => failA
  else failA

noncomputable def inlN (cx : Ctx) : Nat → Inl
  | 0 => fun _ _ _ _ _ _ => failA
  | n + 1 => fun f args s z R k => match cx.code f with
    | some x => evFun cx (inlN cx n) x R args s z k
    | none => failA

def leafS (kd : Kd) {β : Type} (res : Arg β) (v : SV) (s : List SB) (z : List Nat) : Ans β :=
  match kd with
  | .pure => bif norefS v then ansO (res.dec v) leafA else failA
  | .frz => bif norefS v then failA else ansO (imV s v) fun u => ansO (res.dec u) leafA
  | .own => ansO (imOV s z [] v) fun u => ansO (res.dec u.1) leafA

/-- A function without blocks. -/
noncomputable def evTop (cx : Ctx) (x : XFunc) {α β : Type} (args : Args α) (res : Arg β) (kd : Kd) (a : α) : Option β :=
  evFun cx (inlN cx 8) x β (args.enc a) [] [] (leafS kd res) β fun b => b

def sureBs : List SB → Bool
  | [] => true
  | b :: r => blkSure b && sureBs r
/-- Do all blocks keep their kinds and lengths? -/
def firmS {R : Type} : List SB → List SB → Ans R → Ans R
  | [], [], k => k
  | x :: xs, y :: ys, k => match x with
    | .arr r l => match y with
      | .arr q m => bif rSame r q then condA (m.length == l.length) (firmS xs ys k) failA else failA
      | _ => failA
    | .dead => match y with
      | .dead => firmS xs ys k
      | _ => failA
    | .box _ => match y with
      | .box _ => firmS xs ys k
      | _ => failA
    | .set _ => match y with
      | .set _ => firmS xs ys k
      | _ => failA
  | _, _, _ => failA

/-- A function that works on blocks. -/
noncomputable def evFp (wd : Bool) (cx : Ctx) (x : XFunc) (ka : List AK) (ta : List SV) (tb : List SB) (ko : List AK) (tv : SV) (to : List SB) (a : prodT ka) : Option (prodT ko) :=
  evFun cx (inlN cx 8) x (prodT ko) (putL ta (atsOf ka a)).1 (putS tb (putL ta (atsOf ka a)).2).1 [] (fun v s z => match z with
    | [] => let u := bif wd then wideV s v else v
      let s1 := s.take tb.length
      bif likeV tv u && likeS to s1 && keepS tb.length u s1 && u.sure && sureBs s1 then firmS (putS tb (putL ta (atsOf ka a)).2).1 s1 (ansO (prodOf ko (atsV u ++ atsS s1)) leafA) else failA
    | _ => failA) (prodT ko) fun b => b
end
end Go.Vm

/- The types of arguments and results, as cells. -/
namespace Go.Vm

theorem castL_some {r q : List PT} {l : List (RT r)} {m : List (RT q)} (h : castL r q l = some m) : ∃ e : r = q, m = e ▸ l := by
  unfold castL at h
  split at h
  · rename_i hs
    injection h with h
    exact ⟨rSame_eq hs, h.symm⟩
  · cases h

theorem castL_pv {r q : List PT} {l : List (RT r)} {m : List (RT q)} (h : castL r q l = some m) : r = q ∧ m.map (RT.pv q) = l.map (RT.pv r) ∧ m.length = l.length := by
  obtain ⟨rfl, rfl⟩ := castL_some h
  exact ⟨rfl, rfl, rfl⟩

theorem pvL_cons {x : SV} {xs : List SV} {ps : List PV} : pvL (x :: xs) = some ps ↔ ∃ p qs, ps = p :: qs ∧ pvS x = some p ∧ pvL xs = some qs := by
  simp only [pvL]
  constructor
  · intro h
    split at h
    · rename_i y ys h1 h2
      injection h with h
      exact ⟨y, ys, h.symm, h1, h2⟩
    · cases h
  · rintro ⟨p, qs, rfl, h1, h2⟩
    rw [h1, h2]

theorem pvL_append : ∀ {xs ys : List SV} {p q : List PV}, pvL xs = some p → pvL ys = some q → pvL (xs ++ ys) = some (p ++ q)
  | [], ys, p, q, h, k => by simp only [pvL, Option.some.injEq] at h; subst h; exact k
  | x :: xs, ys, p, q, h, k => by
    obtain ⟨a, as, rfl, h1, h2⟩ := pvL_cons.1 h
    exact pvL_cons.2 ⟨a, as ++ q, rfl, h1, pvL_append h2 k⟩

theorem PT.of_some : ∀ {p : PT} {v : SV} {a : p.T} , p.of v = some a → v = p.sv a
  | .i k, .int l n, a, h => by
    simp only [PT.of] at h
    cases hk : kindEq l k with
    | false => rw [hk] at h; cases h
    | true =>
      rw [hk] at h
      injection h with h
      subst h
      rw [kindEq_iff.1 hk]; rfl
  | .b, .bool x, a, h => by injection h with h; subst h; rfl
  | .i k, .bool _, a, h => by cases h
  | .b, .int _ _, a, h => by cases h
  | .i _, .junk, a, h | .i _, .undef, a, h | .i _, .nul, a, h | .i _, .nilf, a, h | .i _, .str _, a, h | .i _, .agg _, a, h | .i _, .tup _, a, h | .i _, .sl _ _, a, h | .i _, .nil _ _, a, h | .i _, .own _ _, a, h | .i _, .pre _ _ _ _, a, h | .i _, .part _ _ _ _ _, a, h | .i _, .pa _ _ _ _ _, a, h | .i _, .pb _ _ _, a, h | .i _, .bp _ _ _, a, h | .i _, .rptr _ _, a, h | .i _, .clo _ _ _, a, h | .i _, .mp _, a, h => by cases h
  | .b, .junk, a, h | .b, .undef, a, h | .b, .nul, a, h | .b, .nilf, a, h | .b, .str _, a, h | .b, .agg _, a, h | .b, .tup _, a, h | .b, .sl _ _, a, h | .b, .nil _ _, a, h | .b, .own _ _, a, h | .b, .pre _ _ _ _, a, h | .b, .part _ _ _ _ _, a, h | .b, .pa _ _ _ _ _, a, h | .b, .pb _ _ _, a, h | .b, .bp _ _ _, a, h | .b, .rptr _ _, a, h | .b, .clo _ _ _, a, h | .b, .mp _, a, h => by cases h

theorem RT.of_some : ∀ {r : List PT} {vs : List SV} {a : RT r}, RT.of r vs = some a → vs = RT.sv r a
  | [], [], a, _ => rfl
  | [p], [v], a, h => by
    have := PT.of_some (p := p) h
    rw [this]; rfl
  | p :: q :: r, v :: vs, a, h => by
    simp only [RT.of] at h
    split at h
    · rename_i x y h1 h2
      injection h with h
      subst h
      rw [PT.of_some h1, RT.of_some h2]; rfl
    · cases h
  | [], _ :: _, a, h => by simp [RT.of] at h
  | [p], [], a, h => by simp [RT.of] at h
  | [p], _ :: _ :: _, a, h => by simp [RT.of] at h
  | _ :: _ :: _, [], a, h => by simp [RT.of] at h

theorem PT.pv_sv (p : PT) (a : p.T) : pvS (p.sv a) = some (p.pv a) := by cases p <;> rfl
theorem RT.pv_sv : ∀ (r : List PT) (a : RT r), pvL (RT.sv r a) = some (RT.pv r a)
  | [], _ => rfl
  | [p], a => pvL_cons.2 ⟨_, _, rfl, PT.pv_sv p a, rfl⟩
  | p :: q :: r, a => pvL_cons.2 ⟨_, _, rfl, PT.pv_sv p a.1, RT.pv_sv (q :: r) a.2⟩
theorem RT.pv_len : ∀ (r : List PT) (a : RT r), (RT.pv r a).length = r.length
  | [], _ => rfl
  | [p], a => rfl
  | p :: q :: r, a => by simp [RT.pv, RT.pv_len (q :: r) a.2]
theorem RT.sv_len : ∀ (r : List PT) (a : RT r), (RT.sv r a).length = r.length
  | [], _ => rfl
  | [p], a => rfl
  | p :: q :: r, a => by simp [RT.sv, RT.sv_len (q :: r) a.2]

theorem pvL_split : ∀ (n : Nat) {vs : List SV} {ps : List PV}, pvL vs = some ps → ∃ p q, ps = p ++ q ∧ pvL (vs.take n) = some p ∧ pvL (vs.drop n) = some q
  | 0, vs, ps, h => ⟨[], ps, rfl, by simp [pvL], by simpa using h⟩
  | n + 1, [], ps, h => ⟨[], ps, rfl, by simp [pvL], by simpa using h⟩
  | n + 1, v :: vs, ps, h => by
    obtain ⟨p, qs, rfl, h1, h2⟩ := pvL_cons.1 h
    obtain ⟨a, b, rfl, h3, h4⟩ := pvL_split n h2
    exact ⟨p :: a, b, rfl, by rw [List.take_succ_cons]; exact pvL_cons.2 ⟨p, a, rfl, h1, h3⟩, by simpa using h4⟩

/-! ### cells -/

def Cod.int (k : IntKind) : Cod Int where
  enc n := [.int k n]
  dec vs := match vs with
    | .int l n :: r => bif kindEq l k then some (n, r) else none
    | _ => none
  law := fun {vs a rest ps} h hp => by
    split at h
    · rename_i l n r
      cases hk : kindEq l k with
      | false => rw [hk] at h; cases h
      | true =>
        rw [hk] at h
        simp only [cond_true, Option.some.injEq, Prod.mk.injEq] at h
        obtain ⟨rfl, rfl⟩ := h
        obtain ⟨p, qs, rfl, h1, h2⟩ := pvL_cons.1 hp
        rw [kindEq_iff.1 hk] at h1
        exact ⟨[p], qs, rfl, pvL_cons.2 ⟨p, [], rfl, h1, rfl⟩, h2⟩
    · cases h

def Cod.bool : Cod Bool where
  enc n := [.bool n]
  dec vs := match vs with
    | .bool n :: r => some (n, r)
    | _ => none
  law := fun {vs a rest ps} h hp => by
    split at h
    · simp only [Option.some.injEq, Prod.mk.injEq] at h
      obtain ⟨rfl, rfl⟩ := h
      obtain ⟨p, qs, rfl, h1, h2⟩ := pvL_cons.1 hp
      exact ⟨[p], qs, rfl, pvL_cons.2 ⟨p, [], rfl, h1, rfl⟩, h2⟩
    · cases h

def decSl (r : List PT) : SV → Option (List (RT r))
  | .sl q l => castL q r l
  | .nil e c => bif Nat.beq e r.length && !c then some [] else none
  | _ => none

theorem decSl_law {r : List PT} {v : SV} {l : List (RT r)} {p : PV} (h : decSl r v = some l) (hp : pvS v = some p) : pvS (.sl r l) = some p := by
  cases v with
  | sl q m =>
    obtain ⟨rfl, h2, _⟩ := castL_pv h
    rw [← hp]
    simp only [pvS, h2]
  | nil e c =>
    simp only [decSl] at h
    cases hc : (Nat.beq e r.length && !c) with
    | false => rw [hc] at h; cases h
    | true =>
      rw [hc] at h
      injection h with h
      subst h
      simp only [Bool.and_eq_true, Nat.beq_eq, Bool.not_eq_true'] at hc
      obtain ⟨rfl, rfl⟩ := hc
      rw [← hp]; rfl
  | _ => cases h

def Cod.sl (r : List PT) : Cod (List (RT r)) where
  enc l := [.sl r l]
  dec vs := match vs with
    | v :: rest => match decSl r v with
      | some l => some (l, rest)
      | none => none
    | [] => none
  law := fun {vs a rest ps} h hp => by
    split at h
    · split at h
      · rename_i v r' x l hl
        simp only [Option.some.injEq, Prod.mk.injEq] at h
        obtain ⟨rfl, rfl⟩ := h
        obtain ⟨p, qs, rfl, h1, h2⟩ := pvL_cons.1 hp
        exact ⟨[p], qs, rfl, pvL_cons.2 ⟨p, [], rfl, decSl_law hl h1, rfl⟩, h2⟩
      · cases h
    · cases h

def Cod.row (r : List PT) : Cod (RT r) where
  enc := RT.sv r
  dec vs := match RT.of r (vs.take r.length) with
    | some a => some (a, vs.drop r.length)
    | none => none
  law := fun {vs a rest ps} h hp => by
    split at h
    · rename_i x hx
      simp only [Option.some.injEq, Prod.mk.injEq] at h
      obtain ⟨rfl, rfl⟩ := h
      obtain ⟨p, q, rfl, h1, h2⟩ := pvL_split r.length hp
      rw [RT.of_some hx] at h1
      exact ⟨p, q, rfl, h1, h2⟩
    · cases h

def Cod.prod {α β : Type} (A : Cod α) (B : Cod β) : Cod (α × β) where
  enc p := A.enc p.1 ++ B.enc p.2
  dec vs := match A.dec vs with
    | some p => match B.dec p.2 with
      | some q => some ((p.1, q.1), q.2)
      | none => none
    | none => none
  law := fun {vs a rest ps} h hp => by
    split at h
    · rename_i p hA
      split at h
      · rename_i q hB
        simp only [Option.some.injEq, Prod.mk.injEq] at h
        obtain ⟨rfl, rfl⟩ := h
        obtain ⟨p1, p2, rfl, h1, h2⟩ := A.law (a := p.1) (rest := p.2) hA hp
        obtain ⟨q1, q2, rfl, h3, h4⟩ := B.law (a := q.1) (rest := q.2) hB h2
        exact ⟨p1 ++ q1, q2, by simp, pvL_append h1 h3, h4⟩
      · cases h
    · cases h

def Cod.iso {α β : Type} (A : Cod α) (f : α → β) (g : β → α) (h : ∀ a, g (f a) = a) : Cod β where
  enc b := A.enc (g b)
  dec vs := match A.dec vs with
    | some p => some (f p.1, p.2)
    | none => none
  law := fun {vs a rest ps} hd hp => by
    split at hd
    · rename_i p hA
      simp only [Option.some.injEq, Prod.mk.injEq] at hd
      obtain ⟨rfl, rfl⟩ := hd
      rw [h]
      exact A.law hA hp
    · cases hd

/-! ### values -/

def Arg.int (k : IntKind) : Arg Int where
  enc n := .int k n
  dec v := match v with
    | .int l n => bif kindEq l k then some n else none
    | _ => none
  law := fun {v a p} h hp => by
    split at h
    · rename_i l n
      cases hk : kindEq l k with
      | false => rw [hk] at h; cases h
      | true => rw [hk] at h; injection h with h; subst h; rw [kindEq_iff.1 hk] at hp; exact hp
    · cases h

def Arg.bool : Arg Bool where
  enc n := .bool n
  dec v := match v with
    | .bool n => some n
    | _ => none
  law := fun {v a p} h hp => by
    split at h
    · injection h with h; subst h; exact hp
    · cases h

def Arg.sl (r : List PT) : Arg (List (RT r)) where
  enc l := .sl r l
  dec := decSl r
  law := decSl_law

def Arg.agg {α : Type} (A : Cod α) : Arg α where
  enc a := .agg (A.enc a)
  dec v := match v with
    | .agg cs => match A.dec cs with
      | some p => match p.2 with
        | [] => some p.1
        | _ => none
      | none => none
    | _ => none
  law := fun {v a p} h hp => by
    split at h
    · rename_i cs
      split at h
      · rename_i q hA
        obtain ⟨x, rest⟩ := q
        dsimp only at h
        cases rest with
        | cons _ _ => cases h
        | nil =>
          injection h with h; subst h
          simp only [pvS] at hp
          cases hc : pvL cs with
          | none => rw [hc] at hp; cases hp
          | some l =>
            rw [hc] at hp
            injection hp with hp; subst hp
            obtain ⟨p1, p2, rfl, h1, h2⟩ := A.law hA hc
            simp only [pvL, Option.some.injEq] at h2
            subst h2
            simp only [pvS, h1, List.append_nil]
      · cases h
    · cases h

def Arg.ref {α : Type} (A : Cod α) : Arg α where
  enc a := .rptr (A.enc a) 0
  dec v := match v with
    | .rptr cs 0 => match A.dec cs with
      | some p => match p.2 with
        | [] => some p.1
        | _ => none
      | none => none
    | _ => none
  law := fun {v a p} h hp => by
    split at h
    · rename_i cs
      split at h
      · rename_i q hA
        obtain ⟨x, rest⟩ := q
        dsimp only at h
        cases rest with
        | cons _ _ => cases h
        | nil =>
          injection h with h; subst h
          simp only [pvS] at hp
          cases hc : pvL cs with
          | none => rw [hc] at hp; cases hp
          | some l =>
            rw [hc] at hp
            injection hp with hp; subst hp
            obtain ⟨p1, p2, rfl, h1, h2⟩ := A.law hA hc
            simp only [pvL, Option.some.injEq] at h2
            subst h2
            simp only [pvS, h1, List.append_nil]
      · cases h
    · cases h

def Args.nil : Args Unit where
  enc _ := []
  dec vs := match vs with
    | [] => some ()
    | _ => none
  law := fun {vs a ps} h hp => by
    split at h
    · exact hp
    · cases h
def Args.one {α : Type} (A : Arg α) : Args α where
  enc a := [A.enc a]
  dec vs := match vs with
    | [v] => A.dec v
    | _ => none
  law := fun {vs a ps} h hp => by
    split at h
    · obtain ⟨p, qs, rfl, h1, h2⟩ := pvL_cons.1 hp
      exact pvL_cons.2 ⟨p, qs, rfl, A.law h h1, h2⟩
    · cases h
def Args.cons {α β : Type} (A : Arg α) (B : Args β) : Args (α × β) where
  enc a := A.enc a.1 :: B.enc a.2
  dec vs := match vs with
    | v :: r => match A.dec v with
      | some x => match B.dec r with
        | some y => some (x, y)
        | none => none
      | none => none
    | [] => none
  law := fun {vs a ps} h hp => by
    split at h
    · split at h
      · rename_i x hx
        split at h
        · rename_i y hy
          injection h with h; subst h
          obtain ⟨p, qs, rfl, h1, h2⟩ := pvL_cons.1 hp
          exact pvL_cons.2 ⟨p, qs, rfl, A.law hx h1, B.law hy h2⟩
        · cases h
      · cases h
    · cases h

def Arg.tup {α : Type} (A : Args α) : Arg α where
  enc a := .tup (A.enc a)
  dec v := match v with
    | .tup vs => A.dec vs
    | _ => none
  law := fun {v a p} h hp => by
    split at h
    · rename_i vs
      simp only [pvS] at hp
      cases hc : pvL vs with
      | none => rw [hc] at hp; cases hp
      | some l =>
        rw [hc] at hp
        injection hp with hp; subst hp
        simp only [pvS, A.law h hc]
    · cases h

/-- A function value with what it has captured. -/
def Arg.clo {α : Type} (f : FuncId) (A : Args α) : Arg α where
  enc a := .clo f [] (A.enc a)
  dec v := match v with
    | .clo g [] b => bif Nat.beq g f then A.dec b else none
    | _ => none
  law := fun {v a p} h hp => by
    split at h
    · rename_i g b
      cases hg : Nat.beq g f with
      | false => rw [hg] at h; cases h
      | true =>
        rw [hg] at h
        have := Nat.eq_of_beq_eq_true hg
        subst this
        simp only [pvS, pvL] at hp ⊢
        cases hc : pvL b with
        | none => rw [hc] at hp; cases hp
        | some l =>
          rw [hc] at hp
          rw [A.law h hc]
          exact hp
    · cases h

/-! ### functions that are known without their code -/

def Con.clone (r : List PT) : Con := ⟨.one (.sl r), .sl r, cloneO, .own, false⟩
def add64O (a b c : Int) : Option (Int × Int) := bif decide (0 ≤ a) && decide (0 ≤ b) && decide (0 ≤ c) && decide (c ≤ 1) then some ((a + b + c) % 18446744073709551616, (a + b + c) / 18446744073709551616) else none
def sub64O (a b c : Int) : Option (Int × Int) := bif decide (0 ≤ a) && decide (0 ≤ b) && decide (b < 18446744073709551616) && decide (0 ≤ c) && decide (c ≤ 1) then some ((a - b - c) % 18446744073709551616, bif decide (a < b + c) then 1 else 0) else none
def Con.add64 : Con := ⟨.cons (.int .u64) (.cons (.int .u64) (.one (.int .u64))), .tup (.cons (.int .u64) (.one (.int .u64))), fun a => add64O a.1 a.2.1 a.2.2, .pure, false⟩
def Con.sub64 : Con := ⟨.cons (.int .u64) (.cons (.int .u64) (.one (.int .u64))), .tup (.cons (.int .u64) (.one (.int .u64))), fun a => sub64O a.1 a.2.1 a.2.2, .pure, false⟩

/-! ### the functions that a function calls -/

def conOf : List (Nat × Con) → FuncId → List Con
  | [], _ => []
  | (g, c) :: r, f => bif Nat.beq g f then c :: conOf r f else conOf r f
def fpcOf : List (Nat × FpCon) → FuncId → List FpCon
  | [], _ => []
  | (g, c) :: r, f => bif Nat.beq g f then c :: fpcOf r f else fpcOf r f
def codeOf : List (Nat × XFunc) → FuncId → Option XFunc
  | [], _ => none
  | (g, c) :: r, f => bif Nat.beq g f then some c else codeOf r f
def mkCx (lp : Option Nat) (c : List (Nat × Con)) (p : List (Nat × FpCon)) (x : List (Nat × XFunc)) (rk : List (Nat × List PT)) : Ctx := ⟨lp, conOf c, fpcOf p, codeOf x, rk⟩

end Go.Vm

/- What a typed value says of a value of the logical machine. -/
namespace Go.Vm

def OwnAt (s : List SB) (t e n : Nat) : Prop := (∃ r l, s[t]? = some (.arr r l) ∧ e = r.length ∧ n = l.length) ∨ s[t]? = some .dead
def EszAt (s : List SB) (t e : Nat) : Prop := (∃ r l, s[t]? = some (.arr r l) ∧ e = r.length) ∨ s[t]? = some .dead
def RowIs (s : List SB) (t : Nat) (r : List PT) (i : Int) (a : RT r) : Prop := (∃ l, s[t]? = some (.arr r l) ∧ geti l i = some a) ∨ s[t]? = some .dead
def InIs (s : List SB) (t : Nat) (i : Int) : Prop := (∃ r l, s[t]? = some (.arr r l) ∧ (geti l i).isSome = true) ∨ s[t]? = some .dead

mutual
def R (s : List SB) : SV → PV → Prop
  | .junk, _ => True
  | .undef, v => v = .undef
  | .nul, v => v = .nul
  | .nilf, v => v = .nilf
  | .int k n, v => v = .int k n
  | .bool b, v => v = .bool b
  | .str x, v => v = .str x
  | .agg cs, v => ∃ ps, v = .agg ps ∧ RL s cs ps
  | .tup cs, v => ∃ ps, v = .tup ps ∧ RL s cs ps
  | .sl r l, v => v = .sl r.length false (l.map (RT.pv r))
  | .nil e c, v => v = .sl e c []
  | .own t ex, v => ∃ e n, v = .own t e 0 n n ex ∧ OwnAt s t e n
  | .pre t len cap ex, v => ∃ e, v = .own t e 0 len cap ex ∧ EszAt s t e
  | .part t off len cap ex, v => ∃ e, v = .own t e off len cap ex ∧ EszAt s t e
  | .pa t r i a off, v => v = .ptr t r.length i.toNat off ∧ RowIs s t r i a
  | .pb t i off, v => ∃ e, v = .ptr t e i.toNat off ∧ InIs s t i
  | .bp t n off, v => v = .ptr t n 0 off
  | .rptr cs off, v => ∃ ps, v = .rptr ps off ∧ RL s cs ps
  | .clo f a b, v => ∃ pa pb, v = .clo f pa pb ∧ RL s a pa ∧ RL s b pb
  | .mp t, v => v = .mp t
def RL (s : List SB) : List SV → List PV → Prop
  | [], ps => ps = []
  | x :: xs, ps => ∃ p q, ps = p :: q ∧ R s x p ∧ RL s xs q
end

def keyL : List Int → PV
  | [a] => .int .i64 a
  | l => .agg (l.map (.int .i64))
def entL (k : List Int) : PV × PV := (keyL k, .bool true)

def RB (s : List SB) : SB → Blk → Prop
  | .arr r l, b => b = .arr r.length (l.map (RT.pv r))
  | .box cs, b => ∃ ps, b = .box ps ∧ RL s cs ps
  | .set l, b => b = .map (l.map entL)
  | .dead, b => b = .dead

structure RSto (s : List SB) (p : Sto) : Prop where
  len : p.length = s.length
  at_ : ∀ (t : Nat) (b : SB), s[t]? = some b → ∃ q, p[t]? = some q ∧ RB s b q

def REnv (s : List SB) : SE → Env → Prop
  | [], e => e = []
  | (t, v) :: r, e => ∃ p q, e = (t, p) :: q ∧ R s v p ∧ REnv s r q

structure RSt (st : SSt) (p : St) : Prop where
  env : REnv st.sto st.env p.env
  sto : RSto st.sto p.sto
  fz : p.fz = st.fz
  kn : p.kn = st.kn

/-! ### small things -/

theorem apS_eq : ∀ (s l : List SB), apS s l = s ++ l
  | [], _ => rfl
  | b :: r, l => by simp [apS, apS_eq r l]
theorem setB_eq : ∀ (s : List SB) (t : Nat) (b : SB), setB s t b = s.set t b
  | [], _, _ => by simp [setB]
  | _ :: _, 0, _ => rfl
  | x :: r, n + 1, b => by simp [setB, setB_eq r n b]

theorem RL.nil {s : List SB} : RL s [] [] := rfl
theorem RL.cons {s : List SB} {x : SV} {xs : List SV} {p : PV} {q : List PV} (h : R s x p) (k : RL s xs q) : RL s (x :: xs) (p :: q) := ⟨p, q, rfl, h, k⟩
theorem RL.cons_inv {s : List SB} {x : SV} {xs : List SV} {ps : List PV} (h : RL s (x :: xs) ps) : ∃ p q, ps = p :: q ∧ R s x p ∧ RL s xs q := h
theorem RL.length {s : List SB} : ∀ {xs : List SV} {ps : List PV}, RL s xs ps → ps.length = xs.length
  | [], ps, h => by rw [show ps = [] from h]; rfl
  | x :: xs, ps, h => by
    obtain ⟨p, q, rfl, _, h2⟩ := h.cons_inv
    simp [h2.length]
theorem RL.append {s : List SB} : ∀ {xs : List SV} {ps : List PV}, RL s xs ps → ∀ {ys : List SV} {qs : List PV}, RL s ys qs → RL s (xs ++ ys) (ps ++ qs)
  | [], ps, h, _, _, k => by rw [show ps = [] from h]; exact k
  | x :: xs, ps, h, _, _, k => by
    obtain ⟨p, q, rfl, h1, h2⟩ := h.cons_inv
    exact RL.cons h1 (h2.append k)
theorem RL.take {s : List SB} : ∀ {xs : List SV} {ps : List PV}, RL s xs ps → ∀ n, RL s (xs.take n) (ps.take n)
  | [], ps, h, n => by rw [show ps = [] from h]; simp; exact RL.nil
  | x :: xs, ps, h, 0 => by simp; exact RL.nil
  | x :: xs, ps, h, n + 1 => by
    obtain ⟨p, q, rfl, h1, h2⟩ := h.cons_inv
    exact RL.cons h1 (h2.take n)
theorem RL.drop {s : List SB} : ∀ {xs : List SV} {ps : List PV}, RL s xs ps → ∀ n, RL s (xs.drop n) (ps.drop n)
  | [], ps, h, n => by rw [show ps = [] from h]; simp; exact RL.nil
  | x :: xs, ps, h, 0 => h
  | x :: xs, ps, h, n + 1 => by
    obtain ⟨p, q, rfl, h1, h2⟩ := h.cons_inv
    exact h2.drop n
theorem RL.nth {s : List SB} : ∀ {xs : List SV} {ps : List PV}, RL s xs ps → ∀ {n : Nat} {v : SV}, Vm.nth xs n = some v → ∃ p, ps[n]? = some p ∧ R s v p
  | [], _, _, _, _, e => by cases e
  | x :: xs, ps, h, 0, v, e => by
    obtain ⟨p, q, rfl, h1, _⟩ := h.cons_inv
    injection e with e; subst e
    exact ⟨p, rfl, h1⟩
  | x :: xs, ps, h, n + 1, v, e => by
    obtain ⟨p, q, rfl, _, h2⟩ := h.cons_inv
    obtain ⟨p', h3, h4⟩ := h2.nth (n := n) e
    exact ⟨p', by simpa using h3, h4⟩

mutual
theorem ofPV_R (s : List SB) : ∀ v : PV, R s (ofPV v) v
  | .undef => rfl
  | .nul => rfl
  | .nilf => rfl
  | .int _ _ => rfl
  | .bool _ => rfl
  | .str _ => rfl
  | .agg cs => ⟨cs, rfl, ofPVL_R s cs⟩
  | .tup cs => ⟨cs, rfl, ofPVL_R s cs⟩
  | .sl e c rows => by
    cases rows with
    | nil => exact rfl
    | cons _ _ => trivial
  | .clo f a b => ⟨a, b, rfl, ofPVL_R s a, ofPVL_R s b⟩
  | .own .. => trivial
  | .ptr .. => trivial
  | .rptr .. => trivial
  | .mp _ => trivial
theorem ofPVL_R (s : List SB) : ∀ l : List PV, RL s (ofPVL l) l
  | [] => rfl
  | x :: xs => RL.cons (ofPV_R s x) (ofPVL_R s xs)
end

theorem REnv.lk {s : List SB} : ∀ {e : SE} {p : Env}, REnv s e p → ∀ t, R s (lkS t e) (Vm.lk t p)
  | [], p, h, t => by rw [show p = [] from h]; rfl
  | (u, v) :: r, p, h, t => by
    obtain ⟨q, qs, rfl, h1, h2⟩ := h
    simp only [lkS, Vm.lk]
    cases hb : Nat.beq u t with
    | true => exact h1
    | false => exact REnv.lk h2 t

theorem REnv.setS {s : List SB} : ∀ {e : SE} {p : Env}, REnv s e p → ∀ {t : Nat} {v : SV}, R s v (Vm.lk t p) → REnv s (Vm.setS t v e) p
  | [], p, h, t, v, _ => h
  | (u, x) :: r, p, h, t, v, hv => by
    obtain ⟨q, qs, rfl, h1, h2⟩ := h
    simp only [Vm.setS]
    simp only [Vm.lk] at hv
    cases hb : Nat.beq u t with
    | true => rw [hb] at hv; exact ⟨q, qs, rfl, hv, h2⟩
    | false => rw [hb] at hv; exact ⟨q, qs, rfl, h1, REnv.setS h2 hv⟩

theorem opdS_R {s : List SB} {e : SE} {p : Env} (h : REnv s e p) : ∀ x : Opd, R s (opdS e x) (x.ev p)
  | .t n => h.lk n
  | .c v => ofPV_R s v
theorem opdsS_R {s : List SB} {e : SE} {p : Env} (h : REnv s e p) : ∀ l : List Opd, RL s (opdsS e l) (evs p l)
  | [] => rfl
  | x :: xs => RL.cons (opdS_R h x) (opdsS_R h xs)

/-! ### what stays -/

/-- From one store to a later one: blocks keep their kinds and lengths, or die; what is not bad stays as it is. -/
def Fr (bad : List Nat) (s s' : List SB) : Prop := ∀ (t : Nat) (b : SB), s[t]? = some b → match b with
  | .arr r l => (∃ l', s'[t]? = some (.arr r l') ∧ l'.length = l.length ∧ (has bad t = false → l' = l)) ∨ s'[t]? = some .dead
  | .dead => s'[t]? = some .dead
  | _ => True

theorem Fr.refl (bad : List Nat) (s : List SB) : Fr bad s s := fun t b h => by
  cases b with
  | arr r l => exact .inl ⟨l, h, rfl, fun _ => rfl⟩
  | dead => exact h
  | _ => trivial

theorem Fr.app (bad : List Nat) (s l : List SB) : Fr bad s (s ++ l) := fun t b h => by
  have h' : (s ++ l)[t]? = some b := by
    have := (List.getElem?_eq_some_iff.1 h).1
    rw [List.getElem?_append_left this]; exact h
  cases b with
  | arr r l => exact .inl ⟨l, h', rfl, fun _ => rfl⟩
  | dead => exact h'
  | _ => trivial

theorem Fr.trans {bad : List Nat} {a b c : List SB} (h : Fr bad a b) (k : Fr bad b c) : Fr bad a c := fun t x hx => by
  have h1 := h t x hx
  cases x with
  | arr r l =>
    rcases h1 with ⟨l', h2, h3, h4⟩ | h2
    · have k1 := k t _ h2
      rcases k1 with ⟨l2, k2, k3, k4⟩ | k2
      · exact .inl ⟨l2, k2, k3.trans h3, fun hb => (k4 hb).trans (h4 hb)⟩
      · exact .inr k2
    · exact .inr (k t _ h2)
  | dead => exact k t _ h1
  | _ => trivial

theorem geti_isSome {α : Type} {l m : List α} {i : Int} (h : (geti l i).isSome = true) (hl : m.length = l.length) : (geti m i).isSome = true := by
  cases i with
  | ofNat n =>
    simp only [geti] at h ⊢
    rw [Option.isSome_iff_exists] at h
    obtain ⟨a, ha⟩ := h
    have := (List.getElem?_eq_some_iff.1 ha).1
    rw [List.getElem?_eq_getElem (by omega)]; rfl
  | negSucc n => simp [geti] at h

mutual
theorem R.fr {bad : List Nat} {s s' : List SB} (hf : Fr bad s s') : ∀ {v : SV} {p : PV}, R s v p → R s' (dgV bad v) p
  | .junk, _, _ => trivial
  | .undef, _, h => h
  | .nul, _, h => h
  | .nilf, _, h => h
  | .int _ _, _, h => h
  | .bool _, _, h => h
  | .str _, _, h => h
  | .agg cs, _, h => by obtain ⟨ps, rfl, h⟩ := h; exact ⟨ps, rfl, RL.fr hf h⟩
  | .tup cs, _, h => by obtain ⟨ps, rfl, h⟩ := h; exact ⟨ps, rfl, RL.fr hf h⟩
  | .sl _ _, _, h => h
  | .nil _ _, _, h => h
  | .own t ex, _, h => by
    obtain ⟨e, n, rfl, h⟩ := h
    refine ⟨e, n, rfl, ?_⟩
    rcases h with ⟨r, l, h1, h2, h3⟩ | h1
    · rcases hf t _ h1 with ⟨l', k1, k2, _⟩ | k1
      · exact .inl ⟨r, l', k1, h2, by rw [h3, k2]⟩
      · exact .inr k1
    · exact .inr (hf t _ h1)
  | .pre t len cap ex, _, h => by
    obtain ⟨e, rfl, h⟩ := h
    refine ⟨e, rfl, ?_⟩
    rcases h with ⟨r, l, h1, h2⟩ | h1
    · rcases hf t _ h1 with ⟨l', k1, _, _⟩ | k1
      · exact .inl ⟨r, l', k1, h2⟩
      · exact .inr k1
    · exact .inr (hf t _ h1)
  | .part t off len cap ex, _, h => by
    obtain ⟨e, rfl, h⟩ := h
    refine ⟨e, rfl, ?_⟩
    rcases h with ⟨r, l, h1, h2⟩ | h1
    · rcases hf t _ h1 with ⟨l', k1, _, _⟩ | k1
      · exact .inl ⟨r, l', k1, h2⟩
      · exact .inr k1
    · exact .inr (hf t _ h1)
  | .pa t r i a off, _, h => by
    obtain ⟨rfl, h⟩ := h
    simp only [dgV]
    cases hb : has bad t with
    | true =>
      refine ⟨_, rfl, ?_⟩
      rcases h with ⟨l, h1, h2⟩ | h1
      · rcases hf t _ h1 with ⟨l', k1, k2, _⟩ | k1
        · exact .inl ⟨r, l', k1, geti_isSome (by rw [h2]; rfl) k2⟩
        · exact .inr k1
      · exact .inr (hf t _ h1)
    | false =>
      refine ⟨rfl, ?_⟩
      rcases h with ⟨l, h1, h2⟩ | h1
      · rcases hf t _ h1 with ⟨l', k1, _, k3⟩ | k1
        · exact .inl ⟨l', k1, by rw [k3 hb]; exact h2⟩
        · exact .inr k1
      · exact .inr (hf t _ h1)
  | .pb t i off, _, h => by
    obtain ⟨e, rfl, h⟩ := h
    refine ⟨e, rfl, ?_⟩
    rcases h with ⟨r, l, h1, h2⟩ | h1
    · rcases hf t _ h1 with ⟨l', k1, k2, _⟩ | k1
      · exact .inl ⟨r, l', k1, geti_isSome h2 k2⟩
      · exact .inr k1
    · exact .inr (hf t _ h1)
  | .bp _ _ _, _, h => h
  | .rptr cs off, _, h => by obtain ⟨ps, rfl, h⟩ := h; exact ⟨ps, rfl, RL.fr hf h⟩
  | .clo f a b, _, h => by obtain ⟨pa, pb, rfl, h1, h2⟩ := h; exact ⟨pa, pb, rfl, RL.fr hf h1, RL.fr hf h2⟩
  | .mp _, _, h => h
theorem RL.fr {bad : List Nat} {s s' : List SB} (hf : Fr bad s s') : ∀ {v : List SV} {p : List PV}, RL s v p → RL s' (dgL bad v) p
  | [], _, h => h
  | x :: xs, _, h => by
    obtain ⟨p, q, rfl, h1, h2⟩ := h.cons_inv
    exact RL.cons (R.fr hf h1) (RL.fr hf h2)
end

mutual
theorem dgV_nil : ∀ v : SV, dgV [] v = v
  | .junk | .undef | .nul | .nilf | .int _ _ | .bool _ | .str _ | .sl _ _ | .nil _ _ | .own _ _ | .pre _ _ _ _ | .part _ _ _ _ _ | .pb _ _ _ | .bp _ _ _ | .mp _ => rfl
  | .agg cs => by simp only [dgV, dgL_nil cs]
  | .tup cs => by simp only [dgV, dgL_nil cs]
  | .rptr cs _ => by simp only [dgV, dgL_nil cs]
  | .clo _ a b => by simp only [dgV, dgL_nil a, dgL_nil b]
  | .pa t r i a off => by simp [dgV, has]
theorem dgL_nil : ∀ v : List SV, dgL [] v = v
  | [] => rfl
  | x :: xs => by simp only [dgL, dgV_nil x, dgL_nil xs]
end

theorem R.ext {s s' : List SB} (hf : Fr [] s s') {v : SV} {p : PV} (h : R s v p) : R s' v p := by
  have := R.fr hf h
  rwa [dgV_nil] at this
theorem RL.ext {s s' : List SB} (hf : Fr [] s s') {v : List SV} {p : List PV} (h : RL s v p) : RL s' v p := by
  have := RL.fr hf h
  rwa [dgL_nil] at this

theorem RB.fr {bad : List Nat} {s s' : List SB} (hf : Fr bad s s') {b : SB} {p : Blk} (h : RB s b p) : RB s' (dgB bad b) p := by
  cases b with
  | box cs => obtain ⟨ps, rfl, h⟩ := h; exact ⟨ps, rfl, RL.fr hf h⟩
  | _ => exact h
theorem RB.ext {s s' : List SB} (hf : Fr [] s s') {b : SB} {p : Blk} (h : RB s b p) : RB s' b p := by
  cases b with
  | box cs => obtain ⟨ps, rfl, h⟩ := h; exact ⟨ps, rfl, RL.ext hf h⟩
  | _ => exact h

theorem REnv.fr {bad : List Nat} {s s' : List SB} (hf : Fr bad s s') : ∀ {e : SE} {p : Env}, REnv s e p → REnv s' (dgE bad e) p
  | [], _, h => h
  | (t, v) :: r, _, h => by
    obtain ⟨p, q, rfl, h1, h2⟩ := h
    exact ⟨p, q, rfl, R.fr hf h1, REnv.fr hf h2⟩
theorem REnv.ext {s s' : List SB} (hf : Fr [] s s') : ∀ {e : SE} {p : Env}, REnv s e p → REnv s' e p
  | [], _, h => h
  | (t, v) :: r, _, h => by
    obtain ⟨p, q, rfl, h1, h2⟩ := h
    exact ⟨p, q, rfl, R.ext hf h1, REnv.ext hf h2⟩

theorem RSto.app {s : List SB} {p : Sto} (h : RSto s p) {l : List SB} {q : Sto} (hl : q.length = l.length) (hb : ∀ (j : Nat) (b : SB), l[j]? = some b → ∃ x, q[j]? = some x ∧ RB (s ++ l) b x) : RSto (s ++ l) (p ++ q) where
  len := by simp [h.len, hl]
  at_ := fun t b ht => by
    rcases Nat.lt_or_ge t s.length with hlt | hge
    · rw [List.getElem?_append_left hlt] at ht
      obtain ⟨x, h1, h2⟩ := h.at_ t b ht
      exact ⟨x, by rw [List.getElem?_append_left (by rw [h.len]; exact hlt)]; exact h1, h2.ext (Fr.app [] s l)⟩
    · rw [List.getElem?_append_right hge] at ht
      obtain ⟨x, h1, h2⟩ := hb _ b ht
      exact ⟨x, by rw [List.getElem?_append_right (by rw [h.len]; exact hge), h.len]; exact h1, h2⟩

theorem dgS_get (ts : List Nat) : ∀ (s : List SB) (t : Nat), (dgS ts s)[t]? = (s[t]?).map (dgB ts)
  | [], t => by simp [dgS]
  | b :: r, 0 => by simp [dgS]
  | b :: r, t + 1 => by simp [dgS, dgS_get ts r t]
theorem dgS_len (ts : List Nat) : ∀ (s : List SB), (dgS ts s).length = s.length
  | [] => rfl
  | b :: r => by simp [dgS, dgS_len ts r]
theorem dgB_arr {ts : List Nat} {b : SB} {r : List PT} {l : List (RT r)} : dgB ts b = .arr r l ↔ b = .arr r l := by
  cases b <;> simp [dgB]
theorem dgB_dead {ts : List Nat} {b : SB} : dgB ts b = .dead ↔ b = .dead := by
  cases b <;> simp [dgB]

/-- A frame, with the boxes looked over. -/
theorem Fr.dg {bad ts : List Nat} {s s' : List SB} (h : Fr bad s s') : Fr bad s (dgS ts s') := fun t b hb => by
  have h1 := h t b hb
  cases b with
  | arr r l =>
    rcases h1 with ⟨l', h2, h3, h4⟩ | h2
    · exact .inl ⟨l', by rw [dgS_get, h2]; rfl, h3, h4⟩
    · exact .inr (by rw [dgS_get, h2]; rfl)
  | dead => show (dgS ts s')[t]? = _; rw [dgS_get, h1]; rfl
  | _ => trivial

/-! ### cells and parts -/

theorem RL_sv {s : List SB} : ∀ (r : List PT) (a : RT r), RL s (RT.sv r a) (RT.pv r a)
  | [], _ => rfl
  | [p], a => by refine RL.cons ?_ RL.nil; cases p <;> rfl
  | p :: q :: r, a => by refine RL.cons ?_ (RL_sv (q :: r) a.2); cases p <;> rfl
theorem RL_sv_inv {s : List SB} : ∀ (r : List PT) (a : RT r) {ps : List PV}, RL s (RT.sv r a) ps → ps = RT.pv r a
  | [], _, ps, h => h
  | [p], a, ps, h => by
    obtain ⟨x, q, rfl, h1, h2⟩ := h.cons_inv
    have h2' : q = [] := h2
    subst h2'
    cases p <;> (have h1' := h1; simp only [PT.sv, R] at h1'; rw [h1']; rfl)
  | p :: q :: r, a, ps, h => by
    obtain ⟨x, qs, rfl, h1, h2⟩ := h.cons_inv
    rw [RL_sv_inv (q :: r) a.2 h2]
    cases p <;> (have h1' := h1; simp only [PT.sv, R] at h1'; rw [h1']; rfl)
theorem RT.plain : ∀ (r : List PT) (a : RT r), (RT.pv r a).all PV.plain = true
  | [], _ => rfl
  | [p], a => by cases p <;> rfl
  | p :: q :: r, a => by
    have := RT.plain (q :: r) a.2
    cases p <;> (simp only [RT.pv, List.all_cons, this, Bool.and_true]; rfl)

theorem R.cells {s : List SB} {v : SV} {p : PV} (h : R s v p) (hj : v ≠ .junk) : RL s v.cells p.cells := by
  cases v with
  | junk => exact absurd rfl hj
  | agg cs => obtain ⟨ps, rfl, h⟩ := h; exact h
  | undef => rw [show p = .undef from h]; exact RL.cons rfl RL.nil
  | nul => rw [show p = .nul from h]; exact RL.cons rfl RL.nil
  | nilf => rw [show p = .nilf from h]; exact RL.cons rfl RL.nil
  | int k n => rw [show p = .int k n from h]; exact RL.cons rfl RL.nil
  | bool b => rw [show p = .bool b from h]; exact RL.cons rfl RL.nil
  | str x => rw [show p = .str x from h]; exact RL.cons rfl RL.nil
  | sl r l => rw [show p = _ from h]; exact RL.cons rfl RL.nil
  | nil e c => rw [show p = _ from h]; exact RL.cons rfl RL.nil
  | bp t n o => rw [show p = _ from h]; exact RL.cons rfl RL.nil
  | mp t => rw [show p = _ from h]; exact RL.cons rfl RL.nil
  | tup cs => obtain ⟨ps, rfl, h⟩ := h; exact RL.cons ⟨ps, rfl, h⟩ RL.nil
  | own t ex => obtain ⟨e, n, rfl, h⟩ := h; exact RL.cons ⟨e, n, rfl, h⟩ RL.nil
  | pre t a b c => obtain ⟨e, rfl, h⟩ := h; exact RL.cons ⟨e, rfl, h⟩ RL.nil
  | part t o a b c => obtain ⟨e, rfl, h⟩ := h; exact RL.cons ⟨e, rfl, h⟩ RL.nil
  | pa t r i a o => obtain ⟨rfl, h⟩ := h; exact RL.cons ⟨rfl, h⟩ RL.nil
  | pb t i o => obtain ⟨e, rfl, h⟩ := h; exact RL.cons ⟨e, rfl, h⟩ RL.nil
  | rptr cs o => obtain ⟨ps, rfl, h⟩ := h; exact RL.cons ⟨ps, rfl, h⟩ RL.nil
  | clo f a b => obtain ⟨pa, pb, rfl, h⟩ := h; exact RL.cons ⟨pa, pb, rfl, h⟩ RL.nil

theorem R.isOne {s : List SB} {v : SV} {p : PV} (h : R s v p) (ho : v.isOne = true) : p.isOne = true := by
  cases v with
  | junk | undef | nul | agg _ | tup _ => cases ho
  | nilf | int _ _ | bool _ | str _ | sl _ _ | nil _ _ | bp _ _ _ | mp _ => rw [show p = _ from h]; rfl
  | own t ex => obtain ⟨e, n, rfl, h⟩ := h; rfl
  | pre t a b c => obtain ⟨e, rfl, h⟩ := h; rfl
  | part t o a b c => obtain ⟨e, rfl, h⟩ := h; rfl
  | pa t r i a o => obtain ⟨rfl, h⟩ := h; rfl
  | pb t i o => obtain ⟨e, rfl, h⟩ := h; rfl
  | rptr cs o => obtain ⟨ps, rfl, h⟩ := h; rfl
  | clo f a b => obtain ⟨pa, pb, rfl, h⟩ := h; rfl

theorem RL.allOne {s : List SB} : ∀ {cs : List SV} {ps : List PV}, RL s cs ps → Vm.allOne cs = true → ps.all PV.isOne = true
  | [], ps, h, _ => by rw [show ps = [] from h]; rfl
  | x :: xs, ps, h, ho => by
    obtain ⟨p, q, rfl, h1, h2⟩ := h.cons_inv
    simp only [Vm.allOne, Bool.and_eq_true] at ho
    simp only [List.all_cons, Bool.and_eq_true]
    exact ⟨h1.isOne ho.1, h2.allOne ho.2⟩

theorem R.stored {s : List SB} {v : SV} {p : PV} {w : List SV} (h : R s v p) (hs : v.stored = some w) : ∃ q, p.stored = some q ∧ RL s w q := by
  unfold SV.stored at hs
  cases ha : Vm.allOne v.cells with
  | false => rw [ha] at hs; cases hs
  | true =>
    rw [ha] at hs
    injection hs with hs; subst hs
    have hj : v ≠ .junk := by intro e; subst e; cases ha
    have hc := h.cells hj
    exact ⟨p.cells, by unfold PV.stored; rw [if_pos (hc.allOne ha)], hc⟩

/-- A typed row in a value. -/
theorem R.ofRow {s : List SB} {v : SV} {p : PV} {r : List PT} {a : RT r} (h : R s v p) (hr : RT.of r v.cells = some a) : p.storedPlain = some (RT.pv r a) ∧ v.cells.length = r.length := by
  have hc := RT.of_some hr
  have hl : v.cells.length = r.length := by rw [hc, RT.sv_len]
  refine ⟨?_, hl⟩
  have hj : v ≠ .junk := by
    intro e; subst e
    cases r with
    | nil => simp [SV.cells, RT.of] at hr
    | cons p q => cases q with
      | nil => cases p <;> simp [SV.cells, RT.of, PT.of] at hr
      | cons _ _ => simp only [SV.cells, RT.of] at hr; split at hr <;> cases hr <;> (rename_i x y h1 h2; simp [RT.of] at h2)
  have h1 := h.cells hj
  rw [hc] at h1
  have h2 := RL_sv_inv r a h1
  unfold PV.storedPlain
  rw [h2, if_pos (RT.plain r a)]

theorem partS_R {s : List SB} {agg : Option Nat} {off : Nat} {cs : List SV} {ps : List PV} {v : SV} (h : RL s cs ps) (hp : partS agg off cs = some v) : ∃ p, part agg off ps = some p ∧ R s v p := by
  cases agg with
  | none =>
    obtain ⟨p, h1, h2⟩ := h.nth hp
    exact ⟨p, h1, h2⟩
  | some n =>
    simp only [partS] at hp
    cases hb : Nat.ble (off + n) cs.length with
    | false => rw [hb] at hp; cases hp
    | true =>
      rw [hb] at hp
      injection hp with hp; subst hp
      have : off + n ≤ ps.length := by rw [h.length]; exact Nat.le_of_ble_eq_true hb
      exact ⟨.agg ((ps.drop off).take n), by simp only [part, if_pos this], _, rfl, (h.drop off).take n⟩

theorem spliceS_R {s : List SB} {off : Nat} {new old : List SV} {pn po : List PV} (h : RL s new pn) (k : RL s old po) : RL s (spliceS off new old) (splice off pn po) := by
  unfold spliceS splice
  rw [h.length]
  exact ((k.take off).append h).append (k.drop _)

/-- All elements of a slice, as the logical machine has them. -/
theorem contS_R {s : List SB} {ps : Sto} {v : SV} {p : PV} {r : List PT} {l : List (RT r)} (hs : RSto s ps) (h : R s v p) (hc : contS s v = some ⟨r, l⟩) :
    rowsOf ps r.length p = some (l.map (RT.pv r)) ∧ tokOf p = tokS v := by
  cases v with
  | sl q m =>
    have hc' : (⟨q, m⟩ : Rows) = ⟨r, l⟩ := by injection hc
    cases hc'
    rw [show p = _ from h]
    refine ⟨?_, rfl⟩
    cases l with
    | nil => rfl
    | cons a l => simp [rowsOf]
  | own t ex =>
    simp only [contS, nth_eq] at hc
    split at hc
    · rename_i q m hst
      have hc' : (⟨q, m⟩ : Rows) = ⟨r, l⟩ := by injection hc
      cases hc'
      obtain ⟨e, n, rfl, hat⟩ := h
      rcases hat with ⟨q', m', h1, rfl, rfl⟩ | h1
      · rw [hst] at h1
        injection h1 with h1
        cases h1
        obtain ⟨b, h2, h3⟩ := hs.at_ t _ hst
        rw [show b = _ from h3] at h2
        refine ⟨?_, rfl⟩
        simp only [rowsOf, Nat.beq_refl, if_true, h2, List.drop_zero]
        rw [List.take_of_length_le (by simp)]
      · rw [hst] at h1; cases h1
    · cases hc
  | pre t len cap ex =>
    simp only [contS, nth_eq] at hc
    split at hc
    · rename_i q m hst
      have hc' : (⟨q, m.take len⟩ : Rows) = ⟨r, l⟩ := by injection hc
      cases hc'
      obtain ⟨e, rfl, hat⟩ := h
      rcases hat with ⟨q', m', h1, rfl⟩ | h1
      · rw [hst] at h1
        injection h1 with h1
        cases h1
        obtain ⟨b, h2, h3⟩ := hs.at_ t _ hst
        rw [show b = _ from h3] at h2
        refine ⟨?_, rfl⟩
        simp only [rowsOf, Nat.beq_refl, if_true, h2]
        simp
      · rw [hst] at h1; cases h1
    · cases hc
  | part t off len cap ex =>
    simp only [contS, nth_eq] at hc
    split at hc
    · rename_i q m hst
      have hc' : (⟨q, (m.drop off).take len⟩ : Rows) = ⟨r, l⟩ := by injection hc
      cases hc'
      obtain ⟨e, rfl, hat⟩ := h
      rcases hat with ⟨q', m', h1, rfl⟩ | h1
      · rw [hst] at h1
        injection h1 with h1
        cases h1
        obtain ⟨b, h2, h3⟩ := hs.at_ t _ hst
        rw [show b = _ from h3] at h2
        refine ⟨?_, rfl⟩
        simp only [rowsOf, Nat.beq_refl, if_true, h2]
        simp
      · rw [hst] at h1; cases h1
    · cases hc
  | _ => cases hc

end Go.Vm

/- Operation by operation: what the typed machine does, the logical machine does; the easy ones. -/
namespace Go.Vm

def SRes.stoOf (s : List SB) (r : SRes) : List SB :=
  match r.wr with
  | [] => apS s r.news
  | w => apS (dgS (wrTk w) (applyS w s)) r.news

structure Good (s : List SB) (ps : Sto) (sr : SRes) (pr : Res) : Prop where
  rd : pr.rd = sr.rd
  fr : pr.fr = sr.fr
  wr : pr.wr.map (·.1) = wrTk sr.wr
  nw : nodupW pr.wr = true
  nl : pr.news.length = sr.news.length
  sto : RSto (sr.stoOf s) (addN (applyWr pr.wr ps) pr.news)
  v : R (sr.stoOf s) sr.v pr.v
  fra : Fr (wrTk sr.wr) s (sr.stoOf s)

section
variable {s : List SB} {ps : Sto}

theorem Good.val (hS : RSto s ps) {v : SV} {p : PV} {rd fr : List Nat} (hv : R s v p) : Good s ps { v, rd, fr } { v := p, rd, fr } where
  rd := rfl
  fr := rfl
  wr := rfl
  nw := rfl
  nl := rfl
  sto := by simp only [SRes.stoOf, apS_eq, List.append_nil, applyWr, addN]; exact hS
  v := by simp only [SRes.stoOf, apS_eq, List.append_nil]; exact hv
  fra := by simp only [SRes.stoOf, apS_eq, List.append_nil]; exact Fr.refl _ _

theorem Good.news (hS : RSto s ps) {v : SV} {p : PV} {l : List SB} {q : Sto} {rd : List Nat} (hl : q.length = l.length) (hb : ∀ (j : Nat) (b : SB), l[j]? = some b → ∃ x, q[j]? = some x ∧ RB (s ++ l) b x) (hv : R (s ++ l) v p) :
    Good s ps { v, news := l, rd } { v := p, news := q, rd } where
  rd := rfl
  fr := rfl
  wr := rfl
  nw := rfl
  nl := hl
  sto := by simp only [SRes.stoOf, apS_eq, applyWr, addN_eq]; exact hS.app hl hb
  v := by simp only [SRes.stoOf, apS_eq]; exact hv
  fra := by simp only [SRes.stoOf, apS_eq]; exact Fr.app _ _ _

theorem Good.new (hS : RSto s ps) {v : SV} {p : PV} {b : SB} {q : Blk} {rd : List Nat} (hb : RB (s ++ [b]) b q) (hv : R (s ++ [b]) v p) : Good s ps { v, news := [b], rd } { v := p, news := [q], rd } :=
  Good.news hS rfl (fun j x h => by
    cases j with
    | zero => simp at h; subst h; exact ⟨q, rfl, hb⟩
    | succ j => simp at h) hv

def Keeps (b0 b : SB) : Prop :=
  match b0 with
  | .arr r l => (∃ l', b = .arr r l' ∧ l'.length = l.length) ∨ b = .dead
  | .dead => b = .dead
  | _ => True

theorem Fr.set {t : Nat} {b0 b : SB} (h0 : s[t]? = some b0) (hk : Keeps b0 b) : Fr [t] s (s.set t b) := fun u x hu => by
  by_cases hut : t = u
  · subst hut
    rw [h0] at hu; injection hu with hu; subst hu
    have hlt := (List.getElem?_eq_some_iff.1 h0).1
    have hb : (s.set t b)[t]? = some b := by simp [hlt]
    cases b0 with
    | arr r l =>
      rcases hk with ⟨l', rfl, hl⟩ | rfl
      · exact .inl ⟨l', hb, hl, fun h => by simp [has] at h⟩
      · exact .inr hb
    | dead => rw [show b = .dead from hk] at hb ⊢; exact hb
    | _ => trivial
  · have hb : (s.set t b)[u]? = some x := by rw [List.getElem?_set]; simp [hut, hu]
    cases x with
    | arr r l => exact .inl ⟨l, hb, rfl, fun _ => rfl⟩
    | dead => exact hb
    | _ => trivial

theorem RSto.put (hS : RSto s ps) {t : Nat} {b0 b : SB} {q : Blk} (h0 : s[t]? = some b0) (hk : Keeps b0 b) (hq : RB (dgS [t] (s.set t b)) (dgB [t] b) q) : RSto (dgS [t] (s.set t b)) (ps.set t q) where
  len := by simp [dgS_len, hS.len]
  at_ := fun u x hu => by
    have hlt := (List.getElem?_eq_some_iff.1 h0).1
    rw [dgS_get] at hu
    by_cases hut : t = u
    · subst hut
      have hb : (s.set t b)[t]? = some b := by simp [hlt]
      rw [hb] at hu; simp at hu; subst hu
      exact ⟨q, by rw [List.getElem?_set]; simp [hS.len, hlt], hq⟩
    · rw [List.getElem?_set] at hu
      simp only [hut, if_false, Option.map_eq_some_iff] at hu
      obtain ⟨y, hy, rfl⟩ := hu
      obtain ⟨q', h1, h2⟩ := hS.at_ u y hy
      exact ⟨q', by rw [List.getElem?_set]; simp [hut, h1], h2.fr (Fr.dg (Fr.set h0 hk))⟩

theorem Good.put (hS : RSto s ps) {v : SV} {p : PV} {t : Nat} {b0 b : SB} {q : Blk} {l : List SB} {ql : Sto} {rd : List Nat} (h0 : s[t]? = some b0) (hk : Keeps b0 b) (hq : RB (dgS [t] (s.set t b)) (dgB [t] b) q)
    (hl : ql.length = l.length) (hb : ∀ (j : Nat) (x : SB), l[j]? = some x → ∃ y, ql[j]? = some y ∧ RB (dgS [t] (s.set t b) ++ l) x y) (hv : R (dgS [t] (s.set t b) ++ l) v p) :
    Good s ps { v, wr := [(t, b)], news := l, rd } { v := p, wr := [(t, q)], news := ql, rd } where
  rd := rfl
  fr := rfl
  wr := rfl
  nw := rfl
  nl := hl
  sto := by
    simp only [SRes.stoOf, apS_eq, applyWr, addN_eq, wrTk, applyS, setB_eq]
    exact (hS.put h0 hk hq).app hl hb
  v := by simp only [SRes.stoOf, apS_eq, wrTk, applyS, setB_eq]; exact hv
  fra := by
    simp only [SRes.stoOf, apS_eq, wrTk, applyS, setB_eq]
    exact (Fr.dg (Fr.set h0 hk)).trans (Fr.app _ _ _)

/-- A block is written, no more. -/
theorem Good.put0 (hS : RSto s ps) {t : Nat} {b0 b : SB} {q : Blk} {rd : List Nat} (h0 : s[t]? = some b0) (hk : Keeps b0 b) (hq : RB (dgS [t] (s.set t b)) (dgB [t] b) q) :
    Good s ps { v := .undef, wr := [(t, b)], rd } { v := .undef, wr := [(t, q)], rd } :=
  Good.put hS h0 hk hq rfl (fun j x h => by simp at h) rfl

end

/-! ### answers -/

section
variable {R' ρ : Type} {w : R' → ρ} {y : ρ}

theorem ansO_some {α : Type} {x : Option α} {k : α → Ans R'} (h : ansO x k ρ w = some y) : ∃ a, x = some a ∧ k a ρ w = some y := by
  cases x with
  | none => cases h
  | some a => exact ⟨a, rfl, h⟩
theorem bindA_some {α : Type} {x : Option α} {k : α → Ans R'} (h : bindA x k ρ w = some y) : ∃ a, x = some a ∧ k a ρ w = some y := bindO_some h
theorem condA_some {c : Bool} {a b : Ans R'} (h : condA c a b ρ w = some y) : (c = true ∧ a ρ w = some y) ∨ (c = false ∧ b ρ w = some y) := condO_some h
theorem bif_some {c : Bool} {a : Ans R'} (h : (bif c then a else failA) ρ w = some y) : c = true ∧ a ρ w = some y := by
  cases c
  · cases h
  · exact ⟨rfl, h⟩
theorem nbif_some {c : Bool} {a : Ans R'} (h : (bif c then failA else a) ρ w = some y) : c = false ∧ a ρ w = some y := by
  cases c
  · exact ⟨rfl, h⟩
  · cases h
theorem condF_some {c : Bool} {a : Ans R'} (h : condA c a failA ρ w = some y) : c = true ∧ a ρ w = some y := by
  rcases condA_some h with ⟨h1, h2⟩ | ⟨_, h2⟩
  · exact ⟨h1, h2⟩
  · cases h2
theorem ncond_some {c : Bool} {a : Ans R'} (h : condA c failA a ρ w = some y) : c = false ∧ a ρ w = some y := by
  rcases condA_some h with ⟨_, h2⟩ | ⟨h1, h2⟩
  · cases h2
  · exact ⟨h1, h2⟩
end

/-- What an operation of the typed machine comes to. -/
def Sim {R' : Type} (s : List SB) (ps : Sto) (po : Option Res) (k : SRes → Ans R') (ρ : Type) (w : R' → ρ) (y : ρ) : Prop :=
  ∃ sr pr, po = some pr ∧ Good s ps sr pr ∧ k sr ρ w = some y

section
variable {R' ρ : Type} {w : R' → ρ} {y : ρ} {s : List SB} {ps : Sto} {e : SE} {pe : Env} {z : List Nat} {k : SRes → Ans R'}

theorem Sim.val (hS : RSto s ps) {po : Option Res} {v : SV} {p : PV} (h : k { v } ρ w = some y) (hp : po = some { v := p }) (hv : R s v p) : Sim s ps po k ρ w y :=
  ⟨_, _, hp, Good.val hS hv, h⟩
theorem Sim.rd (hS : RSto s ps) {po : Option Res} {v : SV} {p : PV} {rd : List Nat} (h : k { v, rd } ρ w = some y) (hp : po = some { v := p, rd }) (hv : R s v p) : Sim s ps po k ρ w y :=
  ⟨_, _, hp, Good.val hS hv, h⟩

theorem ev_int (hE : REnv s e pe) {x : Opd} {a : IntKind} {n : Int} (h : opdS e x = .int a n) : x.ev pe = .int a n := by
  have := opdS_R hE x; rw [h] at this; exact this
theorem ev_bool (hE : REnv s e pe) {x : Opd} {b : Bool} (h : opdS e x = .bool b) : x.ev pe = .bool b := by
  have := opdS_R hE x; rw [h] at this; exact this
theorem ev_R (hE : REnv s e pe) {x : Opd} {v : SV} (h : opdS e x = v) : R s v (x.ev pe) := by
  have := opdS_R hE x; rwa [h] at this

theorem kindEq_refl (k : IntKind) : kindEq k k = true := by cases k <;> rfl

theorem arithS_sim (hS : RSto s ps) {op : BinOp} {a : IntKind} {m n : Int} (h : arithS op a m n (ofV k) ρ w = some y) : ∃ p, arith op a m n = some p ∧ Sim s ps (some { v := p }) k ρ w y := by
  cases op with
  | quo =>
    obtain ⟨h1, h2⟩ := ncond_some h
    have hn : n ≠ 0 := by intro e; subst e; cases h1
    exact ⟨_, by simp only [arith, if_neg hn], Sim.val hS h2 rfl rfl⟩
  | rem =>
    obtain ⟨h1, h2⟩ := ncond_some h
    have hn : n ≠ 0 := by intro e; subst e; cases h1
    exact ⟨_, by simp only [arith, if_neg hn], Sim.val hS h2 rfl rfl⟩
  | shl => cases h
  | shr => cases h
  | _ => exact ⟨_, rfl, Sim.val hS h rfl rfl⟩

theorem bin_sim (hE : REnv s e pe) (hS : RSto s ps) {op : BinOp} {a b : Opd} (h : evS e s z (.bin op a b) k ρ w = some y) : Sim s ps (evOp pe ps z (.bin op a b)) k ρ w y := by
  simp only [evS] at h
  generalize ha : opdS e a = va at h
  cases va with
  | int ka m =>
    generalize hb : opdS e b = vb at h
    cases vb with
    | int kb n =>
      have h1 := ev_int hE ha
      have h2 := ev_int hE hb
      have key : (op ≠ .shl) → (op ≠ .shr) → (bif kindEq ka kb then arithS op ka m n (ofV k) else failA) ρ w = some y → Sim s ps (evOp pe ps z (.bin op a b)) k ρ w y := by
        intro n1 n2 h
        obtain ⟨hk, h⟩ := bif_some h
        obtain ⟨p, hp, hs⟩ := arithS_sim hS h
        have : evOp pe ps z (.bin op a b) = some { v := p } := by
          simp only [evOp, h1, h2]
          cases op <;> first | exact absurd rfl n1 | exact absurd rfl n2 | (simp only [binE, hk, if_true, hp]; rfl)
        rw [this]; exact hs
      cases op with
      | shl =>
        obtain ⟨hc, h⟩ := ncond_some h
        have hc' : ¬ n < 0 := by simpa using hc
        exact Sim.val hS h (by simp only [evOp, h1, h2, binE, shiftI, if_neg hc']; rfl) rfl
      | shr =>
        obtain ⟨hc, h⟩ := ncond_some h
        have hc' : ¬ n < 0 := by simpa using hc
        exact Sim.val hS h (by simp only [evOp, h1, h2, binE, shiftI, if_neg hc']; rfl) rfl
      | _ => exact key (by intro e; cases e) (by intro e; cases e) h
    | _ => cases h
  | _ => cases h

theorem binb_sim (hE : REnv s e pe) (hS : RSto s ps) {neg : Bool} {a b : Opd} (h : evS e s z (.binb neg a b) k ρ w = some y) : Sim s ps (evOp pe ps z (.binb neg a b)) k ρ w y := by
  simp only [evS] at h
  generalize ha : opdS e a = va at h
  cases va with
  | bool x =>
    generalize hb : opdS e b = vb at h
    cases vb with
    | bool x' =>
      refine Sim.val hS h ?_ rfl
      simp only [evOp, ev_bool hE ha, ev_bool hE hb]
      cases neg <;> rfl
    | _ => cases h
  | _ => cases h

theorem eqS_ok : ∀ {xs ys : List SV} {ps qs : List PV} {r : Bool}, RL s xs ps → RL s ys qs → eqS xs ys = some r → eqCells ps qs = some r
  | [], [], ps, qs, r, h1, h2, h => by rw [show ps = [] from h1, show qs = [] from h2]; exact h
  | x :: xs, b :: ys, ps, qs, r, h1, h2, h => by
    obtain ⟨p, ps, rfl, a1, a2⟩ := h1.cons_inv
    obtain ⟨q, qs, rfl, b1, b2⟩ := h2.cons_inv
    simp only [eqS] at h
    split at h
    · rename_i ka m kb n
      have a1' : p = .int ka m := a1
      have b1' : q = .int kb n := b1
      subst a1' b1'
      cases hk : kindEq ka kb with
      | false => rw [hk] at h; cases h
      | true =>
        rw [hk] at h
        have hc : eqCell (.int ka m) (.int kb n) = some (m == n) := by simp only [eqCell, hk, if_true]
        simp only [eqCells, hc]
        cases xs with
        | nil =>
          cases ys with
          | nil =>
            simp only [cond_true, Option.some.injEq] at h
            subst h
            rw [show ps = [] from a2, show qs = [] from b2]
            cases m == n <;> rfl
          | cons _ _ => cases h
        | cons x2 xs2 =>
          simp only [cond_true] at h
          split at h
          · rename_i r' hr
            injection h with h; subst h
            rw [eqS_ok a2 b2 hr]
            cases m == n <;> rfl
          · cases h
    · cases h
  | [], _ :: _, ps, qs, r, h1, h2, h => by cases h
  | _ :: _, [], ps, qs, r, h1, h2, h => by cases h

theorem eqc_sim (hE : REnv s e pe) (hS : RSto s ps) {n : Nat} {neg : Bool} {a b : Opd} (h : evS e s z (.eqc n neg a b) k ρ w = some y) : Sim s ps (evOp pe ps z (.eqc n neg a b)) k ρ w y := by
  simp only [evS] at h
  generalize ha : opdS e a = va at h
  cases va with
  | agg xs =>
    generalize hb : opdS e b = vb at h
    cases vb with
    | agg ys =>
      obtain ⟨hl, h⟩ := bif_some h
      obtain ⟨r, hr, h⟩ := ansO_some h
      obtain ⟨p, hp, h1⟩ := ev_R hE ha
      obtain ⟨q, hq, h2⟩ := ev_R hE hb
      refine Sim.val hS h ?_ rfl
      simp only [evOp, hp, hq, h1.length, h2.length]
      rw [if_pos hl, eqS_ok h1 h2 hr]
      cases neg <;> rfl
    | _ => cases h
  | _ => cases h

theorem un_sim (hE : REnv s e pe) (hS : RSto s ps) {op : UnOp} {a : Opd} (h : evS e s z (.un op a) k ρ w = some y) : Sim s ps (evOp pe ps z (.un op a)) k ρ w y := by
  simp only [evS] at h
  cases op with
  | neg =>
    dsimp only at h
    generalize ha : opdS e a = va at h
    cases va with
    | int ka n => exact Sim.val hS h (by simp only [evOp, ev_int hE ha]; rfl) rfl
    | _ => cases h
  | not =>
    dsimp only at h
    generalize ha : opdS e a = va at h
    cases va with
    | bool b => exact Sim.val hS h (by simp only [evOp, ev_bool hE ha]; rfl) rfl
    | _ => cases h
  | _ => cases h

theorem conv_sim (hE : REnv s e pe) (hS : RSto s ps) {a : IntKind} {x : Opd} (h : evS e s z (.conv a x) k ρ w = some y) : Sim s ps (evOp pe ps z (.conv a x)) k ρ w y := by
  simp only [evS] at h
  generalize ha : opdS e x = va at h
  cases va with
  | int ka n => exact Sim.val hS h (by simp only [evOp, ev_int hE ha]) rfl
  | _ => cases h

theorem len_sim (hE : REnv s e pe) (hS : RSto s ps) {x : Opd} (h : evS e s z (.len x) k ρ w = some y) : Sim s ps (evOp pe ps z (.len x)) k ρ w y := by
  simp only [evS] at h
  have hx := opdS_R hE x
  generalize opdS e x = v at h hx
  cases v with
  | nil e' c => exact Sim.val hS h (by simp only [evOp, show x.ev pe = .sl e' c [] from hx]; rfl) rfl
  | pre t len cap ex =>
    obtain ⟨e', hx, _⟩ := hx
    exact Sim.val hS h (by simp only [evOp, hx]) rfl
  | part t off len cap ex =>
    obtain ⟨e', hx, _⟩ := hx
    exact Sim.val hS h (by simp only [evOp, hx]) rfl
  | sl q m =>
    exact Sim.val hS h (by simp only [evOp, show x.ev pe = _ from hx, List.length_map]) rfl
  | own t ex =>
    obtain ⟨c, hc, h⟩ := ansO_some h
    simp only [contS, nth_eq] at hc
    split at hc
    · rename_i q m hst
      injection hc with hc; subst hc
      obtain ⟨e', n, hx, hat⟩ := hx
      rcases hat with ⟨q', m', h1, rfl, rfl⟩ | h1
      · rw [hst] at h1; injection h1 with h1; cases h1
        exact Sim.val hS h (by simp only [evOp, hx]) rfl
      · rw [hst] at h1; cases h1
    · cases hc
  | _ => obtain ⟨c, hc, h⟩ := ansO_some h; cases hc

theorem fillCellsS_R : ∀ {l : List (Nat × Nat × SV)} {pl : List (Nat × Nat × PV)} {cs : List SV} {pc : List PV} {r : List SV},
    (pl.length = l.length ∧ ∀ (j : Nat) (a : Nat × Nat × SV), l[j]? = some a → ∃ b, pl[j]? = some (a.1, a.2.1, b) ∧ R s a.2.2 b) → RL s cs pc → fillCellsS l cs = some r → ∃ q, fillCells pl pc = some q ∧ RL s r q
  | [], pl, cs, pc, r, hl, hc, h => by
    have : pl = [] := List.length_eq_zero_iff.1 hl.1
    subst this
    injection h with h; subst h
    exact ⟨pc, rfl, hc⟩
  | (off, sz, v) :: l, pl, cs, pc, r, hl, hc, h => by
    cases pl with
    | nil => simp at hl
    | cons p pl =>
      obtain ⟨b, h1, h2⟩ := hl.2 0 _ rfl
      simp at h1; subst h1
      simp only [fillCellsS] at h
      split at h
      · rename_i w hw
        obtain ⟨q, hq, hqr⟩ := h2.stored hw
        cases hcnd : (Nat.beq w.length sz && Nat.ble (off + sz) cs.length) with
        | false => rw [hcnd] at h; cases h
        | true =>
          rw [hcnd] at h
          simp only [cond_true] at h
          obtain ⟨q2, h3, h4⟩ := fillCellsS_R (pl := pl) ⟨by simpa using hl.1, fun j a ha => hl.2 (j + 1) a (by simpa using ha)⟩ (spliceS_R hqr hc) h
          refine ⟨q2, ?_, h4⟩
          simp only [fillCells, hq, hqr.length, hc.length]
          rw [if_pos hcnd]
          exact h3
      · cases h

theorem partsS_R (hE : REnv s e pe) : ∀ (l : List (Nat × Nat × Opd)), ((l.map fun p => (p.1, p.2.1, p.2.2.ev pe)).length = (partsS e l).length ∧ ∀ (j : Nat) (a : Nat × Nat × SV), (partsS e l)[j]? = some a → ∃ b, (l.map fun p => (p.1, p.2.1, p.2.2.ev pe))[j]? = some (a.1, a.2.1, b) ∧ R s a.2.2 b)
  | [] => ⟨rfl, fun j a h => by simp [partsS] at h⟩
  | p :: l => by
    obtain ⟨h1, h2⟩ := partsS_R hE l
    refine ⟨by simp [partsS] at h1 ⊢; omega, fun j a h => ?_⟩
    cases j with
    | zero => simp [partsS] at h; subst h; exact ⟨_, rfl, opdS_R hE _⟩
    | succ j => simp only [partsS, List.getElem?_cons_succ] at h; obtain ⟨b, h3, h4⟩ := h2 j a h; exact ⟨b, by simpa using h3, h4⟩

theorem build_sim (hE : REnv s e pe) (hS : RSto s ps) {zero : List PV} {parts : List (Nat × Nat × Opd)} (h : evS e s z (.build zero parts) k ρ w = some y) : Sim s ps (evOp pe ps z (.build zero parts)) k ρ w y := by
  simp only [evS] at h
  obtain ⟨cs, hc, h⟩ := ansO_some h
  obtain ⟨q, hq, hr⟩ := fillCellsS_R (partsS_R hE parts) (ofPVL_R s zero) hc
  exact Sim.val hS h (by simp only [evOp, hq]; rfl) ⟨q, rfl, hr⟩

theorem box_sim (hE : REnv s e pe) (hS : RSto s ps) {x : Opd} (h : evS e s z (.box x) k ρ w = some y) : Sim s ps (evOp pe ps z (.box x)) k ρ w y := by
  simp only [evS] at h
  obtain ⟨cs, hc, h⟩ := ansO_some h
  obtain ⟨q, hq, hr⟩ := (opdS_R hE x).stored hc
  refine ⟨_, _, ?_, Good.new hS (b := .box cs) (q := .box q) (v := .bp s.length cs.length 0) (p := .ptr s.length cs.length 0 0) (rd := []) ⟨q, rfl, hr.ext (Fr.app _ _ _)⟩ rfl, h⟩
  simp only [evOp, hq, hS.len, hr.length]

theorem alloc_sim (hS : RSto s ps) {cells : List PV} (h : evS e s z (.alloc cells) k ρ w = some y) : Sim s ps (evOp pe ps z (.alloc cells)) k ρ w y := by
  simp only [evS] at h
  refine ⟨_, _, ?_, Good.new hS (b := .box (ofPVL cells)) (q := .box cells) (v := .bp s.length cells.length 0) (p := .ptr s.length cells.length 0 0) (rd := []) ⟨cells, rfl, ofPVL_R _ _⟩ rfl, h⟩
  simp only [evOp, hS.len]

theorem nilc_sim (hE : REnv s e pe) (hS : RSto s ps) {x : Opd} (h : evS e s z (.nilc x) k ρ w = some y) : Sim s ps (evOp pe ps z (.nilc x)) k ρ w y := by
  simp only [evS] at h
  have hx := opdS_R hE x
  generalize opdS e x = v at h hx
  cases v with
  | pa t r i a o => exact Sim.val hS h (by simp only [evOp, hx.1]) ⟨rfl, hx.2⟩
  | pb t i o =>
    obtain ⟨e', h1, h2⟩ := hx
    exact Sim.val hS h (by simp only [evOp, h1]) ⟨e', rfl, h2⟩
  | bp t n o => exact Sim.val hS h (by simp only [evOp, show x.ev pe = _ from hx]) rfl
  | rptr c o =>
    obtain ⟨q, h1, h2⟩ := hx
    exact Sim.val hS h (by simp only [evOp, h1]) ⟨q, rfl, h2⟩
  | clo f a b =>
    obtain ⟨pa, pb, h1, h2⟩ := hx
    exact Sim.val hS h (by simp only [evOp, h1]) ⟨pa, pb, rfl, h2⟩
  | _ => cases h

theorem fadr_sim (hE : REnv s e pe) (hS : RSto s ps) {off : Nat} {x : Opd} (h : evS e s z (.fadr off x) k ρ w = some y) : Sim s ps (evOp pe ps z (.fadr off x)) k ρ w y := by
  simp only [evS] at h
  have hx := opdS_R hE x
  generalize opdS e x = v at h hx
  cases v with
  | pa t r i a o => exact Sim.val hS h (by simp only [evOp, hx.1]) ⟨rfl, hx.2⟩
  | pb t i o =>
    obtain ⟨e', h1, h2⟩ := hx
    exact Sim.val hS h (by simp only [evOp, h1]) ⟨e', rfl, h2⟩
  | bp t n o => exact Sim.val hS h (by simp only [evOp, show x.ev pe = _ from hx]) rfl
  | rptr c o =>
    obtain ⟨q, h1, h2⟩ := hx
    exact Sim.val hS h (by simp only [evOp, h1]) ⟨q, rfl, h2⟩
  | _ => cases h

theorem fld_sim (hE : REnv s e pe) (hS : RSto s ps) {agg : Option Nat} {off : Nat} {x : Opd} (h : evS e s z (.fld agg off x) k ρ w = some y) : Sim s ps (evOp pe ps z (.fld agg off x)) k ρ w y := by
  simp only [evS] at h
  generalize hv : opdS e x = v at h
  cases v with
  | agg cs =>
    obtain ⟨v, h1, h⟩ := ansO_some h
    obtain ⟨q, h2, h3⟩ := ev_R hE hv
    obtain ⟨p, h4, h5⟩ := partS_R h3 h1
    exact Sim.val hS h (by simp only [evOp, h2, h4]; rfl) h5
  | _ => cases h

theorem ext_sim (hE : REnv s e pe) (hS : RSto s ps) {i : Nat} {x : Opd} (h : evS e s z (.ext i x) k ρ w = some y) : Sim s ps (evOp pe ps z (.ext i x)) k ρ w y := by
  simp only [evS] at h
  generalize hv : opdS e x = v at h
  cases v with
  | tup cs =>
    obtain ⟨v, h1, h⟩ := ansO_some h
    obtain ⟨q, h2, h3⟩ := ev_R hE hv
    obtain ⟨p, h4, h5⟩ := h3.nth h1
    exact Sim.val hS h (by simp only [evOp, h2, h4]; rfl) h5
  | _ => cases h

theorem mkf_sim (hE : REnv s e pe) (hS : RSto s ps) {f : FuncId} {a b : List Opd} (h : evS e s z (.mkf f a b) k ρ w = some y) : Sim s ps (evOp pe ps z (.mkf f a b)) k ρ w y := by
  simp only [evS] at h
  exact Sim.val hS h rfl ⟨_, _, rfl, opdsS_R hE a, opdsS_R hE b⟩

theorem mkm_sim (hS : RSto s ps) (h : evS e s z .mkm k ρ w = some y) : Sim s ps (evOp pe ps z .mkm) k ρ w y := by
  simp only [evS] at h
  refine ⟨_, _, ?_, Good.new hS (b := .set []) (q := .map []) (v := .mp s.length) (p := .mp s.length) (rd := []) rfl rfl, h⟩
  simp only [evOp, hS.len]

theorem mmS_R : ∀ {l : List SV} {q : List PV} {m : Bool} {a : IntKind} {n : Int} {v : SV}, RL s l q → mmS m a n l = some v → ∃ p, mmE m a n q = some p ∧ R s v p
  | [], q, m, a, n, v, hl, h => by
    rw [show q = [] from hl]
    injection h with h; subst h
    exact ⟨_, rfl, rfl⟩
  | x :: l, q, m, a, n, v, hl, h => by
    obtain ⟨p, q, rfl, h1, h2⟩ := hl.cons_inv
    simp only [mmS] at h
    split at h
    · rename_i b c
      have h1' : p = .int b c := h1
      subst h1'
      cases hk : kindEq a b with
      | true =>
        rw [hk] at h
        obtain ⟨p, h3, h4⟩ := mmS_R h2 h
        refine ⟨p, ?_, h4⟩
        simp only [mmE, hk, if_true]
        rw [← h3]
        cases m <;> rfl
      | false => rw [hk] at h; cases h
    · cases h

theorem mm_sim (hE : REnv s e pe) (hS : RSto s ps) {m : Bool} {x : Opd} {xs : List Opd} (h : evS e s z (.mm m x xs) k ρ w = some y) : Sim s ps (evOp pe ps z (.mm m x xs)) k ρ w y := by
  simp only [evS] at h
  generalize hv : opdS e x = v at h
  cases v with
  | int a n =>
    obtain ⟨v, h1, h⟩ := ansO_some h
    obtain ⟨p, h2, h3⟩ := mmS_R (opdsS_R hE xs) h1
    exact Sim.val hS h (by simp only [evOp, ev_int hE hv, h2]; rfl) h3
  | _ => cases h

theorem pick_sim (hE : REnv s e pe) (hS : RSto s ps) {c a b : Opd} (h : evS e s z (.pick c a b) k ρ w = some y) : Sim s ps (evOp pe ps z (.pick c a b)) k ρ w y := by
  simp only [evS] at h
  generalize hv : opdS e c = v at h
  cases v with
  | bool x =>
    rcases condA_some h with ⟨rfl, h⟩ | ⟨rfl, h⟩
    · exact Sim.val hS h (by simp only [evOp, ev_bool hE hv]) (opdS_R hE a)
    · exact Sim.val hS h (by simp only [evOp, ev_bool hE hv]) (opdS_R hE b)
  | _ => cases h

end
end Go.Vm

/- Operation by operation, second part: elements, blocks, slices, sets. -/
namespace Go.Vm
section
variable {R' ρ : Type} {w : R' → ρ} {y : ρ} {s : List SB} {ps : Sto} {e : SE} {pe : Env} {z : List Nat} {k : SRes → Ans R'}

theorem RSto.arr (hS : RSto s ps) {t : Nat} {r : List PT} {l : List (RT r)} (h : s[t]? = some (.arr r l)) : ps[t]? = some (.arr r.length (l.map (RT.pv r))) := by
  obtain ⟨q, h1, h2⟩ := hS.at_ t _ h
  rw [show q = _ from h2] at h1; exact h1
theorem RSto.box (hS : RSto s ps) {t : Nat} {cs : List SV} (h : s[t]? = some (.box cs)) : ∃ q, ps[t]? = some (.box q) ∧ RL s cs q := by
  obtain ⟨q, h1, q', rfl, h2⟩ := hS.at_ t _ h
  exact ⟨q', h1, h2⟩
theorem RSto.set_ (hS : RSto s ps) {t : Nat} {l : List (List Int)} (h : s[t]? = some (.set l)) : ps[t]? = some (.map (l.map entL)) := by
  obtain ⟨q, h1, h2⟩ := hS.at_ t _ h
  rw [show q = _ from h2] at h1; exact h1

theorem OwnAt.inv {t e n : Nat} {r : List PT} {l : List (RT r)} (h : OwnAt s t e n) (hs : s[t]? = some (.arr r l)) : e = r.length ∧ n = l.length := by
  rcases h with ⟨q, m, h1, rfl, rfl⟩ | h1
  · rw [hs] at h1; injection h1 with h1; cases h1; exact ⟨rfl, rfl⟩
  · rw [hs] at h1; cases h1
theorem EszAt.inv {t e : Nat} {r : List PT} {l : List (RT r)} (h : EszAt s t e) (hs : s[t]? = some (.arr r l)) : e = r.length := by
  rcases h with ⟨q, m, h1, rfl⟩ | h1
  · rw [hs] at h1; injection h1 with h1; cases h1; rfl
  · rw [hs] at h1; cases h1
theorem RowIs.inv {t : Nat} {q r : List PT} {i : Int} {a : RT q} {l : List (RT r)} (h : RowIs s t q i a) (hs : s[t]? = some (.arr r l)) : ∃ e : q = r, geti l i = some (e ▸ a) := by
  rcases h with ⟨m, h1, h2⟩ | h1
  · rw [hs] at h1; injection h1 with h1; cases h1; exact ⟨rfl, h2⟩
  · rw [hs] at h1; cases h1
theorem InIs.inv {t : Nat} {r : List PT} {i : Int} {l : List (RT r)} (h : InIs s t i) (hs : s[t]? = some (.arr r l)) : (geti l i).isSome = true := by
  rcases h with ⟨q, m, h1, h2⟩ | h1
  · rw [hs] at h1; injection h1 with h1; cases h1; exact h2
  · rw [hs] at h1; cases h1

theorem asNat_int {a : IntKind} {n : Nat} : asNat (.int a (Int.ofNat n)) = some n := rfl

theorem geti_take {α : Type} {l : List α} {n : Nat} {i : Int} {a : α} (h : geti (l.take n) i = some a) : ∃ m : Nat, i = Int.ofNat m ∧ m < n ∧ l[m]? = some a := by
  obtain ⟨m, rfl, hm⟩ := geti_some h
  have hlt := (List.getElem?_eq_some_iff.1 hm).1
  rw [List.length_take] at hlt
  have hmn : m < n := by omega
  rw [List.getElem?_take_of_lt hmn] at hm
  exact ⟨m, rfl, hmn, hm⟩

theorem iadr_sim (hE : REnv s e pe) (hS : RSto s ps) {esz : Nat} {x i : Opd} (h : evS e s z (.iadr esz x i) k ρ w = some y) : Sim s ps (evOp pe ps z (.iadr esz x i)) k ρ w y := by
  simp only [evS] at h
  generalize hi : opdS e i = vi at h
  cases vi with
  | int ki n =>
    have hi := ev_int hE hi
    have hx := opdS_R hE x
    dsimp only at h
    unfold iadrS at h
    generalize opdS e x = v at h hx
    cases v with
    | sl r l =>
      obtain ⟨he, h⟩ := bif_some h
      obtain ⟨a, ha, hk⟩ := bindA_some h
      obtain ⟨m, rfl, hm⟩ := geti_some ha
      refine Sim.val hS (p := .rptr (RT.pv r a) 0) hk ?_ ⟨_, rfl, RL_sv r a⟩
      have hr : (l.map (RT.pv r))[m]? = some (RT.pv r a) := by simp [hm]
      simp only [evOp, hi, asNat, show x.ev pe = _ from hx, hr, he, if_true]
    | own t ex =>
      simp only [nth_eq] at h
      generalize hst : s[t]? = b at h
      cases b with
      | none => cases h
      | some b =>
        cases b with
        | arr r l =>
          obtain ⟨he, h⟩ := bif_some h
          obtain ⟨a, ha, hk⟩ := bindA_some h
          obtain ⟨m, rfl, hm⟩ := geti_some ha
          obtain ⟨e', n', hx, hat⟩ := hx
          obtain ⟨rfl, rfl⟩ := hat.inv hst
          have hlt := (List.getElem?_eq_some_iff.1 hm).1
          have h1 : Nat.blt m l.length = true := by simpa using hlt
          refine Sim.val hS (p := .ptr t r.length m 0) hk ?_ ⟨rfl, .inl ⟨l, hst, ha⟩⟩
          simp only [evOp, hi, asNat, hx, h1, he, Bool.and_self, if_true, Nat.zero_add]
        | _ => cases h
    | pre t len cap ex =>
      simp only [nth_eq] at h
      generalize hst : s[t]? = b at h
      cases b with
      | none => cases h
      | some b =>
        cases b with
        | arr r l =>
          obtain ⟨he, h⟩ := bif_some h
          obtain ⟨a, ha, hk⟩ := bindA_some h
          obtain ⟨m, rfl, hlt, hm⟩ := geti_take ha
          obtain ⟨e', hx, hat⟩ := hx
          have := hat.inv hst
          subst this
          have h1 : Nat.blt m len = true := by simpa using hlt
          refine Sim.val hS (p := .ptr t r.length m 0) hk ?_ ⟨rfl, .inl ⟨l, hst, hm⟩⟩
          simp only [evOp, hi, asNat, hx, h1, he, Bool.and_self, if_true, Nat.zero_add]
        | _ => cases h
    | _ => cases h
  | _ => cases h

theorem pickS_some {n : Nat} {i : Int} {j : Nat} {f : Nat → Ans R'} : pickS n i j f ρ w = some y → ∃ m, i = Int.ofNat m ∧ j ≤ m ∧ m < j + n ∧ f m ρ w = some y := by
  induction n generalizing j with
  | zero => intro h; cases h
  | succ n ih =>
    intro h
    rcases condA_some h with ⟨h1, h2⟩ | ⟨_, h2⟩
    · exact ⟨j, by simpa using h1, Nat.le_refl _, by omega, h2⟩
    · obtain ⟨m, h3, h4, h5, h6⟩ := ih h2
      exact ⟨m, h3, by omega, by omega, h6⟩

theorem iadra_sim (hE : REnv s e pe) (hS : RSto s ps) {n esz : Nat} {p i : Opd} (h : evS e s z (.iadra n esz p i) k ρ w = some y) : Sim s ps (evOp pe ps z (.iadra n esz p i)) k ρ w y := by
  simp only [evS] at h
  generalize hi : opdS e i = vi at h
  cases vi with
  | int ki j =>
    have hi := ev_int hE hi
    have hx := opdS_R hE p
    generalize opdS e p = v at h hx
    cases v with
    | bp t m o =>
      obtain ⟨j', rfl, _, h2, h⟩ := pickS_some h
      have h1 : Nat.blt j' n = true := by simp; omega
      exact Sim.val hS h (by simp only [evOp, hi, asNat, h1, if_true, show p.ev pe = _ from hx]) rfl
    | rptr c o =>
      obtain ⟨j', rfl, _, h2, h⟩ := pickS_some h
      have h1 : Nat.blt j' n = true := by simp; omega
      obtain ⟨q, hq, hr⟩ := hx
      exact Sim.val hS h (by simp only [evOp, hi, asNat, h1, if_true, hq]) ⟨q, rfl, hr⟩
    | _ => cases h
  | _ => cases h

theorem idx_sim (hE : REnv s e pe) (hS : RSto s ps) {n esz : Nat} {agg : Option Nat} {x i : Opd} (h : evS e s z (.idx n esz agg x i) k ρ w = some y) : Sim s ps (evOp pe ps z (.idx n esz agg x i)) k ρ w y := by
  simp only [evS] at h
  generalize hi : opdS e i = vi at h
  cases vi with
  | int ki j =>
    have hi := ev_int hE hi
    generalize hx : opdS e x = v at h
    cases v with
    | agg cs =>
      obtain ⟨j', rfl, _, h2, h⟩ := pickS_some h
      have h1 : Nat.blt j' n = true := by simp; omega
      obtain ⟨v, hv, h⟩ := ansO_some h
      obtain ⟨q, hq, hr⟩ := ev_R hE hx
      obtain ⟨p, hp, hpr⟩ := partS_R hr hv
      exact Sim.val hS h (by simp only [evOp, hi, asNat, h1, if_true, hq, hp]; rfl) hpr
    | _ => cases h
  | _ => cases h

theorem sidx_sim (hE : REnv s e pe) (hS : RSto s ps) {x i : Opd} (h : evS e s z (.sidx x i) k ρ w = some y) : Sim s ps (evOp pe ps z (.sidx x i)) k ρ w y := by
  simp only [evS] at h
  generalize hi : opdS e i = vi at h
  cases vi with
  | int ki j =>
    have hi := ev_int hE hi
    generalize hx : opdS e x = v at h
    cases v with
    | str t =>
      obtain ⟨b, hb, h⟩ := bindA_some h
      have hx := ev_R hE hx
      cases j with
      | negSucc _ => cases hb
      | ofNat m =>
        simp only [strAt, Option.map_eq_some_iff] at hb
        obtain ⟨c, hc, rfl⟩ := hb
        exact Sim.val hS h (by simp only [evOp, hi, asNat, show x.ev pe = _ from hx, hc]) rfl
    | _ => cases h
  | _ => cases h

theorem load_sim (hE : REnv s e pe) (hS : RSto s ps) {agg : Option Nat} {p : Opd} (h : evS e s z (.load agg p) k ρ w = some y) : Sim s ps (evOp pe ps z (.load agg p)) k ρ w y := by
  simp only [evS] at h
  have hx := opdS_R hE p
  unfold loadS at h
  generalize opdS e p = v at h hx
  cases v with
  | bp t n off =>
    simp only [nth_eq] at h
    generalize hst : s[t]? = b at h
    cases b with
    | none => cases h
    | some b =>
      cases b with
      | box cs =>
        obtain ⟨v, hv, h⟩ := ansO_some h
        obtain ⟨q, h1, h2⟩ := hS.box hst
        obtain ⟨u, h3, h4⟩ := partS_R h2 hv
        refine Sim.rd hS h ?_ h4
        show loadE ps agg (p.ev pe) = _
        rw [show p.ev pe = _ from hx]
        simp only [loadE, h1, Nat.beq_refl, if_true, h3]
        rfl
      | _ => cases h
  | pa t r i a off =>
    simp only [nth_eq] at h
    generalize hst : s[t]? = b at h
    cases b with
    | none => cases h
    | some b =>
      cases b with
      | arr q l =>
        obtain ⟨v, hv, hk⟩ := ansO_some h
        obtain ⟨hx, hat⟩ := hx
        obtain ⟨rfl, hg⟩ := hat.inv hst
        obtain ⟨u, h3, h4⟩ := partS_R (RL_sv r a) hv
        obtain ⟨m, rfl, hm⟩ := geti_some hg
        refine Sim.rd hS hk ?_ h4
        show loadE ps agg (p.ev pe) = _
        rw [hx]
        have hm' : (l.map (RT.pv r))[m]? = some (RT.pv r a) := by simp [hm]
        have e1 : (Int.ofNat m).toNat = m := rfl
        simp only [loadE, hS.arr hst, e1, hm', h3]
        rfl
      | _ => cases h
  | pb t i off =>
    simp only [nth_eq] at h
    generalize hst : s[t]? = b at h
    cases b with
    | none => cases h
    | some b =>
      cases b with
      | arr r l =>
        obtain ⟨a, ha, h⟩ := bindA_some h
        obtain ⟨v, hv, hk⟩ := ansO_some h
        obtain ⟨e', hx, hat⟩ := hx
        obtain ⟨u, h3, h4⟩ := partS_R (RL_sv r a) hv
        obtain ⟨m, rfl, hm⟩ := geti_some ha
        refine Sim.rd hS hk ?_ h4
        show loadE ps agg (p.ev pe) = _
        rw [hx]
        have hm' : (l.map (RT.pv r))[m]? = some (RT.pv r a) := by simp [hm]
        have e1 : (Int.ofNat m).toNat = m := rfl
        simp only [loadE, hS.arr hst, e1, hm', h3]
        rfl
      | _ => cases h
  | rptr cs off =>
    obtain ⟨v, hv, h⟩ := ansO_some h
    obtain ⟨q, hq, hr⟩ := hx
    obtain ⟨u, h3, h4⟩ := partS_R hr hv
    refine Sim.val hS h ?_ h4
    show loadE ps agg (p.ev pe) = _
    rw [hq]
    simp only [loadE, h3]
    rfl
  | _ => cases h

/-- A row that is written. -/
theorem put_row (hS : RSto s ps) {t : Nat} {r : List PT} {l : List (RT r)} (hst : s[t]? = some (.arr r l)) {i : Int} {b : RT r} {rd : List Nat} :
    Good s ps { v := .undef, wr := [(t, .arr r (seti l i b))], rd } { v := .undef, wr := [(t, .arr r.length ((l.map (RT.pv r)).set i.toNat (RT.pv r b)))], rd } :=
  Good.put0 hS hst (.inl ⟨_, rfl, by simp⟩) (by show _ = _; simp [seti, List.map_set])

theorem store_sim (hE : REnv s e pe) (hS : RSto s ps) {sz : Nat} {p x : Opd} (h : evS e s z (.store sz p x) k ρ w = some y) : Sim s ps (evOp pe ps z (.store sz p x)) k ρ w y := by
  simp only [evS] at h
  have hx := opdS_R hE p
  have hv := opdS_R hE x
  unfold storeS at h
  generalize opdS e p = v at h hx
  generalize opdS e x = u at h hv
  cases v with
  | bp t n off =>
    simp only [nth_eq] at h
    generalize hst : s[t]? = b at h
    cases b with
    | none => cases h
    | some b =>
      cases b with
      | box cs =>
        obtain ⟨w', hw, h⟩ := ansO_some h
        obtain ⟨hc, h⟩ := bif_some h
        obtain ⟨q, h1, h2⟩ := hv.stored hw
        obtain ⟨b, h3, h4⟩ := hS.box hst
        have hfr := Fr.dg (ts := [t]) (Fr.set (b := .box (spliceS off w' cs)) hst trivial)
        refine ⟨_, _, ?_, Good.put0 hS (b := .box (spliceS off w' cs)) (q := .box (splice off q b)) (rd := []) hst trivial ⟨_, rfl, RL.fr hfr (spliceS_R h2 h4)⟩, h⟩
        · show storeE ps z sz (x.ev pe) (p.ev pe) = _
          rw [show p.ev pe = _ from hx]
          simp only [storeE, h3, h1, h2.length, h4.length]
          rw [if_pos (by simpa using hc)]
      | _ => cases h
  | pa t r i a off =>
    simp only [nth_eq] at h
    generalize hst : s[t]? = b at h
    cases b with
    | none => cases h
    | some b =>
      cases b with
      | arr q l =>
        obtain ⟨hc, h⟩ := bif_some h
        obtain ⟨a', ha', hk⟩ := ansO_some h
        obtain ⟨hx, hat⟩ := hx
        obtain ⟨rfl, hg⟩ := hat.inv hst
        obtain ⟨m, rfl, hm⟩ := geti_some hg
        refine ⟨_, _, ?_, put_row hS hst (rd := []), hk⟩
        show storeE ps z sz (x.ev pe) (p.ev pe) = _
        rw [hx]
        have hm' : (l.map (RT.pv r))[m]? = some (RT.pv r a) := by simp [hm]
        have e1 : (Int.ofNat m).toNat = m := rfl
        simp only [Bool.and_eq_true, Bool.not_eq_true'] at hc
        obtain ⟨⟨c1, c2⟩, c3⟩ := hc
        have hj : u ≠ .junk := by
          intro e; subst e
          have := RT.of_some ha'
          have hq := congrArg (fun l => l[off]?) this
          have hle := Nat.le_of_ble_eq_true c2
          have hsz : sz = 1 := by have := Nat.eq_of_beq_eq_true c1; simpa [SV.cells] using this.symm
          have hlt : off < r.length := by omega
          have hl1 : off < (RT.sv r a).length := by rw [RT.sv_len]; exact hlt
          simp only [spliceS, SV.cells] at hq
          rw [List.getElem?_append_left (by simp; omega), List.getElem?_append_right (by simp; omega)] at hq
          simp only [List.length_take, Nat.min_eq_left (Nat.le_of_lt hl1), Nat.sub_self, List.getElem?_cons_zero] at hq
          have : ∀ (r : List PT) (b : RT r) (n : Nat), (RT.sv r b)[n]? ≠ some .junk := by
            intro r
            induction r with
            | nil => intro b n h; simp [RT.sv] at h
            | cons p rest ih =>
              intro b n
              cases rest with
              | nil => cases n <;> cases p <;> simp [RT.sv, PT.sv]
              | cons p2 rest2 => cases n with
                | zero => cases p <;> simp [RT.sv, PT.sv]
                | succ n => simpa [RT.sv] using ih b.2 n
          exact this r a' off hq.symm
        have hcells := hv.cells hj
        have hrow := RT.of_some ha'
        have h5 : RL s (RT.sv r a') (splice off (x.ev pe).cells (RT.pv r a)) := by
          rw [← hrow]; exact spliceS_R hcells (RL_sv r a)
        have h6 := RL_sv_inv r a' h5
        have hplain : (x.ev pe).storedPlain = some (x.ev pe).cells := by
          unfold PV.storedPlain
          rw [if_pos ?_]
          have hall := RT.plain r a'
          rw [← h6] at hall
          unfold splice at hall
          simp only [List.all_append, Bool.and_eq_true] at hall
          exact hall.1.2
        simp only [storeE, hS.arr hst, e1, hm', hplain, hcells.length, RT.pv_len]
        rw [if_pos (by simp [c1, c2, c3])]
        simp only [h6]
      | _ => cases h
  | pb t i off =>
    simp only [nth_eq] at h
    generalize hst : s[t]? = b at h
    cases b with
    | none => cases h
    | some b =>
      cases b with
      | arr r l =>
        obtain ⟨hc, h⟩ := bif_some h
        obtain ⟨e', hx, hat⟩ := hx
        have hin := hat.inv hst
        rw [Option.isSome_iff_exists] at hin
        obtain ⟨a0, hg⟩ := hin
        obtain ⟨m, rfl, hm⟩ := geti_some hg
        have hm' : (l.map (RT.pv r))[m]? = some (RT.pv r a0) := by simp [hm]
        have e1 : (Int.ofNat m).toNat = m := rfl
        simp only [Bool.and_eq_true, Bool.not_eq_true'] at hc
        obtain ⟨⟨c1, c2⟩, c3⟩ := hc
        cases hsz : Nat.beq sz r.length with
        | true =>
          rw [hsz] at h
          obtain ⟨a', ha', hk⟩ := ansO_some h
          obtain ⟨hp, hl⟩ := hv.ofRow ha'
          have hszr := Nat.eq_of_beq_eq_true hsz
          have hoff : off = 0 := by have := Nat.le_of_ble_eq_true c2; omega
          subst hoff
          refine ⟨_, _, ?_, put_row hS hst (rd := []), hk⟩
          show storeE ps z sz (x.ev pe) (p.ev pe) = _
          rw [hx]
          simp only [storeE, hS.arr hst, e1, hm', hp, RT.pv_len]
          rw [if_pos (by rw [Nat.zero_add, hszr]; simp [c3])]
          have : splice 0 (RT.pv r a') (RT.pv r a0) = RT.pv r a' := by
            unfold splice
            rw [RT.pv_len, List.drop_of_length_le (by rw [RT.pv_len]; omega)]; simp
          rw [this]
        | false =>
          rw [hsz] at h
          obtain ⟨a, ha, h⟩ := bindA_some h
          obtain ⟨a', ha', hk⟩ := ansO_some h
          rw [hg] at ha; injection ha with ha; subst ha
          refine ⟨_, _, ?_, put_row hS hst (rd := []), hk⟩
          show storeE ps z sz (x.ev pe) (p.ev pe) = _
          rw [hx]
          have hj : u ≠ .junk := by
            intro e; subst e
            have := RT.of_some ha'
            have hq := congrArg (fun l => l[off]?) this
            have hle := Nat.le_of_ble_eq_true c2
            have hsz : sz = 1 := by have := Nat.eq_of_beq_eq_true c1; simpa [SV.cells] using this.symm
            have hlt : off < r.length := by omega
            have hl1 : off < (RT.sv r a0).length := by rw [RT.sv_len]; exact hlt
            simp only [spliceS, SV.cells] at hq
            rw [List.getElem?_append_left (by simp; omega), List.getElem?_append_right (by simp; omega)] at hq
            simp only [List.length_take, Nat.min_eq_left (Nat.le_of_lt hl1), Nat.sub_self, List.getElem?_cons_zero] at hq
            have : ∀ (r : List PT) (b : RT r) (n : Nat), (RT.sv r b)[n]? ≠ some .junk := by
              intro r
              induction r with
              | nil => intro b n h; simp [RT.sv] at h
              | cons p rest ih =>
                intro b n
                cases rest with
                | nil => cases n <;> cases p <;> simp [RT.sv, PT.sv]
                | cons p2 rest2 => cases n with
                  | zero => cases p <;> simp [RT.sv, PT.sv]
                  | succ n => simpa [RT.sv] using ih b.2 n
            exact this r a' off hq.symm
          have hcells := hv.cells hj
          have hrow := RT.of_some ha'
          have h5 : RL s (RT.sv r a') (splice off (x.ev pe).cells (RT.pv r a0)) := by
            rw [← hrow]; exact spliceS_R hcells (RL_sv r a0)
          have h6 := RL_sv_inv r a' h5
          have hplain : (x.ev pe).storedPlain = some (x.ev pe).cells := by
            unfold PV.storedPlain
            rw [if_pos ?_]
            have hall := RT.plain r a'
            rw [← h6] at hall
            unfold splice at hall
            simp only [List.all_append, Bool.and_eq_true] at hall
            exact hall.1.2
          simp only [storeE, hS.arr hst, e1, hm', hplain, hcells.length, RT.pv_len]
          rw [if_pos (by simp [c1, c2, c3])]
          simp only [h6]
      | _ => cases h
  | _ => cases h

end
end Go.Vm

/- Operation by operation, third part: slices, new blocks, append, sets; all of them together. -/
namespace Go.Vm
section
variable {R' ρ : Type} {w : R' → ρ} {y : ρ} {s : List SB} {ps : Sto} {e : SE} {pe : Env} {z : List Nat} {k : SRes → Ans R'}

def bndE (pe : Env) (o : Option Opd) : Option (Option Nat) := match o with | none => some none | some a => (asNat (a.ev pe)).map some

theorem boundI_R (hE : REnv s e pe) {o : Option Opd} {d a : Int} {n : Nat} (h : boundI e d o = some a) (hd : d = Int.ofNat n) (h0 : 0 ≤ a) : ∃ b, bndE pe o = some b ∧ b.getD n = a.toNat := by
  cases o with
  | none =>
    injection h with h; subst h hd
    exact ⟨none, rfl, rfl⟩
  | some x =>
    simp only [boundI] at h
    split at h
    · rename_i ka m hx
      injection h with h; subst h
      obtain ⟨b, rfl⟩ := Int.eq_ofNat_of_zero_le h0
      refine ⟨some b, ?_, rfl⟩
      simp only [bndE, ev_int hE hx]
      rfl
    · cases h

theorem slc_ev {esz : Nat} {x : Opd} {lo hi mx : Option Opd} {l h m : Option Nat} {v : PV} (he : eszOk esz (x.ev pe) = true) (h1 : bndE pe lo = some l) (h2 : bndE pe hi = some h) (h3 : bndE pe mx = some m) (hv : sliceE (x.ev pe) l h m = some v) :
    evOp pe ps z (.slc esz x lo hi mx) = some { v := v } := by
  have e : evOp pe ps z (.slc esz x lo hi mx) = (match bndE pe lo, bndE pe hi, bndE pe mx with | some l, some h, some m => (sliceE (x.ev pe) l h m).map fun v => ({ v } : Res) | _, _, _ => none) := by
    simp only [evOp, he, Bool.not_true, Bool.false_eq_true, if_false]
    rfl
  rw [e, h1, h2, h3]
  simp only [hv]
  rfl

theorem sliceO_inv {α : Type} {l r : List α} {lo hi : Int} (h : sliceO l lo hi = some r) : ∃ a b : Nat, lo = Int.ofNat a ∧ hi = Int.ofNat b ∧ a ≤ b ∧ b ≤ l.length ∧ r = (l.drop a).take (b - a) := by
  unfold sliceO at h
  split at h
  · rename_i hc
    obtain ⟨a, rfl⟩ := Int.eq_ofNat_of_zero_le hc.1
    obtain ⟨b, rfl⟩ := Int.eq_ofNat_of_zero_le (Int.le_trans hc.1 hc.2.1)
    injection h with h
    exact ⟨a, b, rfl, rfl, by omega, by omega, by rw [← h]; simp⟩
  · cases h

theorem cut_sim (hE : REnv s e pe) (hS : RSto s ps) {esz t off len cap : Nat} {ex : Bool} {x : Opd} {lo hi mx : Option Opd} (hx : x.ev pe = .own t esz off len cap ex) (hat : EszAt s t esz) (h : cutS e t off len cap ex lo hi mx k ρ w = some y) :
    Sim s ps (evOp pe ps z (.slc esz x lo hi mx)) k ρ w y := by
  unfold cutS at h
  obtain ⟨a, ha, h⟩ := ansO_some h
  obtain ⟨b, hb, h⟩ := ansO_some h
  have he : eszOk esz (x.ev pe) = true := by rw [hx]; simp [eszOk]
  cases mx with
  | none =>
    obtain ⟨hc, h⟩ := condF_some h
    simp only [Bool.and_eq_true, decide_eq_true_eq] at hc
    obtain ⟨⟨c1, c2⟩, c3⟩ := hc
    obtain ⟨l, h1, h2⟩ := boundI_R hE (n := 0) ha rfl c1
    obtain ⟨u, h3, h4⟩ := boundI_R hE (n := len) hb rfl (Int.le_trans c1 c2)
    refine Sim.val hS h (slc_ev he h1 h3 (m := none) rfl ?_) ⟨esz, rfl, hat⟩
    rw [hx]
    have c4 : (Nat.ble a.toNat b.toNat && Nat.ble b.toNat cap) = true := by
      have c3' : b ≤ (cap : Int) := c3
      simp; omega
    simp only [sliceE, h2, h4, c4, if_true]
  | some mo =>
    dsimp only at h
    generalize hm : opdS e mo = vm at h
    cases vm with
    | int km c =>
      obtain ⟨hc, h⟩ := condF_some h
      simp only [Bool.and_eq_true, decide_eq_true_eq] at hc
      obtain ⟨⟨⟨c1, c2⟩, c3⟩, c4⟩ := hc
      obtain ⟨l, h1, h2⟩ := boundI_R hE (n := 0) ha rfl c1
      obtain ⟨u, h3, h4⟩ := boundI_R hE (n := len) hb rfl (Int.le_trans c1 c2)
      have hc0 : 0 ≤ c := Int.le_trans (Int.le_trans c1 c2) c3
      obtain ⟨c, rfl⟩ := Int.eq_ofNat_of_zero_le hc0
      refine Sim.val hS h (slc_ev he h1 h3 (m := some c) (by simp only [bndE, ev_int hE hm]; rfl) ?_) ⟨esz, rfl, hat⟩
      rw [hx]
      have c5 : (Nat.ble a.toNat b.toNat && Nat.ble b.toNat c && Nat.ble c cap) = true := by
        have c4' : (c : Int) ≤ (cap : Int) := c4
        simp; omega
      simp only [sliceE, h2, h4, c5, if_true]
      rfl
    | _ => cases h

theorem slc_sim (hE : REnv s e pe) (hS : RSto s ps) {esz : Nat} {x : Opd} {lo hi mx : Option Opd} (h : evS e s z (.slc esz x lo hi mx) k ρ w = some y) : Sim s ps (evOp pe ps z (.slc esz x lo hi mx)) k ρ w y := by
  simp only [evS] at h
  have hx := opdS_R hE x
  unfold slcS at h
  generalize opdS e x = v at h hx
  cases v with
  | sl r l =>
    cases mx with
    | some _ => cases h
    | none =>
      dsimp only at h
      obtain ⟨he, h⟩ := bif_some h
      have he := Nat.eq_of_beq_eq_true he
      obtain ⟨a, ha, h⟩ := ansO_some h
      obtain ⟨b, hb, h⟩ := ansO_some h
      obtain ⟨m, hm, hk⟩ := bindA_some h
      obtain ⟨n1, n2, rfl, rfl, c1, c2, rfl⟩ := sliceO_inv hm
      obtain ⟨u1, h1, h2⟩ := boundI_R hE (n := 0) ha rfl (by simp)
      obtain ⟨u2, h3, h4⟩ := boundI_R hE (n := l.length) hb rfl (by simp)
      have hx' : x.ev pe = .sl r.length false (l.map (RT.pv r)) := hx
      subst he
      refine Sim.val hS (p := .sl r.length false ((((l.drop n1).take (n2 - n1))).map (RT.pv r))) hk (slc_ev (m := none) (by rw [hx']; simp [eszOk]) h1 h3 rfl ?_) rfl
      rw [hx']
      have h2' : u1.getD 0 = n1 := by rw [h2]; rfl
      have h4' : u2.getD (l.map (RT.pv r)).length = n2 := by rw [List.length_map, h4]; rfl
      have c3 : (Nat.ble n1 n2 && Nat.ble n2 (l.map (RT.pv r)).length) = true := by simp [c1, c2]
      simp only [sliceE, h2', h4', c3, if_true, Bool.false_and, List.map_take, List.map_drop]
  | own t ex =>
    simp only [nth_eq] at h
    generalize hst : s[t]? = b at h
    cases b with
    | none => cases h
    | some b =>
      cases b with
      | arr r l =>
        dsimp only at h
        obtain ⟨he, hk⟩ := bif_some h
        have he := Nat.eq_of_beq_eq_true he
        obtain ⟨e', n', hx, hat⟩ := hx
        obtain ⟨rfl, rfl⟩ := hat.inv hst
        subst he
        have hesz : EszAt s t r.length := .inl ⟨r, l, hst, rfl⟩
        have gen : cutS e t 0 l.length l.length ex lo hi mx k ρ w = some y → Sim s ps (evOp pe ps z (.slc r.length x lo hi mx)) k ρ w y := fun h => cut_sim hE hS hx hesz h
        have he : eszOk r.length (x.ev pe) = true := by rw [hx]; simp [eszOk]
        cases mx with
        | some m => cases lo <;> cases hi <;> exact gen hk
        | none =>
          cases lo with
          | some _ => cases hi <;> exact gen hk
          | none =>
            cases hi with
            | none =>
              refine Sim.val hS hk (slc_ev (l := none) (h := none) (m := none) he rfl rfl rfl ?_) ⟨r.length, l.length, rfl, hat⟩
              rw [hx]
              simp [sliceE]
            | some ho =>
              dsimp only at hk
              generalize hh : opdS e ho = vh at hk
              cases vh with
              | int kh b =>
                obtain ⟨m, hm, hk⟩ := bindA_some hk
                obtain ⟨n1, n2, h0, rfl, c1, c2, rfl⟩ := sliceO_inv hm
                refine Sim.val hS hk (slc_ev (l := none) (h := some n2) (m := none) he rfl (by simp only [bndE, ev_int hE hh]; rfl) rfl ?_) ⟨r.length, rfl, hesz⟩
                rw [hx]
                have c3 : (Nat.ble 0 n2 && Nat.ble n2 l.length) = true := by simp [c2]
                simp only [sliceE, Option.getD_none, Option.getD_some, c3, if_true]
                rfl
              | _ => cases hk
      | _ => cases h
  | pre t len cap ex =>
    simp only [nth_eq] at h
    generalize hst : s[t]? = b at h
    cases b with
    | none => cases h
    | some b =>
      cases b with
      | arr r l =>
        dsimp only at h
        obtain ⟨he, hk⟩ := bif_some h
        have he := Nat.eq_of_beq_eq_true he
        obtain ⟨e', hx, hat⟩ := hx
        have := hat.inv hst
        subst this
        subst he
        have gen : cutS e t 0 len cap ex lo hi mx k ρ w = some y → Sim s ps (evOp pe ps z (.slc r.length x lo hi mx)) k ρ w y := fun h => cut_sim hE hS hx hat h
        have he : eszOk r.length (x.ev pe) = true := by rw [hx]; simp [eszOk]
        cases mx with
        | some m => cases lo <;> cases hi <;> exact gen hk
        | none =>
          cases lo with
          | some _ => cases hi <;> exact gen hk
          | none =>
            cases hi with
            | none =>
              obtain ⟨hlc, hk⟩ := condF_some hk
              refine Sim.val hS hk (slc_ev (l := none) (h := none) (m := none) he rfl rfl rfl ?_) ⟨r.length, rfl, hat⟩
              rw [hx]
              have c3 : (Nat.ble 0 len && Nat.ble len cap) = true := by simp [hlc]
              simp only [sliceE, Option.getD_none, c3, if_true]
              simp
            | some ho =>
              dsimp only at hk
              generalize hh : opdS e ho = vh at hk
              cases vh with
              | int kh b =>
                obtain ⟨hc, hk⟩ := condF_some hk
                simp only [Bool.and_eq_true, decide_eq_true_eq] at hc
                obtain ⟨c1, c2⟩ := hc
                obtain ⟨b, rfl⟩ := Int.eq_ofNat_of_zero_le c1
                refine Sim.val hS hk (slc_ev (l := none) (h := some b) (m := none) he rfl (by simp only [bndE, ev_int hE hh]; rfl) rfl ?_) ⟨r.length, rfl, hat⟩
                rw [hx]
                have c3 : (Nat.ble 0 b && Nat.ble b cap) = true := by
                  have c2' : (b : Int) ≤ (cap : Int) := c2
                  simp; omega
                simp only [sliceE, Option.getD_none, Option.getD_some, c3, if_true]
                rfl
              | _ => cases hk
      | _ => cases h
  | part t off len cap ex =>
    simp only [nth_eq] at h
    generalize hst : s[t]? = b at h
    cases b with
    | none => cases h
    | some b =>
      cases b with
      | arr r l =>
        dsimp only at h
        obtain ⟨he, hk⟩ := bif_some h
        have he := Nat.eq_of_beq_eq_true he
        obtain ⟨e', hx, hat⟩ := hx
        have := hat.inv hst
        subst this
        subst he
        exact cut_sim hE hS hx hat hk
      | _ => cases h
  | _ => cases h

theorem last_get {b : SB} : (s ++ [b])[s.length]? = some b := by simp

theorem ptOf_ok : ∀ {v : PV} {p : PT}, ptOf v = some p → p.pv p.zero = v
  | .int k n, p, h => by
    simp only [ptOf] at h
    split at h
    · injection h with h; subst h; rfl
    · cases h
  | .bool b, p, h => by
    simp only [ptOf] at h
    split at h
    · injection h with h; subst h; rfl
    · cases h
  | .undef, _, h | .nul, _, h | .str _, _, h | .agg _, _, h | .tup _, _, h | .sl _ _ _, _, h | .own _ _ _ _ _ _, _, h | .ptr _ _ _ _, _, h | .rptr _ _, _, h | .mp _, _, h | .clo _ _ _, _, h | .nilf, _, h => by cases h
theorem ptsOf_ok : ∀ {l : List PV} {r : List PT}, ptsOf l = some r → RT.pv r (RT.zero r) = l
  | [], r, h => by injection h with h; subst h; rfl
  | v :: vs, r, h => by
    simp only [ptsOf] at h
    split at h
    · rename_i p q h1 h2
      injection h with h; subst h
      have e1 := ptOf_ok h1
      have e2 := ptsOf_ok h2
      cases q with
      | nil =>
        have : vs = [] := by
          cases vs with
          | nil => rfl
          | cons a b => simp only [RT.pv] at e2; cases e2
        subst this
        show [p.pv p.zero] = _
        rw [e1]
      | cons p2 q2 =>
        show p.pv p.zero :: RT.pv (p2 :: q2) (RT.zero (p2 :: q2)) = _
        rw [e1, e2]
    · cases h

theorem mks_sim (hE : REnv s e pe) (hS : RSto s ps) {esz : Nat} {zero : Row} {l c : Opd} (h : evS e s z (.mks esz zero l c) k ρ w = some y) : Sim s ps (evOp pe ps z (.mks esz zero l c)) k ρ w y := by
  simp only [evS] at h
  generalize hl : opdS e l = vl at h
  cases vl with
  | int kl n =>
    generalize hc : opdS e c = vc at h
    cases vc with
    | int kc m =>
      obtain ⟨hnm, h1⟩ := condF_some h
      obtain ⟨r, hr, h2⟩ := ansO_some h1
      obtain ⟨he, h3⟩ := bif_some h2
      obtain ⟨x, hx, hk⟩ := bindA_some h3
      have hnm : n = m := by simpa using hnm
      subst hnm
      have he := Nat.eq_of_beq_eq_true he
      subst he
      unfold makeO at hx
      split at hx
      · rename_i hc2
        injection hx with hx; subst hx
        obtain ⟨a, rfl⟩ := Int.eq_ofNat_of_zero_le hc2.1
        have h1 : (Nat.ble a a && Nat.ble a most) = true := by simp [most]; omega
        refine ⟨_, _, ?_, Good.new hS (b := .arr r (List.replicate (Int.ofNat a).toNat (RT.zero r))) (q := .arr r.length (List.replicate a zero)) (v := .own s.length true) (p := .own s.length r.length 0 a a true) (rd := []) ?_ ?_, hk⟩
        · have e1 : asNat (.int kl (a : Int)) = some a := rfl
          have e2 : asNat (.int kc (a : Int)) = some a := rfl
          simp only [evOp, ev_int hE hl, ev_int hE hc, e1, e2]
          rw [if_pos h1, hS.len]
        · show _ = _
          simp [ptsOf_ok hr]
        · exact ⟨r.length, a, rfl, .inl ⟨r, _, last_get, rfl, by simp⟩⟩
      · cases hx
    | _ => cases h
  | _ => cases h

def setAll {α : Type} : List α → List (Nat × α) → List α
  | l, [] => l
  | l, (i, a) :: r => setAll (l.set i a) r
theorem setAll_get {α : Type} : ∀ (q : List (Nat × α)) (l : List α) (i : Nat), (setAll l q)[i]? = (l[i]?).map fun z => rowAt i z q
  | [], l, i => by simp [setAll, rowAt]
  | (j, a) :: q, l, i => by
    simp only [setAll, rowAt]
    rw [setAll_get q (l.set j a) i, List.getElem?_set]
    by_cases hji : j = i
    · subst hji
      cases hl : l[j]? with
      | none =>
        have : ¬ j < l.length := by intro h; rw [List.getElem?_eq_getElem h] at hl; cases hl
        simp [this]
      | some z =>
        have : j < l.length := (List.getElem?_eq_some_iff.1 hl).1
        simp [this]
    · have : Nat.beq j i = false := by
        cases hb : Nat.beq j i with
        | false => rfl
        | true => exact absurd (Nat.eq_of_beq_eq_true hb) hji
      simp [hji, this]
theorem genL_get {α : Type} (f : Nat → α) : ∀ (n i j : Nat), (genL f i n)[j]? = if j < n then some (f (i + j)) else none
  | 0, i, j => by simp [genL]
  | n + 1, i, 0 => by simp [genL]
  | n + 1, i, j + 1 => by
    simp only [genL, List.getElem?_cons_succ]
    rw [genL_get f n (i + 1) j, show i + 1 + j = i + (j + 1) by omega]
    by_cases h : j < n
    · simp [h]
    · simp [h]
theorem setAll_gen {α : Type} (z : α) (n : Nat) (q : List (Nat × α)) : setAll (List.replicate n z) q = genL (fun i => rowAt i z q) 0 n := by
  apply List.ext_getElem?
  intro i
  rw [setAll_get, genL_get]
  by_cases h : i < n
  · simp [h]
  · simp [h]

theorem fillRows_R (hE : REnv s e pe) {r : List PT} {n : Nat} : ∀ {parts : List (Nat × Opd)} {q : List (Nat × RT r)} {l : List (RT r)}, rowsS r e n parts = some q → l.length = n →
    fillRows (parts.map fun p => (p.1, p.2.ev pe)) (l.map (RT.pv r)) r.length = some ((setAll l q).map (RT.pv r))
  | [], q, l, h, hl => by injection h with h; subst h; rfl
  | p :: parts, q, l, h, hl => by
    simp only [rowsS] at h
    split at h
    · rename_i a q' h1 h2
      cases hb : Nat.blt p.1 n with
      | false => rw [hb] at h; cases h
      | true =>
        rw [hb] at h
        injection h with h; subst h
        have hp := ((opdS_R hE p.2).ofRow h1).1
        simp only [List.map_cons, fillRows, hp, RT.pv_len, List.length_map, hl, hb, Nat.beq_refl, Bool.and_self, if_true, setAll]
        rw [← List.map_set]
        exact fillRows_R hE h2 (by simp [hl])
    · cases h

theorem mkrow_sim (hE : REnv s e pe) (hS : RSto s ps) {esz n : Nat} {zero : Row} {parts : List (Nat × Opd)} (h : evS e s z (.mkrow esz n zero parts) k ρ w = some y) : Sim s ps (evOp pe ps z (.mkrow esz n zero parts)) k ρ w y := by
  simp only [evS] at h
  obtain ⟨r, hr, h1⟩ := ansO_some h
  obtain ⟨he, h2⟩ := bif_some h1
  obtain ⟨q, hq, hk⟩ := ansO_some h2
  have he := Nat.eq_of_beq_eq_true he
  subst he
  have hf := fillRows_R hE (l := List.replicate n (RT.zero r)) hq (by simp)
  rw [setAll_gen] at hf
  have hz : (List.replicate n (RT.zero r)).map (RT.pv r) = List.replicate n zero := by simp [ptsOf_ok hr]
  rw [hz] at hf
  refine ⟨_, _, ?_, Good.new hS (b := .arr r (genL (fun i => rowAt i (RT.zero r) q) 0 n)) (q := .arr r.length ((genL (fun i => rowAt i (RT.zero r) q) 0 n).map (RT.pv r))) (v := .own s.length true) (p := .own s.length r.length 0 n n true) (rd := []) rfl ?_, hk⟩
  · simp only [evOp, hf, hS.len]
    rfl
  · refine ⟨r.length, n, rfl, .inl ⟨r, _, last_get, rfl, ?_⟩⟩
    rw [← setAll_gen]
    have : ∀ (q : List (Nat × RT r)) (l : List (RT r)), (setAll l q).length = l.length := by
      intro q
      induction q with
      | nil => intro l; rfl
      | cons p q ih => intro l; simp [setAll, ih]
    rw [this]; simp

theorem intsS_R : ∀ {cs : List SV} {q : List PV} {l : List Int}, RL s cs q → intsS cs = some l → q = l.map (.int .i64)
  | [], q, l, h, hi => by injection hi with hi; subst hi; exact h
  | x :: xs, q, l, h, hi => by
    obtain ⟨p, q, rfl, h1, h2⟩ := h.cons_inv
    simp only [intsS] at hi
    split at hi
    · rename_i n l' hx
      injection hi with hi; subst hi
      rw [show p = .int .i64 n from h1, intsS_R h2 hx]; rfl
    · cases hi

theorem keyS_R {v : SV} {p : PV} {n : Option Nat} {l : List Int} (h : R s v p) (hk : keyS n v = some l) : p = keyL l ∧ keyOk n (keyL l) = true ∧ (keyL l).storedPlain = some (keyL l).cells ∧ (keyL l).cells = l.map (.int .i64) ∧ (n = none → l.length = 1) ∧ (∀ m, n = some m → l.length = m ∧ m ≠ 1) := by
  cases n with
  | none =>
    cases v with
    | int kk a =>
      cases kk with
      | i64 =>
        injection hk with hk; subst hk
        exact ⟨h, rfl, rfl, rfl, fun _ => rfl, fun m hm => by cases hm⟩
      | _ => cases hk
    | _ => cases hk
  | some m =>
    cases v with
    | agg cs =>
      simp only [keyS] at hk
      cases hc : (Nat.beq cs.length m && !Nat.beq m 1) with
      | false => rw [hc] at hk; cases hk
      | true =>
        rw [hc] at hk
        simp only [cond_true] at hk
        simp only [Bool.and_eq_true, Nat.beq_eq, Bool.not_eq_true'] at hc
        obtain ⟨c1, c2⟩ := hc
        obtain ⟨q, rfl, hq⟩ := h
        have hq' := intsS_R hq hk
        have hlen : l.length = m := by have := hq.length; rw [hq'] at this; simp at this; omega
        have hm1 : m ≠ 1 := by intro e; subst e; cases c2
        have hkl : keyL l = .agg (l.map (.int .i64)) := by
          unfold keyL
          split
          · simp at hlen; omega
          · rfl
        refine ⟨by rw [hkl, hq'], by rw [hkl]; simp [keyOk, hlen], ?_, by rw [hkl]; rfl, (fun h => (by cases h)), fun m' hm => by injection hm with hm; subst hm; exact ⟨hlen, hm1⟩⟩
        rw [hkl]
        unfold PV.storedPlain
        rw [if_pos]
        simp [PV.cells, PV.plain]
    | _ => cases hk

theorem eqCells_ints : ∀ (a b : List Int), a.length = b.length → eqCells (a.map (.int .i64)) (b.map (.int .i64)) = some (a == b)
  | [], [], _ => rfl
  | x :: a, y :: b, h => by
    have ih := eqCells_ints a b (by simpa using h)
    simp only [List.map_cons, eqCells, eqCell, kindEq_refl, if_true]
    cases hxy : x == y with
    | true => simp only [ih]; simp [List.cons_beq_cons, hxy]
    | false => simp [List.cons_beq_cons, hxy]
  | [], _ :: _, h => by simp at h
  | _ :: _, [], h => by simp at h

theorem findIdx_L {n : Option Nat} {a : List Int} (ha : (keyL a).cells = a.map (.int .i64)) (hn : (n = none → a.length = 1) ∧ (∀ m, n = some m → a.length = m ∧ m ≠ 1)) : ∀ (l : List (List Int)) (i : Nat), (∀ r, findIdx n (keyL a) (l.map entL) i = some r → (match r with | none => hasL l a = false | some j => i ≤ j ∧ hasL l a = true ∧ l[j - i]? = some a))
  | [], i, r, h => by
    simp only [List.map_nil, findIdx, Option.some.injEq] at h
    subst h; rfl
  | b :: l, i, r, h => by
    simp only [List.map_cons, entL, findIdx] at h
    split at h
    · rename_i hk
      -- the shapes are the same
      have hb : (keyL b).cells = b.map (.int .i64) ∧ a.length = b.length := by
        cases n with
        | none =>
          have hl := hn.1 rfl
          unfold keyL at hk ⊢
          split at hk
          · exact ⟨rfl, by simpa using hl⟩
          · cases hk
        | some m =>
          obtain ⟨hl, hm⟩ := hn.2 m rfl
          unfold keyL at hk ⊢
          split at hk
          · cases hk
          · simp only [keyOk, List.length_map, Nat.beq_eq] at hk
            exact ⟨rfl, by omega⟩
      rw [ha, hb.1, eqCells_ints a b hb.2] at h
      cases hab : a == b with
      | true =>
        rw [hab] at h
        injection h with h; subst h
        have : a = b := by simpa using hab
        subst this
        exact ⟨Nat.le_refl _, by simp [hasL], by simp⟩
      | false =>
        rw [hab] at h
        have := findIdx_L ha hn l (i + 1) r h
        cases r with
        | none => simpa [hasL, hab] using this
        | some j =>
          obtain ⟨h1, h2, h3⟩ := this
          refine ⟨by omega, by simp only [hasL] at h2; simp [hasL, h2], ?_⟩
          rw [show j - i = (j - (i + 1)) + 1 by omega]; simpa using h3
    · cases h


theorem findIdx_some {n : Option Nat} {a : List Int} (ha : (keyL a).cells = a.map (.int .i64)) (hn : (n = none → a.length = 1) ∧ (∀ m, n = some m → a.length = m ∧ m ≠ 1)) {l : List (List Int)} (hl : l.all (fun b => keyOk n (keyL b)) = true) : ∀ i, ∃ r, findIdx n (keyL a) (l.map entL) i = some r := by
  induction l with
  | nil => intro i; exact ⟨none, rfl⟩
  | cons b l ih =>
    intro i
    simp only [List.all_cons, Bool.and_eq_true] at hl
    obtain ⟨r, hr⟩ := ih hl.2 (i + 1)
    simp only [List.map_cons, entL, findIdx, hl.1, if_true]
    have hb : (keyL b).cells = b.map (.int .i64) ∧ a.length = b.length := by
      have hk := hl.1
      cases n with
      | none =>
        have hl' := hn.1 rfl
        unfold keyL at hk ⊢
        split at hk
        · exact ⟨rfl, by simpa using hl'⟩
        · cases hk
      | some m =>
        obtain ⟨hl', hm⟩ := hn.2 m rfl
        unfold keyL at hk ⊢
        split at hk
        · cases hk
        · simp only [keyOk, List.length_map, Nat.beq_eq] at hk
          exact ⟨rfl, by omega⟩
    rw [ha, hb.1, eqCells_ints a b hb.2]
    cases hab : a == b with
    | true => exact ⟨some i, rfl⟩
    | false => exact ⟨r, hr⟩

theorem keysLike_ok {n : Option Nat} {a : List Int} (hn : (n = none → a.length = 1) ∧ (∀ m, n = some m → a.length = m ∧ m ≠ 1)) {l : List (List Int)} (hl : ∀ b ∈ l, b.length = a.length) : l.all (fun b => keyOk n (keyL b)) = true := by
  rw [List.all_eq_true]
  intro b hb
  have hlen := hl b hb
  cases n with
  | none =>
    have h1 := hn.1 rfl
    rw [h1] at hlen
    match b, hlen with
    | [x], _ => rfl
  | some m =>
    obtain ⟨h1, h2⟩ := hn.2 m rfl
    unfold keyL
    split
    · rename_i x; simp at hlen; omega
    · simp [keyOk]; omega


theorem keysLike_all {a : List Int} {l : List (List Int)} (h : keysLike a l = true) : ∀ b ∈ l, b.length = a.length := by
  intro b hb
  exact Nat.eq_of_beq_eq_true (List.all_eq_true.1 h b hb)

theorem lookup_sim (hE : REnv s e pe) (hS : RSto s ps) {n : Option Nat} {zero : PV} {ok : Bool} {m q : Opd} (h : evS e s z (.lookup n zero ok m q) k ρ w = some y) : Sim s ps (evOp pe ps z (.lookup n zero ok m q)) k ρ w y := by
  simp only [evS] at h
  cases zero with
  | bool b =>
    cases b with
    | true => cases h
    | false =>
      cases ok with
      | true => cases h
      | false =>
        dsimp only at h
        have hx := opdS_R hE m
        generalize opdS e m = v at h hx
        cases v with
        | mp t =>
          simp only [nth_eq] at h
          generalize hst : s[t]? = b at h
          cases b with
          | none => cases h
          | some b =>
            cases b with
            | set l =>
              obtain ⟨a, ha, h1⟩ := ansO_some h
              obtain ⟨b, hb, hk⟩ := bindA_some h1
              obtain ⟨k1, k2, k3, k4, k5⟩ := keyS_R (opdS_R hE q) ha
              unfold hasO at hb
              cases hlk : keysLike a l with
              | false => rw [hlk] at hb; cases hb
              | true =>
                rw [hlk] at hb
                injection hb with hb; subst hb
                obtain ⟨r, hr⟩ := findIdx_some k4 k5 (keysLike_ok k5 (keysLike_all hlk)) 0
                have hf := findIdx_L k4 k5 l 0 r hr
                refine Sim.rd hS hk ?_ rfl
                show lookupE ps n (.bool false) false (m.ev pe) (q.ev pe) = _
                rw [show m.ev pe = _ from hx, k1]
                simp only [lookupE, hS.set_ hst, k2, if_true, hr]
                cases r with
                | none => simp only at hf; simp [hf]
                | some j =>
                  obtain ⟨_, h2, h3⟩ := hf
                  have : (l.map entL)[j]? = some (entL a) := by simp at h3; simp [h3]
                  simp [this, h2, entL]
            | _ => cases h
        | _ => cases h
  | _ => cases h

theorem mapu_sim (hE : REnv s e pe) (hS : RSto s ps) {n : Option Nat} {m q x : Opd} (h : evS e s z (.mapu n m q x) k ρ w = some y) : Sim s ps (evOp pe ps z (.mapu n m q x)) k ρ w y := by
  simp only [evS] at h
  have hv := opdS_R hE x
  generalize opdS e x = u at h hv
  cases u with
  | bool b =>
    cases b with
    | false => cases h
    | true =>
      dsimp only at h
      have hx := opdS_R hE m
      generalize opdS e m = v at h hx
      cases v with
      | mp t =>
        simp only [nth_eq] at h
        generalize hst : s[t]? = b at h
        cases b with
        | none => cases h
        | some b =>
          cases b with
          | set l =>
            obtain ⟨hz, h0⟩ := nbif_some h
            obtain ⟨a, ha, h1⟩ := ansO_some h0
            obtain ⟨b, hb, hk⟩ := bindA_some h1
            obtain ⟨k1, k2, k3, k4, k5⟩ := keyS_R (opdS_R hE q) ha
            unfold insO at hb
            cases hlk : keysLike a l with
            | false => rw [hlk] at hb; cases hb
            | true =>
              rw [hlk] at hb
              injection hb with hb; subst hb
              obtain ⟨r, hr⟩ := findIdx_some k4 k5 (keysLike_ok k5 (keysLike_all hlk)) 0
              have hf := findIdx_L k4 k5 l 0 r hr
              refine ⟨_, _, ?_, Good.put0 hS (b := .set (insL l a)) (q := .map ((insL l a).map entL)) (rd := []) hst trivial rfl, hk⟩
              show mapuE ps z n (m.ev pe) (q.ev pe) (x.ev pe) = _
              rw [show m.ev pe = _ from hx, k1, show x.ev pe = .bool true from hv]
              have p2 : (PV.bool true).storedPlain = some [.bool true] := rfl
              simp only [mapuE, hS.set_ hst, k2, hz, Bool.not_false, Bool.and_self, if_true, k3, p2, hr]
              cases r with
              | none => simp only at hf; simp [insL, hf, entL]
              | some j =>
                obtain ⟨_, h2, h3⟩ := hf
                have h5 : l[j]? = some a := by simpa using h3
                have : (l.map entL).set j (keyL a, .bool true) = l.map entL := by
                  apply List.ext_getElem?
                  intro i
                  rw [List.getElem?_set]
                  split
                  · rename_i hij
                    subst hij
                    have hlt := (List.getElem?_eq_some_iff.1 h5).1
                    have h6 : l[j] = a := (List.getElem?_eq_some_iff.1 h5).2
                    simp [hlt, h6, entL]
                  · rfl
                simp [insL, h2, this]
          | _ => cases h
      | _ => cases h
  | _ => cases h

theorem EszAt.fr' {s s' : List SB} {bad : List Nat} {t e : Nat} (h : EszAt s t e) (hf : Fr bad s s') : EszAt s' t e := by
  rcases h with ⟨r, l, h1, h2⟩ | h1
  · rcases hf t _ h1 with ⟨l', k1, _, _⟩ | k1
    · exact .inl ⟨r, l', k1, h2⟩
    · exact .inr k1
  · exact .inr (hf t _ h1)

theorem cloneO_inv {α : Type} {l r : List α} (h : cloneO l = some r) : r = l ∧ l.length ≤ 1048576 := by
  unfold cloneO at h
  split at h
  · injection h with h; exact ⟨h.symm, by assumption⟩
  · cases h
theorem appendO_inv {α : Type} {l m r : List α} (h : appendO l m = some r) : r = l ++ m ∧ l.length + m.length ≤ 1048576 := by
  unfold appendO at h
  split at h
  · injection h with h; exact ⟨h.symm, by assumption⟩
  · cases h

theorem setRows_lay : ∀ (m l : List Row) (n : Nat), n + m.length ≤ l.length → setRows n m l = layL l n m
  | [], l, n, h => by simp [setRows, layL]
  | a :: m, l, n, h => by
    simp only [List.length_cons] at h
    rw [setRows, setRows_lay m (l.set n a) (n + 1) (by simp; omega)]
    unfold layL
    rw [List.take_set, List.drop_set]
    have hn : n < l.length := by omega
    have h1 : ¬ (n + 1 + m.length ≤ n) := by omega
    rw [if_pos (by omega)]
    have : (l.take (n + 1)).set n a = l.take n ++ [a] := by
      rw [List.take_succ_eq_append_getElem hn, List.set_append_right _ _ (by simp; omega)]
      simp [Nat.min_eq_left (Nat.le_of_lt hn)]
    rw [this]
    simp only [List.append_assoc, List.cons_append, List.nil_append, List.length_cons]
    rw [show n + 1 + m.length = n + (m.length + 1) by omega]

theorem layL_map {α β : Type} (f : α → β) (l m : List α) (n : Nat) : (layL l n m).map f = layL (l.map f) n (m.map f) := by
  simp [layL, List.map_take, List.map_drop]
theorem layL_len {α : Type} (l m : List α) (n : Nat) (h : n + m.length ≤ l.length) : (layL l n m).length = l.length := by
  simp [layL]; omega

theorem append_sim (hE : REnv s e pe) (hS : RSto s ps) {esz : Nat} {x yy : Opd} (h : evS e s z (.append esz x yy) k ρ w = some y) : Sim s ps (evOp pe ps z (.append esz x yy)) k ρ w y := by
  simp only [evS] at h
  have hx := opdS_R hE x
  have hyv := opdS_R hE yy
  unfold appendS at h
  generalize opdS e yy = vy at h hyv
  cases hc : contS s vy with
  | none => rw [hc] at h; cases h
  | some cc =>
    obtain ⟨q, m⟩ := cc
    rw [hc] at h
    dsimp only at h
    obtain ⟨he, h⟩ := bif_some h
    have he := Nat.eq_of_beq_eq_true he
    obtain ⟨hro, htk⟩ := contS_R hS hyv hc
    rw [he] at hro
    have pe_app : evOp pe ps z (.append esz x yy) = appendE ps z esz (x.ev pe) (yy.ev pe) := rfl
    generalize opdS e x = v at h hx
    cases v with
    | nil e' c =>
      dsimp only at h
      obtain ⟨hcl, h⟩ := bif_some h
      obtain ⟨m', hm', hk⟩ := bindA_some h
      obtain ⟨rfl, hle⟩ := cloneO_inv hm'
      refine ⟨_, _, ?_, Good.new hS (b := .arr q m') (q := .arr esz (m'.map (RT.pv q))) (v := .own s.length false) (p := .own s.length esz 0 m'.length m'.length false) (rd := tokS vy) (by rw [← he]; rfl) ⟨esz, m'.length, rfl, .inl ⟨q, m', last_get, he.symm, rfl⟩⟩, hk⟩
      rw [pe_app]
      have hcl' : c = true := hcl
      subst hcl'
      rw [show x.ev pe = .sl e' true [] from hx]
      unfold appendE
      rw [hro]
      cases m' with
      | nil => simp [hS.len, htk]
      | cons a m' =>
        have h2 : Nat.ble ((a :: m').length) most = true := by simp [most] at hle ⊢; omega
        simp only [List.length_cons] at h2
        simp [hS.len, htk, h2]
    | own t ex =>
      dsimp only at h
      simp only [nth_eq] at h
      generalize hst : s[t]? = b at h
      cases b with
      | none => cases h
      | some b =>
        cases b with
        | arr r l =>
          dsimp only at h
          cases hca : castL q r m with
          | none => rw [hca] at h; cases h
          | some m2 =>
            rw [hca] at h
            dsimp only at h
            obtain ⟨rfl, hmp, hml⟩ := castL_pv hca
            obtain ⟨e', n', hx, hat⟩ := hx
            obtain ⟨rfl, rfl⟩ := hat.inv hst
            rw [← hmp] at hro
            have harr := hS.arr hst
            cases ex with
            | true =>
              dsimp only at h
              rcases condA_some h with ⟨hl, h⟩ | ⟨hl, h⟩
              · obtain ⟨m', hm', hk⟩ := bindA_some h
                obtain ⟨rfl, hle⟩ := cloneO_inv hm'
                have hl : l = [] := by simpa using hl
                subst hl
                refine ⟨_, _, ?_, Good.new hS (b := .arr q m') (q := .arr q.length (m'.map (RT.pv q))) (v := .own s.length false) (p := .own s.length q.length 0 m'.length m'.length false) (rd := t :: tokS vy) rfl ⟨q.length, m'.length, rfl, .inl ⟨q, m', last_get, rfl, rfl⟩⟩, hk⟩
                rw [pe_app, hx]
                unfold appendE
                rw [hro]
                subst he
                cases m' with
                | nil => simp [hS.len, htk]
                | cons a m' =>
                  have h2 : Nat.ble ((a :: m').length) most = true := by simp [most] at hle ⊢; omega
                  simp only [List.length_cons] at h2
                  simp [hS.len, htk, h2, harr]
              · have hl : l ≠ [] := by intro e; subst e; cases hl
                have hl0 : l.length ≠ 0 := by intro e; exact hl (List.length_eq_zero_iff.1 e)
                have hb0 : Nat.beq l.length 0 = false := by
                  cases hb : Nat.beq l.length 0 with
                  | false => rfl
                  | true => exact absurd (Nat.eq_of_beq_eq_true hb) hl0
                rcases condA_some h with ⟨hm, h⟩ | ⟨hm, h⟩
                · have hm : m2 = [] := by simpa using hm
                  subst hm
                  refine Sim.rd hS h ?_ ⟨_, _, rfl, hat⟩
                  rw [pe_app, hx]
                  unfold appendE
                  rw [hro]
                  simp [hb0, htk]
                · obtain ⟨l', hl', hk⟩ := bindA_some h
                  obtain ⟨rfl, hle⟩ := appendO_inv hl'
                  refine ⟨_, _, ?_, Good.new hS (b := .arr q (l ++ m2)) (q := .arr q.length ((l ++ m2).map (RT.pv q))) (v := .own s.length false) (p := .own s.length q.length 0 (l ++ m2).length (l ++ m2).length false) (rd := t :: tokS vy) rfl ⟨q.length, (l ++ m2).length, rfl, .inl ⟨q, l ++ m2, last_get, rfl, rfl⟩⟩, hk⟩
                  rw [pe_app, hx]
                  unfold appendE
                  rw [hro]
                  subst he
                  cases m2 with
                  | nil => cases hm
                  | cons a m2 =>
                    have h2 : Nat.ble (l.length + (a :: m2).length) most = true := by simp [most] at hle ⊢; omega
                    have h3 : Nat.ble (l.length + (m2.length + 1)) l.length = false := by
                      cases hb : Nat.ble (l.length + (m2.length + 1)) l.length with
                      | false => rfl
                      | true => have := Nat.le_of_ble_eq_true hb; omega
                    simp only [List.length_cons] at h2
                    simp [hS.len, htk, h2, h3, harr, List.take_of_length_le]
            | false =>
              dsimp only at h
              rcases condA_some h with ⟨hm, h⟩ | ⟨hm, h⟩
              · have hm : m2 = [] := by simpa using hm
                subst hm
                refine Sim.rd hS h ?_ ⟨_, _, rfl, hat⟩
                rw [pe_app, hx]
                unfold appendE
                rw [hro]
                simp [htk]
              · obtain ⟨hz, h⟩ := nbif_some h
                obtain ⟨l', hl', hk⟩ := bindA_some h
                obtain ⟨rfl, hle⟩ := appendO_inv hl'
                have hlen : (dgS [t] (s.set t .dead)).length = s.length := by rw [dgS_len]; simp
                refine ⟨_, _, ?_, Good.put hS (b := .dead) (q := .dead) (l := [.arr q (l ++ m2)]) (ql := [.arr q.length ((l ++ m2).map (RT.pv q))]) (v := .own s.length false) (p := .own s.length q.length 0 (l ++ m2).length (l ++ m2).length false) (rd := tokS vy) hst (.inr rfl) rfl rfl
                  (fun j b hj => by
                    cases j with
                    | zero => simp at hj; subst hj; exact ⟨_, rfl, rfl⟩
                    | succ j => simp at hj)
                  ⟨q.length, (l ++ m2).length, rfl, .inl ⟨q, l ++ m2, by rw [← hlen]; exact last_get, rfl, rfl⟩⟩, hk⟩
                rw [pe_app, hx]
                unfold appendE
                rw [hro]
                subst he
                cases m2 with
                | nil => cases hm
                | cons a m2 =>
                  have h2 : Nat.ble (l.length + (a :: m2).length) most = true := by simp [most] at hle ⊢; omega
                  have h3 : Nat.ble (l.length + (m2.length + 1)) l.length = false := by
                    cases hb : Nat.ble (l.length + (m2.length + 1)) l.length with
                    | false => rfl
                    | true => have := Nat.le_of_ble_eq_true hb; omega
                  simp only [List.length_cons] at h2
                  simp [hS.len, htk, h2, h3, harr, hz, List.take_of_length_le]
        | _ => cases h
    | pre t len cap ex =>
      dsimp only at h
      simp only [nth_eq] at h
      generalize hst : s[t]? = b at h
      cases b with
      | none => cases h
      | some b =>
        cases b with
        | arr r l =>
          dsimp only at h
          cases hca : castL q r m with
          | none => rw [hca] at h; cases h
          | some m2 =>
            rw [hca] at h
            dsimp only at h
            obtain ⟨rfl, hmp, hml⟩ := castL_pv hca
            obtain ⟨e', hx, hat⟩ := hx
            have := hat.inv hst
            subst this
            rw [← hmp] at hro
            have harr := hS.arr hst
            obtain ⟨hex, h⟩ := nbif_some h
            subst hex
            rcases condA_some h with ⟨hm, h⟩ | ⟨hm, h⟩
            · have hm : m2 = [] := by simpa using hm
              subst hm
              refine Sim.rd hS h ?_ ⟨_, rfl, hat⟩
              rw [pe_app, hx]
              unfold appendE
              rw [hro]
              simp [htk]
            · rcases condA_some h with ⟨c1, h⟩ | ⟨c1, h⟩
              · obtain ⟨hc2, hk⟩ := condF_some h
                simp only [Bool.and_eq_true, Bool.not_eq_true'] at hc2
                obtain ⟨c2, c3⟩ := hc2
                have c2' := Nat.le_of_ble_eq_true c2
                refine ⟨_, _, ?_, Good.put hS (b := .arr q (layL l len m2)) (q := .arr q.length ((layL l len m2).map (RT.pv q))) (l := []) (ql := []) (v := .pre t (len + m2.length) cap false) (p := .own t q.length 0 (len + m2.length) cap false) (rd := tokS vy) hst (.inl ⟨_, rfl, layL_len _ _ _ c2'⟩) rfl rfl
                  (fun j b hj => by simp at hj) ⟨q.length, rfl, ?_⟩, hk⟩
                · rw [pe_app, hx]
                  unfold appendE
                  rw [hro]
                  subst he
                  have hsr : setRows (0 + len) (m2.map (RT.pv q)) (l.map (RT.pv q)) = (layL l len m2).map (RT.pv q) := by
                    rw [setRows_lay _ _ _ (by simp; omega), layL_map, Nat.zero_add]
                  cases m2 with
                  | nil => cases hm
                  | cons a m2 =>
                    simp only [List.length_cons] at c1
                    simp only [List.map_cons] at hsr ⊢
                    simp only [harr, Nat.beq_refl, Bool.not_true, Bool.false_eq_true, if_false, List.length_cons, List.length_map, c1, if_true, c3, hsr, htk]
                · have := EszAt.fr' (s := s) (s' := dgS [t] (s.set t (.arr q (layL l len m2))) ++ []) hat ((Fr.dg (ts := [t]) (Fr.set hst (.inl ⟨_, rfl, layL_len _ _ _ c2'⟩))).trans (Fr.app [t] _ []))
                  exact this
              · obtain ⟨hz0, h⟩ := nbif_some h
                have hz : has z t = false := by
                  cases hh : has z t with
                  | false => rfl
                  | true => rw [hh] at hz0; cases hz0
                obtain ⟨l', hl', h⟩ := bindA_some h
                obtain ⟨hll, hk⟩ := condF_some h
                obtain ⟨hl'e, hle⟩ := appendO_inv hl'
                subst hl'e
                have hll' := Nat.le_of_ble_eq_true hll
                have htl : (l.take len).length = len := by rw [List.length_take]; omega
                rw [htl] at hle
                have hlen : (dgS [t] (s.set t .dead)).length = s.length := by rw [dgS_len]; simp
                have hal : (l.take len ++ m2).length = len + m2.length := by rw [List.length_append, htl]
                refine ⟨_, _, ?_, Good.put hS (b := .dead) (q := .dead) (l := [.arr q (l.take len ++ m2)]) (ql := [.arr q.length ((l.take len ++ m2).map (RT.pv q))]) (v := .own s.length false) (p := .own s.length q.length 0 (l.take len ++ m2).length (l.take len ++ m2).length false) (rd := tokS vy) hst (.inr rfl) rfl rfl
                  (fun j b hj => by
                    cases j with
                    | zero => simp at hj; subst hj; exact ⟨_, rfl, rfl⟩
                    | succ j => simp at hj)
                  ⟨q.length, (l.take len ++ m2).length, rfl, .inl ⟨q, l.take len ++ m2, by rw [← hlen]; exact last_get, rfl, rfl⟩⟩, hk⟩
                rw [pe_app, hx]
                unfold appendE
                rw [hro]
                subst he
                cases m2 with
                | nil => cases hm
                | cons a m2 =>
                  have h2 : Nat.ble (len + (m2.length + 1)) most = true := by simp [most] at hle ⊢; omega
                  simp only [List.length_cons] at c1 hal
                  simp only [List.map_cons, List.length_cons, List.length_map, harr, Nat.beq_refl, Bool.not_true, Bool.false_eq_true, if_false, c1, h2, hz, hS.len, htk, hal, List.drop_zero, List.map_append, List.map_take]
        | _ => cases h
    | _ => cases h

end
end Go.Vm

/- Operation by operation: all of them. -/
namespace Go.Vm
section
variable {R' ρ : Type} {w : R' → ρ} {y : ρ} {s : List SB} {ps : Sto} {e : SE} {pe : Env} {z : List Nat} {k : SRes → Ans R'}

theorem clear_sim (hE : REnv s e pe) (hS : RSto s ps) {esz : Nat} {zero : Row} {x : Opd} (h : evS e s z (.clear esz zero x) k ρ w = some y) : Sim s ps (evOp pe ps z (.clear esz zero x)) k ρ w y := by
  simp only [evS] at h
  have hx := opdS_R hE x
  unfold clearS at h
  generalize opdS e x = v at h hx
  cases v with
  | part t off len cap ex =>
    simp only [nth_eq] at h
    generalize hst : s[t]? = b at h
    cases b with
    | none => cases h
    | some b =>
      cases b with
      | arr r l =>
        dsimp only at h
        cases hq : ptsOf zero with
        | none => rw [hq] at h; cases h
        | some q =>
          rw [hq] at h
          dsimp only at h
          obtain ⟨hc, h1⟩ := bif_some h
          simp only [Bool.and_eq_true] at hc
          obtain ⟨hqr, he⟩ := hc
          have hqr := rSame_eq hqr
          have he := Nat.eq_of_beq_eq_true he
          obtain ⟨e', hx, hat⟩ := hx
          have := hat.inv hst
          subst this
          subst hqr
          subst he
          rcases condA_some h1 with ⟨hl, hk⟩ | ⟨hl, hk⟩
          · have hl := Nat.eq_of_beq_eq_true hl
            subst hl
            exact Sim.val hS hk (by simp only [evOp, hx]) rfl
          · obtain ⟨hc2, hk⟩ := condF_some hk
            simp only [Bool.and_eq_true, Bool.not_eq_true'] at hc2
            obtain ⟨c1, c2⟩ := hc2
            have c1' := Nat.le_of_ble_eq_true c1
            have hlen := layL_len l (List.replicate len (RT.zero q)) off (by simpa using c1')
            refine ⟨_, _, ?_, Good.put0 hS (b := .arr q (layL l off (List.replicate len (RT.zero q)))) (q := .arr q.length ((layL l off (List.replicate len (RT.zero q))).map (RT.pv q))) (rd := []) hst (.inl ⟨_, rfl, hlen⟩) rfl, hk⟩
            cases len with
            | zero => cases hl
            | succ len =>
              have hsr : setRows off (List.replicate (len + 1) zero) (l.map (RT.pv q)) = (layL l off (List.replicate (len + 1) (RT.zero q))).map (RT.pv q) := by
                rw [layL_map, setRows_lay _ _ _ (by simpa using c1')]
                simp [ptsOf_ok hq]
              simp only [evOp, hx, hS.arr hst, Nat.beq_refl, c2, Bool.not_false, Bool.and_self, if_true, hsr]
      | _ => cases h
  | _ => cases h

theorem copyTo_sim (hS : RSto s ps) {t off len cap : Nat} {ex : Bool} {r : List PT} {l : List (RT r)} {x yy : Opd} {vy : SV} (hst : s[t]? = some (.arr r l)) (hx : x.ev pe = .own t r.length off len cap ex) (hyv : R s vy (yy.ev pe))
    (h : copyTo s z t r l off len vy k ρ w = some y) : Sim s ps (evOp pe ps z (.copy r.length x yy)) k ρ w y := by
  unfold copyTo at h
  cases hc : contS s vy with
  | none => rw [hc] at h; cases h
  | some cc =>
    obtain ⟨q, m⟩ := cc
    rw [hc] at h
    dsimp only at h
    cases hca : castL q r m with
    | none => rw [hca] at h; cases h
    | some m2 =>
      rw [hca] at h
      dsimp only at h
      obtain ⟨hqr, hmp, hml⟩ := castL_pv hca
      subst hqr
      obtain ⟨hro, htk⟩ := contS_R hS hyv hc
      rw [← hmp] at hro
      have htake : (m2.map (RT.pv q)).take len = (m2.take len).map (RT.pv q) := by rw [List.map_take]
      generalize m2.take len = mm at h htake
      rcases condA_some h with ⟨hm, hk⟩ | ⟨hm, hk⟩
      · have hm : mm = [] := by simpa using hm
        subst hm
        refine Sim.rd hS hk ?_ rfl
        simp only [evOp, hro, hx, htake, List.map_nil, htk]
      · obtain ⟨hc2, hk⟩ := condF_some hk
        simp only [Bool.and_eq_true, Bool.not_eq_true'] at hc2
        obtain ⟨c1, c2⟩ := hc2
        have c1' := Nat.le_of_ble_eq_true c1
        have hlen := layL_len l mm off c1'
        refine ⟨_, _, ?_, Good.put hS (b := .arr q (layL l off mm)) (q := .arr q.length ((layL l off mm).map (RT.pv q))) (l := []) (ql := []) (v := .int .i64 (.ofNat mm.length)) (p := .int .i64 (.ofNat mm.length)) (rd := tokS vy) hst (.inl ⟨_, rfl, hlen⟩) rfl rfl (fun j b hj => by simp at hj) rfl, hk⟩
        have hsr : setRows off (mm.map (RT.pv q)) (l.map (RT.pv q)) = (layL l off mm).map (RT.pv q) := by
          rw [layL_map, setRows_lay _ _ _ (by simpa using c1')]
        cases mm with
        | nil => cases hm
        | cons a mm =>
          simp only [List.map_cons] at hsr htake
          simp only [evOp, hro, hx, htake, hS.arr hst, Nat.beq_refl, c2, Bool.not_false, Bool.and_self, if_true, hsr, htk, List.length_map, List.length_cons]

theorem copy_sim (hE : REnv s e pe) (hS : RSto s ps) {esz : Nat} {x yy : Opd} (h : evS e s z (.copy esz x yy) k ρ w = some y) : Sim s ps (evOp pe ps z (.copy esz x yy)) k ρ w y := by
  simp only [evS] at h
  have hx := opdS_R hE x
  have hyv := opdS_R hE yy
  unfold copyS at h
  generalize opdS e yy = vy at h hyv
  generalize opdS e x = v at h hx
  cases v with
  | own t ex =>
    simp only [nth_eq] at h
    generalize hst : s[t]? = b at h
    cases b with
    | none => cases h
    | some b =>
      cases b with
      | arr r l =>
        obtain ⟨he, hk⟩ := bif_some h
        have he := Nat.eq_of_beq_eq_true he
        subst he
        obtain ⟨e', n', hx, hat⟩ := hx
        obtain ⟨rfl, rfl⟩ := hat.inv hst
        exact copyTo_sim hS hst hx hyv hk
      | _ => cases h
  | pre t len cap ex =>
    simp only [nth_eq] at h
    generalize hst : s[t]? = b at h
    cases b with
    | none => cases h
    | some b =>
      cases b with
      | arr r l =>
        obtain ⟨he, hk⟩ := bif_some h
        have he := Nat.eq_of_beq_eq_true he
        subst he
        obtain ⟨e', hx, hat⟩ := hx
        have := hat.inv hst
        subst this
        exact copyTo_sim hS hst hx hyv hk
      | _ => cases h
  | part t off len cap ex =>
    simp only [nth_eq] at h
    generalize hst : s[t]? = b at h
    cases b with
    | none => cases h
    | some b =>
      cases b with
      | arr r l =>
        obtain ⟨he, hk⟩ := bif_some h
        have he := Nat.eq_of_beq_eq_true he
        subst he
        obtain ⟨e', hx, hat⟩ := hx
        have := hat.inv hst
        subst this
        exact copyTo_sim hS hst hx hyv hk
      | _ => cases h
  | _ => cases h

theorem evS_sim (hE : REnv s e pe) (hS : RSto s ps) {op : XOp} (h : evS e s z op k ρ w = some y) : Sim s ps (evOp pe ps z op) k ρ w y := by
  cases op with
  | mov x => exact Sim.val hS h rfl (opdS_R hE x)
  | pick c a b => exact pick_sim hE hS h
  | bin op a b => exact bin_sim hE hS h
  | binb n a b => exact binb_sim hE hS h
  | eqc n g a b => exact eqc_sim hE hS h
  | un op a => exact un_sim hE hS h
  | conv a x => exact conv_sim hE hS h
  | len x => exact len_sim hE hS h
  | lenc n => exact Sim.val hS h rfl rfl
  | box x => exact box_sim hE hS h
  | alloc c => exact alloc_sim hS h
  | build z p => exact build_sim hE hS h
  | mkrow a b c d => exact mkrow_sim hE hS h
  | load a p => exact load_sim hE hS h
  | store a p x => exact store_sim hE hS h
  | nilc x => exact nilc_sim hE hS h
  | fadr o x => exact fadr_sim hE hS h
  | fld a o x => exact fld_sim hE hS h
  | iadr a x i => exact iadr_sim hE hS h
  | iadra n a x i => exact iadra_sim hE hS h
  | idx n a g x i => exact idx_sim hE hS h
  | sidx x i => exact sidx_sim hE hS h
  | slc a x l h' m => exact slc_sim hE hS h
  | mks a z l c => exact mks_sim hE hS h
  | mkf f a b => exact mkf_sim hE hS h
  | mkm => exact mkm_sim hS h
  | lookup n z o m q => exact lookup_sim hE hS h
  | mapu n m q x => exact mapu_sim hE hS h
  | ext i x => exact ext_sim hE hS h
  | append a x b => exact append_sim hE hS h
  | copy a x b => exact copy_sim hE hS h
  | clear a z x => exact clear_sim hE hS h
  | mm m x xs => exact mm_sim hE hS h
  | call m f a => cases h
  | callv x a => cases h
  | bad => cases h

/-! ### over the border -/

mutual
theorem exV_R {bx : Nat → Option (List SV)} {pbx : Nat → Option (List PV)} (hS : RSto s ps) (hb : ∀ t l, bx t = some l → ∃ q, pbx t = some q ∧ pvL l = some q) : ∀ {v u : SV} {p : PV}, R s v p → exV s bx v = some u → ∃ q, exP ps pbx p = some q ∧ pvS u = some q
  | .int k n, u, p, h, hx => by injection hx with hx; subst hx; rw [show p = _ from h]; exact ⟨_, rfl, rfl⟩
  | .bool b, u, p, h, hx => by injection hx with hx; subst hx; rw [show p = _ from h]; exact ⟨_, rfl, rfl⟩
  | .str x, u, p, h, hx => by injection hx with hx; subst hx; rw [show p = _ from h]; exact ⟨_, rfl, rfl⟩
  | .nilf, u, p, h, hx => by injection hx with hx; subst hx; rw [show p = _ from h]; exact ⟨_, rfl, rfl⟩
  | .agg cs, u, p, h, hx => by
    obtain ⟨q, rfl, h⟩ := h
    simp only [exV] at hx
    split at hx
    · rename_i l hl
      injection hx with hx; subst hx
      obtain ⟨q', h1, h2⟩ := exVL_R hS hb h hl
      exact ⟨.agg q', by simp only [exP, h1]; rfl, by simp only [pvS, h2]⟩
    · cases hx
  | .tup cs, u, p, h, hx => by
    obtain ⟨q, rfl, h⟩ := h
    simp only [exV] at hx
    split at hx
    · rename_i l hl
      injection hx with hx; subst hx
      obtain ⟨q', h1, h2⟩ := exVL_R hS hb h hl
      exact ⟨.tup q', by simp only [exP, h1]; rfl, by simp only [pvS, h2]⟩
    · cases hx
  | .sl r l, u, p, h, hx => by injection hx with hx; subst hx; rw [show p = _ from h]; exact ⟨_, rfl, rfl⟩
  | .nil e c, u, p, h, hx => by injection hx with hx; subst hx; rw [show p = _ from h]; exact ⟨_, rfl, rfl⟩
  | .own t ex, u, p, h, hx => by
    simp only [exV, nth_eq] at hx
    split at hx
    · rename_i r l hst
      injection hx with hx; subst hx
      obtain ⟨e, n, rfl, hat⟩ := h
      obtain ⟨rfl, rfl⟩ := hat.inv hst
      refine ⟨.sl r.length false (l.map (RT.pv r)), ?_, rfl⟩
      simp only [exP, hS.arr hst, List.drop_zero]
      rw [List.take_of_length_le (by simp)]
    · cases hx
  | .pre t len cap ex, u, p, h, hx => by
    simp only [exV, nth_eq] at hx
    split at hx
    · rename_i r l hst
      injection hx with hx; subst hx
      obtain ⟨e, rfl, hat⟩ := h
      have := hat.inv hst
      subst this
      refine ⟨.sl r.length false ((l.take len).map (RT.pv r)), ?_, rfl⟩
      simp only [exP, hS.arr hst, List.drop_zero, List.map_take]
    · cases hx
  | .part t off len cap ex, u, p, h, hx => by
    simp only [exV, nth_eq] at hx
    split at hx
    · rename_i r l hst
      injection hx with hx; subst hx
      obtain ⟨e, rfl, hat⟩ := h
      have := hat.inv hst
      subst this
      refine ⟨.sl r.length false (((l.drop off).take len).map (RT.pv r)), ?_, rfl⟩
      simp only [exP, hS.arr hst, List.map_take, List.map_drop]
    · cases hx
  | .pa t r i a off, u, p, h, hx => by
    simp only [exV, nth_eq] at hx
    split at hx
    · rename_i q l hst
      injection hx with hx; subst hx
      obtain ⟨rfl, hat⟩ := h
      obtain ⟨rfl, hg⟩ := hat.inv hst
      obtain ⟨m, rfl, hm⟩ := geti_some hg
      refine ⟨.rptr (RT.pv r a) off, ?_, by simp only [pvS, RT.pv_sv]⟩
      have hm' : (l.map (RT.pv r))[m]? = some (RT.pv r a) := by simp [hm]
      have e1 : (Int.ofNat m).toNat = m := rfl
      simp only [exP, hS.arr hst, e1, hm']
      rfl
    · cases hx
  | .bp t n off, u, p, h, hx => by
    simp only [exV, nth_eq] at hx
    split at hx
    · rename_i cs hst
      split at hx
      · rename_i l hl
        injection hx with hx; subst hx
        rw [show p = _ from h]
        obtain ⟨q, h1, h2⟩ := hb t l hl
        obtain ⟨c, h3, _⟩ := hS.box hst
        refine ⟨.rptr q off, ?_, by simp only [pvS, h2]⟩
        simp only [exP, h3, Nat.beq_refl, if_true, h1]
        rfl
      · cases hx
    · cases hx
  | .rptr cs off, u, p, h, hx => by
    obtain ⟨q, rfl, h⟩ := h
    simp only [exV] at hx
    split at hx
    · rename_i l hl
      injection hx with hx; subst hx
      obtain ⟨q', h1, h2⟩ := exVL_R hS hb h hl
      exact ⟨.rptr q' off, by simp only [exP, h1]; rfl, by simp only [pvS, h2]⟩
    · cases hx
  | .clo f a b, u, p, h, hx => by
    obtain ⟨pa, pb, rfl, h1, h2⟩ := h
    simp only [exV] at hx
    split at hx
    · rename_i x y' h3 h4
      injection hx with hx; subst hx
      obtain ⟨qa, h5, h6⟩ := exVL_R hS hb h1 h3
      obtain ⟨qb, h7, h8⟩ := exVL_R hS hb h2 h4
      exact ⟨.clo f qa qb, by simp only [exP, h5, h7], by simp only [pvS, h6, h8]⟩
    · cases hx
  | .junk, _, _, _, hx | .undef, _, _, _, hx | .nul, _, _, _, hx | .pb _ _ _, _, _, _, hx | .mp _, _, _, _, hx => by cases hx
theorem exVL_R {bx : Nat → Option (List SV)} {pbx : Nat → Option (List PV)} (hS : RSto s ps) (hb : ∀ t l, bx t = some l → ∃ q, pbx t = some q ∧ pvL l = some q) : ∀ {v u : List SV} {p : List PV}, RL s v p → exVL s bx v = some u → ∃ q, exL ps pbx p = some q ∧ pvL u = some q
  | [], u, p, h, hx => by injection hx with hx; subst hx; rw [show p = _ from h]; exact ⟨_, rfl, rfl⟩
  | x :: xs, u, p, h, hx => by
    obtain ⟨q, qs, rfl, h1, h2⟩ := h.cons_inv
    simp only [exVL] at hx
    split at hx
    · rename_i y' ys h3 h4
      injection hx with hx; subst hx
      obtain ⟨a, h5, h6⟩ := exV_R hS hb h1 h3
      obtain ⟨as, h7, h8⟩ := exVL_R hS hb h2 h4
      exact ⟨a :: as, by simp only [exL, h5, h7], pvL_cons.2 ⟨a, as, rfl, h6, h8⟩⟩
    · cases hx
end

theorem exBxS_R (hS : RSto s ps) : ∀ (n t : Nat) (l : List SV), exBxS s n t = some l → ∃ q, exBx ps n t = some q ∧ pvL l = some q
  | 0, t, l, h => by cases h
  | n + 1, t, l, h => by
    simp only [exBxS, nth_eq] at h
    split at h
    · rename_i cs hst
      obtain ⟨q, h1, h2⟩ := hS.box hst
      obtain ⟨u, h3, h4⟩ := exVL_R hS (exBxS_R hS n) h2 h
      exact ⟨u, by simp only [exBx, h1, h3], h4⟩
    · cases h

mutual
theorem tkV_R {bx pbx : Nat → List Nat} (hb : ∀ t, bx t = pbx t) : ∀ {v : SV} {p : PV}, R s v p → v.sure = true → tkV bx v = toks pbx p
  | .junk, _, _, h => by cases h
  | .undef, p, h, _ | .nul, p, h, _ | .nilf, p, h, _ | .int _ _, p, h, _ | .bool _, p, h, _ | .str _, p, h, _ | .sl _ _, p, h, _ | .nil _ _, p, h, _ => by rw [show p = _ from h]; rfl
  | .agg cs, p, h, hs => by obtain ⟨q, rfl, h⟩ := h; exact tkVL_R hb h hs
  | .tup cs, p, h, hs => by obtain ⟨q, rfl, h⟩ := h; exact tkVL_R hb h hs
  | .own t ex, p, h, _ => by obtain ⟨e, n, rfl, _⟩ := h; rfl
  | .pre t a b c, p, h, _ => by obtain ⟨e, rfl, _⟩ := h; rfl
  | .part t o a b c, p, h, _ => by obtain ⟨e, rfl, _⟩ := h; rfl
  | .pa t r i a o, p, h, _ => by obtain ⟨rfl, _⟩ := h; simp only [tkV, toks, hb]
  | .pb t i o, p, h, _ => by obtain ⟨e, rfl, _⟩ := h; simp only [tkV, toks, hb]
  | .bp t n o, p, h, _ => by rw [show p = _ from h]; simp only [tkV, toks, hb]
  | .rptr cs o, p, h, hs => by obtain ⟨q, rfl, h⟩ := h; exact tkVL_R hb h hs
  | .mp t, p, h, _ => by rw [show p = _ from h]; rfl
  | .clo f a b, p, h, hs => by
    obtain ⟨pa, pb, rfl, h1, h2⟩ := h
    simp only [SV.sure, Bool.and_eq_true] at hs
    simp only [tkV, toks, tkVL_R hb h1 hs.1, tkVL_R hb h2 hs.2]
theorem tkVL_R {bx pbx : Nat → List Nat} (hb : ∀ t, bx t = pbx t) : ∀ {v : List SV} {p : List PV}, RL s v p → sureL v = true → tkVL bx v = toksL pbx p
  | [], p, h, _ => by rw [show p = _ from h]; rfl
  | x :: xs, p, h, hs => by
    obtain ⟨q, qs, rfl, h1, h2⟩ := h.cons_inv
    simp only [sureL, Bool.and_eq_true] at hs
    simp only [tkVL, toksL, tkV_R hb h1 hs.1, tkVL_R hb h2 hs.2]
end

end
end Go.Vm
