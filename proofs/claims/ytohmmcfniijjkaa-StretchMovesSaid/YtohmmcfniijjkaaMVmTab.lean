/- A table of functions as a tree. -/
import Derived.Test.YtohmmcfniijjkaaMVmSound
namespace Go.Vm

inductive TT where
  | nil
  | leaf (k : Nat) (e : Ent)
  | node (m : Nat) (a b : TT)

def TT.get : TT → Nat → Option Ent
  | .nil, _ => none
  | .leaf k e, f => bif Nat.beq f k then some e else none
  | .node m a b, f => bif Nat.blt f m then a.get f else b.get f

def TT.All (p : Nat → Ent → Prop) : TT → Prop
  | .nil => True
  | .leaf k e => p k e
  | .node _ a b => a.All p ∧ b.All p

theorem TT.get_all {p : Nat → Ent → Prop} : ∀ {t : TT} {f : Nat} {e : Ent}, t.All p → t.get f = some e → p f e
  | .nil, f, e, _, h => by cases h
  | .leaf k e', f, e, ha, h => by
    simp only [TT.get] at h
    cases hk : Nat.beq f k with
    | false => rw [hk] at h; cases h
    | true =>
      rw [hk] at h
      have : f = k := by simpa using hk
      subst this
      have h : some e' = some e := h
      injection h with h; subst h; exact ha
  | .node m a b, f, e, ha, h => by
    simp only [TT.get] at h
    cases hk : Nat.blt f m with
    | false => rw [hk] at h; exact TT.get_all ha.2 h
    | true => rw [hk] at h; exact TT.get_all ha.1 h

def EntOK (P : Program) (f : Nat) : Ent → Prop
  | .code x => chkFunc P (fun _ => true) x f = true
  | .prim k p => k = false ∧ PrimOK P f p

theorem TT.tabOK {P : Program} {t : TT} (h : t.All (EntOK P)) : TabOK P (fun _ => true) t.get := fun f x hf => by
  have := TT.get_all h hf
  exact this

theorem TT.primsOK {P : Program} {t : TT} (h : t.All (EntOK P)) : PrimsOK P t.get := fun f k p hf => by
  have := TT.get_all h hf
  exact this

end Go.Vm
