/- A region that draws its order, in two parts: up to an operation for which all the others wait or which waits for them, and behind it: one walk of each part in the order of the text serves every order. After the kit's own theorem on quiet regions. No program in sight. -/
import Derived.Test.YtgnbgjllogjecaaKit2
import Derived.Deep.RegionHeld3
import Derived.Deep.RegionWith
namespace Go.Proofs.Ytgnbgjllogjecaa
open Go Go.RowKit

section
variable {P : Program} {ops : Array Oper} {md : Region.Mode} {S C : World → Prop} {Q' : Exit → Act → World → Prop}

theorem wpAnyH_of_quiet {Q : Act → Prop} (hCS : ∀ w, C w → S w) (hQ : ∀ a w, C w → Q a → Q' .normal a w) : ∀ (fuel : Nat) (listed : Array Bool) (a : Act) (w : World), C w →
    wpAnyQ P md ops C Q fuel listed a → wpAnyH P md ops Q' S fuel listed a w
  | 0, _, _, _, hw, h => ⟨h.1, hQ _ _ hw h.2⟩
  | fuel + 1, _, _, _, hw, h => ⟨fun h0 => hQ _ _ hw (h.1 h0), fun i hi => wpOp_of_qOp hw (fun a' w' hw' k => ⟨hCS w' hw', wpAnyH_of_quiet hCS hQ fuel _ a' w' hw' k⟩) (h.2 i hi)⟩

/-- The second part: the operations from number k on, one walk in the order of the text, every one quiet in the class C. -/
theorem wpAnyH_of_lex (hCS : ∀ w, C w → S w) (hs : Region.noSelect ops = true) (l : List Oper) (k : Nat) (listed : Array Bool) (a : Act) (w : World) (hl : ∀ j, l[j]? = ops[k + j]?)
    (hB : Region.lexFrom md ops l.length k listed = true) (hC : C w) (h : wpQuiet P ops C (fun a' => ∀ w', C w' → Q' .normal a' w') l a) : wpAnyH P md ops Q' S l.length listed a w :=
  wpAnyH_of_quiet (Q := fun a' => ∀ w', C w' → Q' .normal a' w') hCS (fun _ w' hw' h => h w' hw') _ _ _ _ hC (wpAnyQ_lex hs l k listed a hl hB h)
theorem wpAnyH_of_lex_lit {L : List Oper} {fuel : Nat} (hCS : ∀ w, C w → S w) (hs : Region.noSelect L.toArray = true) (l : List Oper) (k : Nat) (listed : Array Bool) (a : Act) (w : World) (hl : L.drop k = l) (hf : fuel = l.length)
    (hB : Region.lexFrom md L.toArray l.length k listed = true) (hC : C w) (h : wpQuiet P L.toArray C (fun a' => ∀ w', C w' → Q' .normal a' w') l a) : wpAnyH P md L.toArray Q' S fuel listed a w := by
  subst hf
  exact wpAnyH_of_lex hCS hs l k listed a w (fun j => by rw [← hl]; simp) hB hC h
end

/-- A callee that leaves the world alone, met in a quiet region. -/
theorem Calls.quiet_same {P : Program} {f : FuncId} {args : Array Value} {w : World} {n : Nat} {v : Value}
    (h : Calls P f args (w.drewN n) fun e w' => e = .returned v ∧ w.drewN n = w') : Calls P f args (w.drewN n) fun e w'' => e = .returned v ∧ ∃ m, w'' = w.drewN m :=
  h.mono fun _ _ ⟨he, hm⟩ => ⟨he, n, hm.symm⟩

end Go.Proofs.Ytgnbgjllogjecaa
