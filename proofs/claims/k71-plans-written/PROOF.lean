import PyProof.Rows.All
import Wide.All
import OpenK.AllK
import Wide.FinOn
import PyProof.EqAt
import PyProof.EqKinds
import PyProof.TupleCall
import HandS.ForMost
import HandS.Exc
import HandS.TryOnly
import HandS.ExcOwn
import HandS.WordsExc
import HandS.ExcInit
import HandS.ExcField
import HandS.CallSlots
import HandS.Deep
import HandS.Conv
import HandS.Defaults
import HandS.Wide
import HandS.More
import HandS.IsInst
import HandS.Strs
import KE.SortData
import KE.DataEq
import HandS.Walk
import HandS.Dict
import HandS.WordsDict
import HandS.List
import HandS.Set
import HandS.SetFor
import HandS.TupAny
import HandS.Rev
import HandS.RevTup
import PyProof.ListRange
import HandS.SortKw
import KE.DatumOrd
import OpenK.KEqL
import HandS.Style
import HandS.ExcIs
import HandS.HeadHook2
import KE.KExcIs
import KE.KStateDown
import HandS.Head0
import HandS.Head1
import HandS.Head2
import HandS.HeadEnd
import HandS.HeadHook1
import HandS.Codes
import HandS.RaiseMore
import HandS.Text
import HandS.ReplaceLit
import PyProof.ListIndex
import KE.KDictPairs
import KE.KDictCopyH
import HandS.TupLe
import HandS.DictEq
import HandS.DeepEq
import PySem.Challenge.RW_wordswap_k71_plans_written
set_option Elab.async false
set_option linter.all false
set_option maxRecDepth 100000
/-! DL: values as data, over the hand layer. -/
namespace DL
open PySem PySem.Spec PyProof.Rows L2

/-- the text's classes -/
inductive Cl where
  | SwapError | NoWeb | NoPlan | NotJoined | NoLeader | NoDeed | Laid | NotLaid | Late | Unknown | NoText
  | Web | Plan | Ledger | Hand | Free | Keeper | Run
  deriving DecidableEq, Inhabited
/-- an instance's fields in the order in which they are stored -/
def flds : Cl → List Str
  | .Web => ["number", "passings"]
  | .Plan => ["web", "leaders", "limits"]
  | .Ledger => ["plan", "free", "now", "lays", "sayings", "shown"]
  | .Free => ["rows", "act"]
  | .Keeper => ["me"]
  | .Run => ["ledger"]
  | _ => []

inductive D where
  | non | bl (b : Bool) | int (i : Int) | str (x : Str)
  | tup (xs : List D) | lst (xs : List D)
  | scr (ns : List Int)
  | dI (kvs : List (Int × D)) | dT (kvs : List (List Int × D))
  | obj (c : Cl) (fs : List D)
  | cls (c : Cl)
  deriving Inhabited

structure Ct where
  K : PySem.W.Frag
  ca : Cl → Addr

mutual
/-- the value v stands for d in the heap H -/
inductive Rep (c : Ct) (H : Hp) : V → D → Prop
  | non : Rep c H .non .non
  | bl (b : Bool) : Rep c H (.bl b) (.bl b)
  | int (i : Int) : Rep c H (.int i) (.int i)
  | str (x : Str) : Rep c H (.str x) (.str x)
  | tup {a : Addr} {xs : List V} {ds : List D} : H a = some (.tup xs) → Reps c H xs ds → Rep c H (.ref a) (.tup ds)
  | lst {a : Addr} {xs : List V} {ds : List D} : H a = some (.lst xs) → Reps c H xs ds → Rep c H (.ref a) (.lst ds)
  | scr {a : Addr} {ns : List Int} : SqL c.K H a (ns.map V.int) → Rep c H (.ref a) (.scr ns)
  | dI {a : Addr} {ks : List Int} {vs : List V} {ds : List D} : ks.length = vs.length → H a = some (.dK ((ks.map Sum.inl).zip vs)) → Reps c H vs ds → Rep c H (.ref a) (.dI (ks.zip ds))
  | dT {a : Addr} {ks : List (List Int)} {vs : List V} {ds : List D} : ks.length = vs.length → H a = some (.dT ((ks.map fun k => k.map Sum.inl).zip vs)) → Reps c H vs ds → Rep c H (.ref a) (.dT (ks.zip ds))
  | obj {a dx : Addr} {vs : List V} {k : Cl} {fs : List D} : H a = some (.ins (c.ca k) dx ((flds k).zip vs)) → Reps c H vs fs → Rep c H (.ref a) (.obj k fs)
  | cls (k : Cl) : Rep c H (.ref (c.ca k)) (.cls k)
inductive Reps (c : Ct) (H : Hp) : List V → List D → Prop
  | nil : Reps c H [] []
  | cons {v : V} {vs : List V} {d : D} {ds : List D} : Rep c H v d → Reps c H vs ds → Reps c H (v :: vs) (d :: ds)
end

/-- all that H knows stands so in H' -/
def Ex (H H' : Hp) : Prop := ∀ a o, H a = some o → H' a = some o
theorem Ex.refl (H : Hp) : Ex H H := fun _ _ h => h
theorem Ex.trans {H H1 H2 : Hp} (a : Ex H H1) (b : Ex H1 H2) : Ex H H2 := fun x o h => b x o (a x o h)
theorem Ex.new {H : Hp} {p : Addr} {o : HO} (h : H p = none) : Ex H (upd H p o) := fun a u e => by
  rw [upd_ne (ne_of_none e h)]
  exact e
theorem Ex.free {H H' : Hp} (e : Ex H H') {p : Addr} (h : H' p = none) : H p = none := by
  cases q : H p with
  | none => rfl
  | some o => rw [e p o q] at h; cases h
theorem Ex.sq {K : PySem.W.Frag} {H H' : Hp} {a : Addr} {xs : List V} (e : Ex H H') (h : SqL K H a xs) : SqL K H' a xs := by
  rcases h with (h | ⟨o, h⟩) | h
  · exact .inl (.inl (e _ _ h))
  · exact .inl (.inr ⟨o, e _ _ h⟩)
  · exact .inr h
section
variable {c : Ct} {H H' : Hp}
mutual
theorem Rep.mono (e : Ex H H') : ∀ {v : V} {d : D}, Rep c H v d → Rep c H' v d
  | _, _, .non => .non
  | _, _, .bl b => .bl b
  | _, _, .int i => .int i
  | _, _, .str x => .str x
  | _, _, .tup h r => .tup (e _ _ h) (Reps.mono e r)
  | _, _, .lst h r => .lst (e _ _ h) (Reps.mono e r)
  | _, _, .scr h => .scr (e.sq h)
  | _, _, .dI l h r => .dI l (e _ _ h) (Reps.mono e r)
  | _, _, .dT l h r => .dT l (e _ _ h) (Reps.mono e r)
  | _, _, .obj h r => .obj (e _ _ h) (Reps.mono e r)
  | _, _, .cls k => .cls k
theorem Reps.mono (e : Ex H H') : ∀ {vs : List V} {ds : List D}, Reps c H vs ds → Reps c H' vs ds
  | _, _, .nil => .nil
  | _, _, .cons h r => .cons (Rep.mono e h) (Reps.mono e r)
end
end
section
variable {c : Ct} {H : Hp}
theorem Reps.length : ∀ {vs : List V} {ds : List D}, Reps c H vs ds → vs.length = ds.length
  | _, _, .nil => rfl
  | _, _, .cons _ r => congrArg Nat.succ (Reps.length r)
theorem Reps.get : ∀ {vs : List V} {ds : List D} {i : Nat} {v : V}, Reps c H vs ds → vs[i]? = some v → ∃ d, ds[i]? = some d ∧ Rep c H v d
  | _, _, _, _, .nil, e => by simp at e
  | _, _, 0, _, .cons h _, e => by simp at e; subst e; exact ⟨_, by simp, h⟩
  | _, _, i + 1, v, .cons _ r, e => by
    obtain ⟨d, h1, h2⟩ := Reps.get (i := i) (v := v) r (by simpa using e)
    exact ⟨d, by simpa using h1, h2⟩
theorem Reps.getD : ∀ {vs : List V} {ds : List D} {i : Nat} {d : D}, Reps c H vs ds → ds[i]? = some d → ∃ v, vs[i]? = some v ∧ Rep c H v d
  | _, _, _, _, .nil, e => by simp at e
  | _, _, 0, _, .cons h _, e => by simp at e; subst e; exact ⟨_, by simp, h⟩
  | _, _, i + 1, d, .cons _ r, e => by
    obtain ⟨v, h1, h2⟩ := Reps.getD (i := i) (d := d) r (by simpa using e)
    exact ⟨v, by simpa using h1, h2⟩
theorem Reps.append : ∀ {vs ws : List V} {ds es : List D}, Reps c H vs ds → Reps c H ws es → Reps c H (vs ++ ws) (ds ++ es)
  | _, _, _, _, .nil, s => s
  | _, _, _, _, .cons h r, s => .cons h (Reps.append r s)
theorem Reps.take : ∀ {vs : List V} {ds : List D} (n : Nat), Reps c H vs ds → Reps c H (vs.take n) (ds.take n)
  | _, _, 0, _ => .nil
  | _, _, _ + 1, .nil => .nil
  | _, _, n + 1, .cons h r => .cons h (Reps.take n r)
theorem Reps.drop : ∀ {vs : List V} {ds : List D} (n : Nat), Reps c H vs ds → Reps c H (vs.drop n) (ds.drop n)
  | _, _, 0, r => r
  | _, _, _ + 1, .nil => .nil
  | _, _, n + 1, .cons _ r => Reps.drop n r
theorem Reps.set : ∀ {vs : List V} {ds : List D} {v : V} {d : D} (i : Nat), Rep c H v d → Reps c H vs ds → Reps c H (vs.set i v) (ds.set i d)
  | _, _, _, _, _, _, .nil => .nil
  | _, _, _, _, 0, h, .cons _ r => .cons h r
  | _, _, _, _, i + 1, h, .cons q r => .cons q (Reps.set i h r)
theorem Reps.snoc {vs : List V} {ds : List D} {v : V} {d : D} (h : Reps c H vs ds) (r : Rep c H v d) : Reps c H (vs ++ [v]) (ds ++ [d]) := h.append (.cons r .nil)
theorem Reps.reverse : ∀ {vs : List V} {ds : List D}, Reps c H vs ds → Reps c H vs.reverse ds.reverse
  | _, _, .nil => .nil
  | _, _, .cons h r => by rw [List.reverse_cons, List.reverse_cons]; exact (Reps.reverse r).snoc h
theorem Reps.ints : ∀ {vs : List V} {ns : List Int}, Reps c H vs (ns.map .int) → vs = ns.map V.int
  | _, [], h => by cases h; rfl
  | _, n :: ns, h => by
    cases h with
    | cons h r => cases h; rw [Reps.ints r]; rfl
theorem Reps.of_ints : ∀ (ns : List Int), Reps c H (ns.map V.int) (ns.map D.int)
  | [] => .nil
  | n :: ns => .cons (.int n) (Reps.of_ints ns)
end

/-! ### what is hidden -/
open Classical in
/-- H without the addresses of m -/
noncomputable def hide (m : Addr → Prop) (H : Hp) : Hp := fun a => if m a then none else H a
theorem hide_of {m : Addr → Prop} {H : Hp} {a : Addr} {o : HO} (h : hide m H a = some o) : ¬ m a ∧ H a = some o := by
  unfold hide at h
  split at h
  · cases h
  · exact ⟨by assumption, h⟩
theorem hide_in {m : Addr → Prop} {H : Hp} {a : Addr} {o : HO} (h : ¬ m a) (e : H a = some o) : hide m H a = some o := by
  unfold hide
  rw [if_neg h]
  exact e
theorem hide_none {m : Addr → Prop} {H : Hp} {a : Addr} (h : hide m H a = none) : m a ∨ H a = none := by
  unfold hide at h
  split at h
  · exact .inl (by assumption)
  · exact .inr h
theorem hide_ex {m : Addr → Prop} {H : Hp} : Ex (hide m H) H := fun _ _ h => (hide_of h).2
/-- fewer hidden, more known -/
theorem hide_le {m m' : Addr → Prop} {H H' : Hp} (e : ∀ a o, ¬ m a → H a = some o → ¬ m' a ∧ H' a = some o) : Ex (hide m H) (hide m' H') := fun a o h =>
  let ⟨h1, h2⟩ := hide_of h
  let ⟨h3, h4⟩ := e a o h1 h2
  hide_in h3 h4
theorem hide_mono {m : Addr → Prop} {H H' : Hp} (e : Ex H H') : Ex (hide m H) (hide m H') := hide_le fun a o h q => ⟨h, e a o q⟩

/-! ### what is one's own -/
mutual
/-- v stands for d; the objects at l are its own, all else is shared in S -/
inductive Own (c : Ct) (S H : Hp) : List Addr → V → D → Prop
  | sh {v : V} {d : D} : Rep c S v d → Own c S H [] v d
  | lst {a : Addr} {l : List Addr} {xs : List V} {ds : List D} : H a = some (.lst xs) → Owns c S H l xs ds → Own c S H (a :: l) (.ref a) (.lst ds)
  | dI {a : Addr} {l : List Addr} {ks : List Int} {vs : List V} {ds : List D} : ks.length = vs.length → H a = some (.dK ((ks.map Sum.inl).zip vs)) → Owns c S H l vs ds → Own c S H (a :: l) (.ref a) (.dI (ks.zip ds))
  | dT {a : Addr} {l : List Addr} {ks : List (List Int)} {vs : List V} {ds : List D} : ks.length = vs.length → H a = some (.dT ((ks.map fun k => k.map Sum.inl).zip vs)) → Owns c S H l vs ds → Own c S H (a :: l) (.ref a) (.dT (ks.zip ds))
  | obj {a dx : Addr} {l : List Addr} {vs : List V} {k : Cl} {fs : List D} : H a = some (.ins (c.ca k) dx ((flds k).zip vs)) → Owns c S H l vs fs → Own c S H (a :: l) (.ref a) (.obj k fs)
inductive Owns (c : Ct) (S H : Hp) : List Addr → List V → List D → Prop
  | nil : Owns c S H [] [] []
  | cons {l l' : List Addr} {v : V} {vs : List V} {d : D} {ds : List D} : Own c S H l v d → Owns c S H l' vs ds → Owns c S H (l ++ l') (v :: vs) (d :: ds)
end
section
variable {c : Ct} {S S' H H' : Hp}
mutual
theorem Own.mono (e : Ex S S') : ∀ {l : List Addr} {v : V} {d : D}, (∀ a ∈ l, ∀ o, H a = some o → H' a = some o) → Own c S H l v d → Own c S' H' l v d
  | _, _, _, _, .sh h => .sh (h.mono e)
  | _, _, _, k, .lst h r => .lst (k _ (.head _) _ h) (Owns.mono e (fun a m => k a (.tail _ m)) r)
  | _, _, _, k, .dI l h r => .dI l (k _ (.head _) _ h) (Owns.mono e (fun a m => k a (.tail _ m)) r)
  | _, _, _, k, .dT l h r => .dT l (k _ (.head _) _ h) (Owns.mono e (fun a m => k a (.tail _ m)) r)
  | _, _, _, k, .obj h r => .obj (k _ (.head _) _ h) (Owns.mono e (fun a m => k a (.tail _ m)) r)
theorem Owns.mono (e : Ex S S') : ∀ {l : List Addr} {vs : List V} {ds : List D}, (∀ a ∈ l, ∀ o, H a = some o → H' a = some o) → Owns c S H l vs ds → Owns c S' H' l vs ds
  | _, _, _, _, .nil => .nil
  | _, _, _, k, .cons h r => .cons (Own.mono e (fun a m => k a (List.mem_append_left _ m)) h) (Owns.mono e (fun a m => k a (List.mem_append_right _ m)) r)
end
mutual
/-- what is one's own may be shared -/
theorem Own.rep (e : Ex S S') : ∀ {l : List Addr} {v : V} {d : D}, (∀ a ∈ l, ∀ o, H a = some o → S' a = some o) → Own c S H l v d → Rep c S' v d
  | _, _, _, _, .sh h => h.mono e
  | _, _, _, k, .lst h r => .lst (k _ (.head _) _ h) (Owns.rep e (fun a m => k a (.tail _ m)) r)
  | _, _, _, k, .dI l h r => .dI l (k _ (.head _) _ h) (Owns.rep e (fun a m => k a (.tail _ m)) r)
  | _, _, _, k, .dT l h r => .dT l (k _ (.head _) _ h) (Owns.rep e (fun a m => k a (.tail _ m)) r)
  | _, _, _, k, .obj h r => .obj (k _ (.head _) _ h) (Owns.rep e (fun a m => k a (.tail _ m)) r)
theorem Owns.rep (e : Ex S S') : ∀ {l : List Addr} {vs : List V} {ds : List D}, (∀ a ∈ l, ∀ o, H a = some o → S' a = some o) → Owns c S H l vs ds → Reps c S' vs ds
  | _, _, _, _, .nil => .nil
  | _, _, _, k, .cons h r => .cons (Own.rep e (fun a m => k a (List.mem_append_left _ m)) h) (Owns.rep e (fun a m => k a (List.mem_append_right _ m)) r)
end
theorem Owns.sh : ∀ {vs : List V} {ds : List D}, Reps c S vs ds → Owns c S H [] vs ds
  | _, _, .nil => .nil
  | _, _, .cons h r => .cons (l := []) (.sh h) (Owns.sh r)
mutual
/-- one's own objects stand -/
theorem Own.there : ∀ {l : List Addr} {v : V} {d : D}, Own c S H l v d → ∀ a ∈ l, Mut (H a)
  | _, _, _, .sh _, a, m => by cases m
  | _, _, _, .lst h r, a, m => by
    rcases List.mem_cons.mp m with rfl | m
    · rw [h]; exact True.intro
    · exact Owns.there r a m
  | _, _, _, .dI _ h r, a, m => by
    rcases List.mem_cons.mp m with rfl | m
    · rw [h]; exact True.intro
    · exact Owns.there r a m
  | _, _, _, .dT _ h r, a, m => by
    rcases List.mem_cons.mp m with rfl | m
    · rw [h]; exact True.intro
    · exact Owns.there r a m
  | _, _, _, .obj h r, a, m => by
    rcases List.mem_cons.mp m with rfl | m
    · rw [h]; exact True.intro
    · exact Owns.there r a m
theorem Owns.there : ∀ {l : List Addr} {vs : List V} {ds : List D}, Owns c S H l vs ds → ∀ a ∈ l, Mut (H a)
  | _, _, _, .nil, a, m => by cases m
  | _, _, _, .cons h r, a, m => by
    rcases List.mem_append.mp m with m | m
    · exact Own.there h a m
    · exact Owns.there r a m
end
end

/-! ### what a frame's slots hold -/
inductive Md where
  /-- nothing known | lent: stands in B | shared: stands in S | its own, the items shared | the instance that is made, likewise | its own -/
  | n | b | s | f | x | o
  /-- the exception of class k that an except suite holds: at a, its dict at dx -/
  | e (a dx : Addr) (k : Cl)
  deriving DecidableEq
def SlotR (c : Ct) (B : Hp) (z : Addr) (S H : Hp) : Md → List Addr → Option V → D → Prop
  | .n, l, _, _ => l = []
  | .b, l, x, d => l = [] ∧ ∃ v, x = some v ∧ Rep c B v d
  | .s, l, x, d => l = [] ∧ ∃ v, x = some v ∧ Rep c S v d
  | .f, l, x, d => ∃ p, l = [p] ∧ x = some (.ref p) ∧ Own c S H [p] (.ref p) d
  | .x, l, x, d => l = [z] ∧ x = some (.ref z) ∧ Own c S H [z] (.ref z) d
  | .o, l, x, d => l.Nodup ∧ ∃ v, x = some v ∧ Own c S H l v d
  | .e a dx k, l, x, d => l = [] ∧ x = some (.ref a) ∧ ∃ (v : V) (d' : D), d = .obj k [d'] ∧ S dx = some (.xd [("at", v)]) ∧ Rep c S v d'
inductive Slots (c : Ct) (B : Hp) (z : Addr) (S H : Hp) : List Md → List (List Addr) → L2.St → List D → Prop
  | nil : Slots c B z S H [] [] [] []
  | cons {m : Md} {ms : List Md} {l : List Addr} {ls : List (List Addr)} {x : Option V} {σ : L2.St} {d : D} {ρ : List D} : SlotR c B z S H m l x d → Slots c B z S H ms ls σ ρ → Slots c B z S H (m :: ms) (l :: ls) (x :: σ) (d :: ρ)
def In (L : List (List Addr)) (a : Addr) : Prop := ∃ l, l ∈ L ∧ a ∈ l
/-- what is hidden from a frame; the instance that it makes, where it is a class's __init__ -/
structure Mz where
  m : Addr → Prop
  z : Addr
instance : CoeFun Mz (fun _ => Addr → Prop) := ⟨Mz.m⟩
def Msk (M : Mz) (L : List (List Addr)) (a : Addr) : Prop := M a ∨ In L a
/-- no address stands in two of the lists -/
def Apart : List (List Addr) → Prop
  | [] => True
  | l :: ls => (∀ a ∈ l, ¬ In ls a) ∧ Apart ls
/-- a frame's state. B: what is lent to it; S0: some part of what is shared; M: hidden (a caller's own things) -/
structure EnvR (c : Ct) (B S0 : Hp) (M : Mz) (Γ : List Md) (L : List (List Addr)) (σ : L2.St) (H : Hp) (ρ : List D) : Prop where
  eb : Ex B H
  hm : ∀ a, M a → Mut (H a) ∧ ¬ In L a
  es : Ex S0 (hide (Msk M L) H)
  ap : Apart L
  hl : ∀ a, In L a → Mut (H a) ∧ B a = none
  sl : Slots c B M.z (hide (Msk M L) H) H Γ L σ ρ
end DL

/-! DL: a frame's state; what expressions give. -/
namespace DL
open PySem PySem.Spec PyProof.Rows L2
section
variable {c : Ct} {z : Addr} {B S S' S0 H H' : Hp} {M : Mz} {Γ : List Md} {L : List (List Addr)} {σ : L2.St} {ρ : List D}
theorem SlotR.mono (e : Ex S S') {m : Md} {l : List Addr} {x : Option V} {d : D} (k : ∀ a ∈ l, ∀ o, H a = some o → H' a = some o) (h : SlotR c B z S H m l x d) : SlotR c B z S' H' m l x d := by
  cases m with
  | n => exact h
  | b => exact h
  | s => obtain ⟨h1, v, h2, h3⟩ := h; exact ⟨h1, v, h2, h3.mono e⟩
  | f => obtain ⟨p, h1, h2, h3⟩ := h; subst h1; exact ⟨p, rfl, h2, h3.mono e k⟩
  | x => obtain ⟨h1, h2, h3⟩ := h; subst h1; exact ⟨rfl, h2, h3.mono e k⟩
  | o => obtain ⟨h1, v, h2, h3⟩ := h; exact ⟨h1, v, h2, h3.mono e k⟩
  | e a dx kk => obtain ⟨h1, h2, v, d', h3, h4, h5⟩ := h; exact ⟨h1, h2, v, d', h3, e _ _ h4, h5.mono e⟩
theorem In.cons {L : List (List Addr)} {l : List Addr} {a : Addr} (h : In L a) : In (l :: L) a := let ⟨l', h1, h2⟩ := h; ⟨l', .tail _ h1, h2⟩
theorem In.head {L : List (List Addr)} {l : List Addr} {a : Addr} (h : a ∈ l) : In (l :: L) a := ⟨l, .head _, h⟩
theorem In.inv {L : List (List Addr)} {l : List Addr} {a : Addr} (h : In (l :: L) a) : a ∈ l ∨ In L a := by
  obtain ⟨l', h1, h2⟩ := h
  rcases List.mem_cons.mp h1 with rfl | h1
  · exact .inl h2
  · exact .inr ⟨l', h1, h2⟩
theorem In.nil {a : Addr} (h : In [] a) : False := by
  obtain ⟨_, h1, _⟩ := h
  cases h1
theorem In.set {l' : List Addr} {a : Addr} : ∀ {L : List (List Addr)} {i : Nat}, In (L.set i l') a → In L a ∨ a ∈ l'
  | [], _, h => (h.nil).elim
  | l :: L, 0, h => by
    rcases In.inv (show In (l' :: L) a from h) with h | h
    · exact .inr h
    · exact .inl h.cons
  | l :: L, i + 1, h => by
    rcases In.inv (show In (l :: L.set i l') a from h) with h | h
    · exact .inl (.head h)
    · rcases In.set h with h | h
      · exact .inl h.cons
      · exact .inr h
theorem In.set_of {l' : List Addr} {a : Addr} : ∀ {L : List (List Addr)} {i : Nat} {l : List Addr}, L[i]? = some l → In L a → a ∉ l → In (L.set i l') a
  | [], _, _, h, _, _ => by simp at h
  | l0 :: L, 0, l, h, hi, hn => by
    simp at h; subst h
    rcases hi.inv with h | h
    · exact absurd h hn
    · exact In.cons h
  | l0 :: L, i + 1, l, h, hi, hn => by
    rcases hi.inv with h' | h'
    · exact .head h'
    · exact In.cons (In.set_of (i := i) (by simpa using h) h' hn)
theorem Apart.set {l' : List Addr} : ∀ {L : List (List Addr)} {i : Nat}, Apart L → (∀ a ∈ l', ¬ In L a) → Apart (L.set i l')
  | [], _, h, _ => h
  | l :: L, 0, h, hn => ⟨fun a ha hi => hn a ha hi.cons, h.2⟩
  | l :: L, i + 1, h, hn => ⟨fun a ha hi => by
      rcases In.set hi with hi | hi
      · exact h.1 a ha hi
      · exact hn a hi (.head ha), Apart.set h.2 fun a ha hi => hn a ha hi.cons⟩
/-- the slots stand in a greater heap -/
theorem Slots.mono (e : Ex S S') : ∀ {Γ : List Md} {L : List (List Addr)} {σ : L2.St} {ρ : List D}, (∀ a, In L a → ∀ o, H a = some o → H' a = some o) → Slots c B z S H Γ L σ ρ → Slots c B z S' H' Γ L σ ρ
  | _, _, _, _, _, .nil => .nil
  | _, _, _, _, k, .cons h r => .cons (h.mono e fun a m => k a (.head m)) (Slots.mono e (fun a m => k a m.cons) r)
theorem Slots.get : ∀ {Γ : List Md} {L : List (List Addr)} {σ : L2.St} {ρ : List D} {i : Nat} {m : Md}, Slots c B z S H Γ L σ ρ → Γ[i]? = some m → ∃ l x d, L[i]? = some l ∧ σ[i]? = some x ∧ ρ[i]? = some d ∧ SlotR c B z S H m l x d
  | _, _, _, _, _, _, .nil, e => by simp at e
  | _, _, _, _, 0, _, .cons h _, e => by simp at e; subst e; exact ⟨_, _, _, by simp, by simp, by simp, h⟩
  | _, _, _, _, i + 1, m, .cons _ r, e => by
    obtain ⟨l, x, d, h1, h2, h3, h4⟩ := Slots.get (i := i) (m := m) r (by simpa using e)
    exact ⟨l, x, d, by simpa using h1, by simpa using h2, by simpa using h3, h4⟩
theorem Slots.len : ∀ {Γ : List Md} {L : List (List Addr)} {σ : L2.St} {ρ : List D}, Slots c B z S H Γ L σ ρ → L.length = Γ.length ∧ σ.length = Γ.length ∧ ρ.length = Γ.length
  | _, _, _, _, .nil => ⟨rfl, rfl, rfl⟩
  | _, _, _, _, .cons _ r => let ⟨a, b, c⟩ := Slots.len r; ⟨congrArg Nat.succ a, congrArg Nat.succ b, congrArg Nat.succ c⟩
/-- all slots but the i-th in a greater heap, the i-th anew -/
theorem Slots.put (e : Ex S S') {m' : Md} {l' : List Addr} {x' : Option V} {d' : D} (hs : SlotR c B z S' H' m' l' x' d') : ∀ {Γ : List Md} {L : List (List Addr)} {σ : L2.St} {ρ : List D} (i : Nat), Apart L →
    (∀ a, In L a → (∀ l, L[i]? = some l → a ∉ l) → ∀ o, H a = some o → H' a = some o) → Slots c B z S H Γ L σ ρ → Slots c B z S' H' (Γ.set i m') (L.set i l') (σ.set i x') (ρ.set i d')
  | _, _, _, _, _, _, _, .nil => .nil
  | _, _, _, _, 0, ap, k, .cons _ r => .cons hs (r.mono e fun a ha => k a ha.cons fun l hl hal => by
      simp at hl
      subst hl
      exact ap.1 a hal ha)
  | _, l0 :: L, _, _, i + 1, ap, k, .cons h r => .cons (h.mono e fun a ha => k a (.head ha) fun l hl hal => ap.1 a ha ⟨l, List.mem_of_getElem? (by simpa using hl), hal⟩)
      (Slots.put e hs i ap.2 (fun a ha hn => k a ha.cons fun l hl => hn l (by simpa using hl)) r)
theorem list_set_self {α : Type} : ∀ {l : List α} {i : Nat} {x : α}, l[i]? = some x → l.set i x = l
  | [], _, _, _ => rfl
  | _ :: _, 0, _, h => by simp at h; subst h; rfl
  | _ :: l, i + 1, x, h => by
    show _ :: l.set i x = _
    rw [list_set_self (l := l) (i := i) (by simpa using h)]

theorem mut_ex (e : Ex H H') {a : Addr} (q : Mut (H a)) : Mut (H' a) := by
  cases z : H a with
  | none => rw [z] at q; exact q.elim
  | some o => rw [z] at q; rw [e a o z]; exact q
/-- the frame in a greater heap -/
theorem EnvR.ext (E : EnvR c B S0 M Γ L σ H ρ) (e : Ex H H') : EnvR c B S0 M Γ L σ H' ρ :=
  ⟨E.eb.trans e, fun a h => ⟨mut_ex e (E.hm a h).1, (E.hm a h).2⟩, E.es.trans (hide_mono e), E.ap, fun a h => ⟨by
      have q := (E.hl a h).1
      cases z : H a with
      | none => rw [z] at q; exact q.elim
      | some o => rw [z] at q; rw [e a o z]; exact q, (E.hl a h).2⟩, E.sl.mono (hide_mono e) fun a _ o h => e a o h⟩
/-- less is asked of what is shared -/
theorem EnvR.base {S1 : Hp} (E : EnvR c B S0 M Γ L σ H ρ) (e : Ex S1 S0) : EnvR c B S1 M Γ L σ H ρ := ⟨E.eb, E.hm, e.trans E.es, E.ap, E.hl, E.sl⟩
/-- all that is shared now -/
theorem EnvR.now (E : EnvR c B S0 M Γ L σ H ρ) : EnvR c B (hide (Msk M L) H) M Γ L σ H ρ := ⟨E.eb, E.hm, Ex.refl _, E.ap, E.hl, E.sl⟩
theorem EnvR.noM (E : EnvR c B S0 M Γ L σ H ρ) {a : Addr} (h : H a = none) : ¬ M a := fun hm => by
  have q := (E.hm a hm).1
  rw [h] at q
  exact q
theorem EnvR.noL (E : EnvR c B S0 M Γ L σ H ρ) {a : Addr} (h : H a = none) : ¬ In L a := fun hi => by
  have q := (E.hl a hi).1
  rw [h] at q
  exact q
theorem EnvR.sub (E : EnvR c B S0 M Γ L σ H ρ) : Ex (hide (Msk M L) H) H := hide_ex
/-- a slot is stored: its new objects are new to H, H' is greater -/
theorem EnvR.put (E : EnvR c B S0 M Γ L σ H ρ) (e : Ex H H') (i : Nat) {m' : Md} {l' : List Addr} {x' : Option V} {d' : D} (hn : ∀ a ∈ l', H a = none) (ht : ∀ a ∈ l', Mut (H' a))
    (hs : SlotR c B M.z (hide (Msk M (L.set i l')) H') H' m' l' x' d') : EnvR c B S0 M (Γ.set i m') (L.set i l') (σ.set i x') H' (ρ.set i d') := by
  have hh : Ex (hide (Msk M L) H) (hide (Msk M (L.set i l')) H') := hide_le fun a o hm ho => ⟨fun z => by
    rcases z with z | z
    · exact hm (.inl z)
    · rcases z.set with z | z
      · exact hm (.inr z)
      · rw [hn a z] at ho
        exact (nomatch ho), e a o ho⟩
  refine ⟨E.eb.trans e, fun a h => ⟨mut_ex e (E.hm a h).1, fun z => by
    rcases z.set with z | z
    · exact (E.hm a h).2 z
    · exact E.noM (hn a z) h⟩, E.es.trans hh, E.ap.set fun a ha => E.noL (hn a ha), fun a h => ?_, E.sl.put hh hs i E.ap fun a _ _ o h => e a o h⟩
  rcases h.set with h | h
  · exact ⟨((E.ext e).hl a h).1, (E.hl a h).2⟩
  · exact ⟨ht a h, E.eb.free (hn a h)⟩
/-- a slot is stored, nothing of it one's own -/
theorem EnvR.put0 (E : EnvR c B S0 M Γ L σ H ρ) (e : Ex H H') (i : Nat) {m' : Md} {x' : Option V} {d' : D} (hs : SlotR c B M.z (hide (Msk M (L.set i [])) H') H' m' [] x' d') : EnvR c B S0 M (Γ.set i m') (L.set i []) (σ.set i x') H' (ρ.set i d') :=
  E.put e i (fun _ h => by cases h) (fun _ h => by cases h) hs
theorem Msk.set0 {i : Nat} {a : Addr} (h : Msk M (L.set i []) a) : Msk M L a := by
  rcases h with h | h
  · exact .inl h
  · rcases h.set with h | h
    · exact .inr h
    · cases h
theorem hide_set0 {i : Nat} : Ex (hide (Msk M L) H) (hide (Msk M (L.set i [])) H) := hide_le fun _ _ h q => ⟨fun z => h z.set0, q⟩
/-- an owned slot changes within its own objects and new ones -/
theorem EnvR.change (E : EnvR c B S0 M Γ L σ H ρ) (i : Nat) {l : List Addr} (hl : L[i]? = some l) {m' : Md} {l' : List Addr} {x' : Option V} {d' : D} (e : ∀ a o, a ∉ l → H a = some o → H' a = some o) (hn : ∀ a ∈ l', a ∈ l ∨ H a = none) (ht : ∀ a ∈ l', Mut (H' a))
    (hs : SlotR c B M.z (hide (Msk M (L.set i l')) H') H' m' l' x' d') : EnvR c B S0 M (Γ.set i m') (L.set i l') (σ.set i x') H' (ρ.set i d') := by
  have inL : ∀ a ∈ l, In L a := fun a h => ⟨l, List.mem_of_getElem? hl, h⟩
  have hh : Ex (hide (Msk M L) H) (hide (Msk M (L.set i l')) H') := hide_le fun a o hm ho => ⟨fun z => by
    rcases z with z | z
    · exact hm (.inl z)
    · rcases z.set with z | z
      · exact hm (.inr z)
      · rcases hn a z with z | z
        · exact hm (.inr (inL a z))
        · rw [z] at ho
          exact (nomatch ho), e a o (fun z => hm (.inr (inL a z))) ho⟩
  have sep : ∀ {L : List (List Addr)} {i : Nat} {l : List Addr}, L[i]? = some l → Apart L → ∀ a ∈ l, ¬ In (L.set i []) a := by
    intro L
    induction L with
    | nil => intro i l h; simp at h
    | cons l0 L ih =>
      intro i l h ap a ha hi
      cases i with
      | zero =>
        simp at h; subst h
        rcases In.inv (show In ([] :: L) a from hi) with z | z
        · cases z
        · exact ap.1 a ha z
      | succ i =>
        have h' : L[i]? = some l := by simpa using h
        rcases In.inv (show In (l0 :: L.set i []) a from hi) with z | z
        · exact ap.1 a z ⟨l, List.mem_of_getElem? h', ha⟩
        · exact ih h' ap.2 a ha z
  have ap0 : Apart (L.set i []) := E.ap.set fun a h => by cases h
  have eq : (L.set i []).set i l' = L.set i l' := by rw [List.set_set]
  have ap1 : Apart (L.set i l') := by
    rw [← eq]
    refine ap0.set fun a ha hi => ?_
    rcases hn a ha with z | z
    · exact sep hl E.ap a z hi
    · rcases hi.set with y | y
      · exact E.noL z y
      · cases y
  refine ⟨fun a o h => e a o (fun z => ?_) (E.eb a o h), fun a h => ⟨by
    have q := (E.hm a h).1
    cases y : H a with
    | none => rw [y] at q; exact q.elim
    | some o => rw [y] at q; rw [e a o (fun z => (E.hm a h).2 (inL a z)) y]; exact q, fun z => by
    rcases z.set with z | z
    · exact (E.hm a h).2 z
    · rcases hn a z with y | y
      · exact (E.hm a h).2 (inL a y)
      · exact E.noM y h⟩, E.es.trans hh, ap1, fun a h => ?_, E.sl.put hh hs i E.ap fun a ha hna o h => e a o (hna l hl) h⟩
  · rw [(E.hl a (inL a z)).2] at h; cases h
  · by_cases hal : a ∈ l'
    · refine ⟨ht a hal, ?_⟩
      rcases hn a hal with z | z
      · exact (E.hl a (inL a z)).2
      · exact E.eb.free z
    · rcases h.set with h | h
      · refine ⟨?_, (E.hl a h).2⟩
        by_cases z : a ∈ l
        · exfalso
          have hi2 : In ((L.set i []).set i l') a := by rw [eq]; assumption
          rcases hi2.set with y | y
          · exact sep hl E.ap a z y
          · exact hal y
        · have q := (E.hl a h).1
          cases y : H a with
          | none => rw [y] at q; exact q.elim
          | some o => rw [y] at q; rw [e a o z y]; exact q
      · exact absurd h hal
end

/-! ### expressions -/
/-- how a value is known: for now | lent | shared | one's own, the items shared -/
inductive Vm where
  | t | b | s | f
def VR (c : Ct) (m : Vm) (B : Hp) (M : Mz) (L : List (List Addr)) (H : Hp) (v : V) (d : D) : Prop :=
  match m with
  | .t => Rep c H v d
  | .b => Rep c B v d
  | .s => Rep c (hide (Msk M L) H) v d
  | .f => ∃ p, v = .ref p ∧ Own c (hide (Msk M L) H) H [p] v d ∧ In L p
abbrev DFn := List D → Option D
section
variable (c : Ct) (Γ : List Md)
/-- the reading t gives f's data -/
def DE (t : TE) (m : Vm) (f : DFn) : Prop :=
  ∀ (B S0 : Hp) (M : Mz) (L : List (List Addr)) (σ : L2.St) (H : Hp) (ρ : List D), EnvR c B S0 M Γ L σ H ρ → ∀ d, f ρ = some d → ∀ Q : VK, (∀ v H', Ex H H' → VR c m B M L H' v d → Q v H') → t σ H Q
/-- .. in new objects of its own -/
def DN (t : TE) (f : DFn) : Prop :=
  ∀ (B S0 : Hp) (M : Mz) (L : List (List Addr)) (σ : L2.St) (H : Hp) (ρ : List D), EnvR c B S0 M Γ L σ H ρ → ∀ d, f ρ = some d → ∀ Q : VK,
    (∀ p H', Ex H H' → H p = none → Own c (hide (fun a => Msk M L a ∨ a = p) H') H' [p] (.ref p) d → Q (.ref p) H') → t σ H Q
def DT (t : TT) (f : List D → Option Bool) : Prop :=
  ∀ (B S0 : Hp) (M : Mz) (L : List (List Addr)) (σ : L2.St) (H : Hp) (ρ : List D), EnvR c B S0 M Γ L σ H ρ → ∀ b, f ρ = some b → ∀ Q : Bool → Hp → Prop, (∀ H', Ex H H' → Q b H') → t σ H Q
inductive VRs (c : Ct) (B : Hp) (M : Mz) (L : List (List Addr)) (H : Hp) : List Vm → List V → List D → Prop
  | nil : VRs c B M L H [] [] []
  | cons {m : Vm} {ms : List Vm} {v : V} {vs : List V} {d : D} {ds : List D} : VR c m B M L H v d → VRs c B M L H ms vs ds → VRs c B M L H (m :: ms) (v :: vs) (d :: ds)
def DA (t : TA) (ms : List Vm) (f : List D → Option (List D)) : Prop :=
  ∀ (B S0 : Hp) (M : Mz) (L : List (List Addr)) (σ : L2.St) (H : Hp) (ρ : List D), EnvR c B S0 M Γ L σ H ρ → ∀ ds, f ρ = some ds → ∀ Q : List V → Hp → Prop, (∀ vs H', Ex H H' → VRs c B M L H' ms vs ds → Q vs H') → t σ H Q
end
section
variable {c : Ct} {Γ : List Md} {B S0 H H' : Hp} {M : Mz} {L : List (List Addr)} {σ : L2.St} {ρ : List D} {v : V} {d : D} {m : Vm}
theorem VR.mono (e : Ex H H') (h : VR c m B M L H v d) : VR c m B M L H' v d := by
  cases m with
  | t => exact Rep.mono e h
  | b => exact h
  | s => exact Rep.mono (hide_mono e) h
  | f => obtain ⟨p, rfl, h, hi⟩ := h; exact ⟨p, rfl, h.mono (hide_mono e) fun a _ o h => e a o h, hi⟩
theorem VR.rep (e : Ex B H) (h : VR c m B M L H v d) : Rep c H v d := by
  cases m with
  | t => exact h
  | b => exact Rep.mono e h
  | s => exact Rep.mono hide_ex h
  | f => obtain ⟨p, rfl, h, _⟩ := h; exact h.rep hide_ex fun _ _ _ h => h
theorem VRs.mono (e : Ex H H') : ∀ {ms : List Vm} {vs : List V} {ds : List D}, VRs c B M L H ms vs ds → VRs c B M L H' ms vs ds
  | _, _, _, .nil => .nil
  | _, _, _, .cons h r => .cons (h.mono e) (r.mono e)
theorem VRs.reps (e : Ex B H) : ∀ {ms : List Vm} {vs : List V} {ds : List D}, VRs c B M L H ms vs ds → Reps c H vs ds
  | _, _, _, .nil => .nil
  | _, _, _, .cons h r => .cons (h.rep e) (r.reps e)
theorem VRs.shared : ∀ {ms : List Vm} {vs : List V} {ds : List D}, (∀ m ∈ ms, m = .s) → VRs c B M L H ms vs ds → Reps c (hide (Msk M L) H) vs ds
  | _, _, _, _, .nil => .nil
  | _, _, _, k, .cons h r => by
    have e := k _ (.head _)
    subst e
    exact .cons h (r.shared fun m hm => k m (.tail _ hm))
/-- data without objects: the same in every heap -/
def Im (v : V) (d : D) : Prop := ∀ (c : Ct) (H : Hp), Rep c H v d
theorem Im.vr (h : Im v d) (hm : m ≠ .f) : VR c m B M L H v d := by
  cases m with
  | f => exact absurd rfl hm
  | t => exact h c _
  | b => exact h c _
  | s => exact h c _
/-- what is one's own is shared -/
theorem own_rep {p : Addr} (E : EnvR c B S0 M Γ L σ H ρ) (hn : H p = none) (h : Own c (hide (fun a => Msk M L a ∨ a = p) H') H' [p] v d) : Rep c (hide (Msk M L) H') v d :=
  h.rep (hide_le fun a o hm ho => ⟨fun z => hm (.inl z), ho⟩) fun a ha o ho => hide_in (fun z => by
    have e : a = p := by simpa using ha
    subst e
    rcases z with z | z
    · exact E.noM hn z
    · exact E.noL hn z) ho
theorem DN.de {t : TE} {f : DFn} (h : DN c Γ t f) : DE c Γ t .s f := fun B S0 M L σ H ρ E d hd Q q => h B S0 M L σ H ρ E d hd Q fun p H' e hn ho => q _ H' e (own_rep E hn ho)
end
/-- two in a row -/
def d2 (g : D → D → Option D) (fa fb : DFn) : DFn := fun ρ => (fa ρ).bind fun a => (fb ρ).bind fun b => g a b
def d1 (g : D → Option D) (fa : DFn) : DFn := fun ρ => (fa ρ).bind g
theorem bind_some {α β : Type} {x : Option α} {f : α → Option β} {b : β} (h : x.bind f = some b) : ∃ a, x = some a ∧ f a = some b := by
  cases x with
  | none => cases h
  | some a => exact ⟨a, rfl, h⟩
section
variable {c : Ct} {Γ : List Md} {ta tb : TE} {ma mb : Vm} {fa fb : DFn}
theorem DE.op {r : R2} {g : D → D → Option D} (ha : DE c Γ ta ma fa) (hb : DE c Γ tb mb fb) (hr : ∀ H x y a b d, Rep c H x a → Rep c H y b → g a b = some d → ∃ v, Im v d ∧ ∀ Q : VK, Q v H → r x y H Q) : DE c Γ (tOp r ta tb) .s (d2 g fa fb) := by
  intro B S0 M L σ H ρ E d hd Q q
  obtain ⟨a, ea, hd⟩ := bind_some hd
  obtain ⟨b, eb, hd⟩ := bind_some hd
  refine ha B S0 M L σ H ρ E a ea _ fun x H1 e1 rx => ?_
  refine hb B S0 M L σ H1 ρ (E.ext e1) b eb _ fun y H2 e2 ry => ?_
  have eB : Ex B H2 := (E.eb.trans e1).trans e2
  obtain ⟨v, hv, k⟩ := hr H2 x y a b d ((rx.mono e2).rep eB) (ry.rep eB) hd
  exact k Q (q v H2 (e1.trans e2) (hv.vr (by intro z; cases z)))
theorem DE.un {r : V → Hp → VK → Prop} {g : D → Option D} (ha : DE c Γ ta ma fa) (hr : ∀ H x a d, Rep c H x a → g a = some d → ∃ v, Im v d ∧ ∀ Q : VK, Q v H → r x H Q) : DE c Γ (tUn r ta) .s (d1 g fa) := by
  intro B S0 M L σ H ρ E d hd Q q
  obtain ⟨a, ea, hd⟩ := bind_some hd
  refine ha B S0 M L σ H ρ E a ea _ fun x H1 e1 rx => ?_
  obtain ⟨v, hv, k⟩ := hr H1 x a d (rx.rep (E.eb.trans e1)) hd
  exact k Q (q v H1 e1 (hv.vr (by intro z; cases z)))
/-- how an item of what is so known is known -/
def Vm.item : Vm → Vm
  | .f => .s
  | m => m
/-- a part of the operand: as the operand is known -/
theorem DE.part {r : R2} {g : D → D → Option D} (ha : DE c Γ ta ma fa) (hb : DE c Γ tb mb fb)
    (hr : ∀ S H x y a b d, Ex S H → (Rep c S x a ∨ ∃ p, x = .ref p ∧ Own c S H [p] x a) → Rep c H y b → g a b = some d → ∃ v, Rep c S v d ∧ ∀ Q : VK, Q v H → r x y H Q) : DE c Γ (tOp r ta tb) ma.item (d2 g fa fb) := by
  intro B S0 M L σ H ρ E d hd Q q
  obtain ⟨a, ea, hd⟩ := bind_some hd
  obtain ⟨b, eb, hd⟩ := bind_some hd
  refine ha B S0 M L σ H ρ E a ea _ fun x H1 e1 rx => ?_
  refine hb B S0 M L σ H1 ρ (E.ext e1) b eb _ fun y H2 e2 ry => ?_
  have eB : Ex B H2 := (E.eb.trans e1).trans e2
  have ry' := ry.rep eB
  have rx' := rx.mono e2
  cases ma with
  | t =>
    obtain ⟨v, hv, k⟩ := hr H2 H2 x y a b d (Ex.refl _) (.inl rx') ry' hd
    exact k Q (q v H2 (e1.trans e2) hv)
  | b =>
    obtain ⟨v, hv, k⟩ := hr B H2 x y a b d eB (.inl rx') ry' hd
    exact k Q (q v H2 (e1.trans e2) hv)
  | s =>
    obtain ⟨v, hv, k⟩ := hr (hide (Msk M L) H2) H2 x y a b d hide_ex (.inl rx') ry' hd
    exact k Q (q v H2 (e1.trans e2) hv)
  | f =>
    obtain ⟨p, rfl, ho, _⟩ := rx'
    obtain ⟨v, hv, k⟩ := hr (hide (Msk M L) H2) H2 _ y a b d hide_ex (.inr ⟨p, rfl, ho⟩) ry' hd
    exact k Q (q v H2 (e1.trans e2) hv)
theorem DE.weak {t : TE} {m : Vm} {f : DFn} (h : DE c Γ t m f) : DE c Γ t .t f := fun B S0 M L σ H ρ E d hd Q q => h B S0 M L σ H ρ E d hd Q fun v H' e r => q v H' e (r.rep (E.eb.trans e))
end
end DL

/-! DL: rules for expressions. -/
namespace DL
open PySem PySem.Spec PyProof.Rows L2
/-! ### plain data -/
mutual
def toP : D → PyData
  | .non => .none
  | .bl b => .bool b
  | .int i => .int i
  | .str x => .str x
  | .tup ds => .tuple (toPs ds)
  | .lst ds => .list (toPs ds)
  | .scr ns => .list (ns.map .int)
  | .dI _ => .dict []
  | .dT _ => .dict []
  | .obj _ _ => .dict []
  | .cls _ => .dict []
def toPs : List D → List PyData
  | [] => []
  | d :: ds => toP d :: toPs ds
end
theorem toPs_map : ∀ ds : List D, toPs ds = ds.map toP
  | [] => rfl
  | d :: ds => by rw [toPs, toPs_map ds, List.map_cons]
theorem DpAll.ints {K : PySem.W.Frag} {H : Hp} : ∀ ns : List Int, DpAll K H (ns.map V.int) (ns.map PyData.int)
  | [] => .nil
  | n :: ns => .cons (.int n) (DpAll.ints ns)
section
variable {c : Ct} {H : Hp}
mutual
theorem Rep.dp : ∀ {v : V} {d : D}, Rep c H v d → (toP d).plain = true → Dp c.K H v (toP d)
  | _, _, .non, _ => by rw [toP]; exact .non
  | _, _, .bl b, _ => by rw [toP]; exact .bl b
  | _, _, .int i, _ => by rw [toP]; exact .int i
  | _, _, .str x, _ => by rw [toP]; exact .str x
  | _, _, .tup h r, p => by
    rw [toP] at p ⊢
    exact .tup (SqT.of h) (Reps.dp r (by simpa [PyData.plain] using p))
  | _, _, .lst h r, p => by
    rw [toP] at p ⊢
    exact .lst (SqL.of h) (Reps.dp r (by simpa [PyData.plain] using p))
  | _, _, .scr h, _ => by rw [toP]; exact .lst h (DpAll.ints _)
  | _, _, .dI _ _ _, p => by rw [toP] at p; exact nomatch p
  | _, _, .dT _ _ _, p => by rw [toP] at p; exact nomatch p
  | _, _, .obj _ _, p => by rw [toP] at p; exact nomatch p
  | _, _, .cls _, p => by rw [toP] at p; exact nomatch p
theorem Reps.dp : ∀ {vs : List V} {ds : List D}, Reps c H vs ds → PyData.plainAll (toPs ds) = true → DpAll c.K H vs (toPs ds)
  | _, _, .nil, _ => by rw [toPs]; exact .nil
  | _, _, .cons h r, p => by
    rw [toPs] at p ⊢
    rw [PyData.plainAll] at p
    obtain ⟨p1, p2⟩ := Bool.and_eq_true_iff.mp p
    exact .cons (Rep.dp h p1) (Reps.dp r p2)
end
end
theorem Rep.reads {X : Cx} {pins : List (Addr × Obj)} {σ : L2.St} {H : Hp} {s : Shared} {c : Ct} {v : V} {d : D} {u : Value} (I : Inv X pins σ H s) (hK : c.K = X.K) (h : Rep c H v d) (hp : (toP d).plain = true) (r : RelV v u) : ∃ as, Reads s.heap u (toP d) as :=
  Dp.reads I _ _ _ (hK ▸ h.dp hp) r

/-- the items of a sequence -/
def seqOf : D → Option (List D)
  | .lst ds => some ds
  | .tup ds => some ds
  | .scr ns => some (ns.map .int)
  | _ => none
section
variable {c : Ct} {S H : Hp}
theorem Owns.flat : ∀ {l : List Addr} {xs : List V} {ds : List D}, Owns c S H l xs ds → l = [] → Reps c S xs ds
  | _, _, _, .nil, _ => .nil
  | _, _, _, .cons h r, e => by
    obtain ⟨e1, e2⟩ := List.append_eq_nil_iff.mp e
    subst e1
    cases h with
    | sh h => exact .cons h (r.flat e2)
theorem Own.flat_lst {p : Addr} {ds : List D} (h : Own c S H [p] (.ref p) (.lst ds)) : ∃ xs, H p = some (.lst xs) ∧ Reps c S xs ds := by
  cases h with
  | lst h r => exact ⟨_, h, r.flat rfl⟩
theorem seq_rep {x : V} {a : D} {ds : List D} (e : Ex S H) (h : Rep c S x a ∨ ∃ p, x = .ref p ∧ Own c S H [p] x a) (hd : seqOf a = some ds) : ∃ p xs, x = .ref p ∧ (SqL c.K H p xs ∨ SqT c.K H p xs) ∧ Reps c S xs ds := by
  rcases h with h | ⟨p, rfl, h⟩
  · cases h with
    | tup h r => cases hd; exact ⟨_, _, rfl, .inr (SqT.of (e _ _ h)), r⟩
    | lst h r => cases hd; exact ⟨_, _, rfl, .inl (SqL.of (e _ _ h)), r⟩
    | scr h => cases hd; exact ⟨_, _, rfl, .inl (e.sq h), Reps.of_ints _⟩
    | non => cases hd
    | bl => cases hd
    | int => cases hd
    | str => cases hd
    | dI => cases hd
    | dT => cases hd
    | obj => cases hd
    | cls => cases hd
  · cases h with
    | lst h r => cases hd; exact ⟨_, _, rfl, .inl (SqL.of h), r.flat rfl⟩
    | dI => cases hd
    | dT => cases hd
    | obj => cases hd
end

/-! ### judgements with their text -/
section
variable (X : Cx) (ca : Cl → Addr) (Γ : List Md)
abbrev cT : Ct := ⟨X.K, ca⟩
def PDE (e : Expr) (m : Vm) (f : DFn) : Prop := ∃ t, PE X e t ∧ DE ⟨X.K, ca⟩ Γ t m f
def PDN (e : Expr) (f : DFn) : Prop := ∃ t, PE X e t ∧ DN ⟨X.K, ca⟩ Γ t f
def PDT (e : Expr) (f : List D → Option Bool) : Prop := ∃ t, PT X e t ∧ DT ⟨X.K, ca⟩ Γ t f
def PDW (e : Expr) (f : List D → Option Bool) : Prop := ∃ t, PW X e t ∧ DT ⟨X.K, ca⟩ Γ t f
def PDA (es : List Expr) (ms : List Vm) (f : List D → Option (List D)) : Prop := ∃ t, PA X es t ∧ DA ⟨X.K, ca⟩ Γ t ms f
/-- a comparison's operator, by data -/
def OG (op : CmpOp) (g : D → D → Option D) : Prop := ∃ r, OpR X (compareOp op) r ∧ ∀ H x y a b d, Rep ⟨X.K, ca⟩ H x a → Rep ⟨X.K, ca⟩ H y b → g a b = some d → ∃ v, Im v d ∧ ∀ Q : VK, Q v H → r x y H Q
/-- an operator of two places, by data -/
def BG (op : Operator) (g : D → D → Option D) : Prop := ∃ r, OpR X (binaryOp op) r ∧ ∀ H x y a b d, Rep ⟨X.K, ca⟩ H x a → Rep ⟨X.K, ca⟩ H y b → g a b = some d → ∃ v, Im v d ∧ ∀ Q : VK, Q v H → r x y H Q
end
def dVar (i : Nat) : DFn := fun ρ => ρ[i]?
def dC (d : D) : DFn := fun _ => some d
def asB : D → Option Bool
  | .bl b => some b
  | _ => none
def tB (f : DFn) : List D → Option Bool := fun ρ => (f ρ).bind asB
def tAndF (f g : List D → Option Bool) : List D → Option Bool := fun ρ => (f ρ).bind fun b => if b = true then g ρ else some false
def tOrF (f g : List D → Option Bool) : List D → Option Bool := fun ρ => (f ρ).bind fun b => if b = true then some true else g ρ
def tNotF (f : List D → Option Bool) : List D → Option Bool := fun ρ => (f ρ).map (!·)
def dAnd (f g : DFn) : DFn := fun ρ => (tB f ρ).bind fun b => if b = true then g ρ else some (.bl false)
def dOr (f g : DFn) : DFn := fun ρ => (tB f ρ).bind fun b => if b = true then some (.bl true) else g ρ
def dNot (f : DFn) : DFn := fun ρ => (tB f ρ).map fun b => .bl (!b)
def dIf (t : List D → Option Bool) (f g : DFn) : DFn := fun ρ => (t ρ).bind fun b => if b = true then f ρ else g ρ
section
variable {X : Cx} {ca : Cl → Addr} {Γ : List Md} {pos : Pos} {a b : Expr} {ma mb : Vm} {fa fb : DFn}
theorem Im.int (i : Int) : Im (.int i) (.int i) := fun _ _ => .int i
theorem Im.bl (b : Bool) : Im (.bl b) (.bl b) := fun _ _ => .bl b
theorem Im.non : Im .non .non := fun _ _ => .non
theorem Im.str (x : Str) : Im (.str x) (.str x) := fun _ _ => .str x
theorem de_c {c : Ct} {v : V} {d : D} (h : Im v d) : DE c Γ (tC v) .s (dC d) := fun B S0 M L σ H ρ E d' hd Q q => by
  cases hd
  exact q v H (Ex.refl _) (h.vr (by intro z; cases z))
/-- a name: a shared thing -/
theorem pd_var (i : Nat) {x : Str} (hm : Γ[i]? = some .s := by rfl) (hN : X.N[i]? = some x := by rfl) (hv : Vis X.env.scope x := by first | exact Or.inl rfl | exact Or.inr (Or.inl rfl) | exact Or.inr (Or.inr rfl)) (hd : (x == ("__debug__" : Str)) = false := by decide)
    (hcd : (x == ("__classdict__" : Str)) = false := by decide) : PDE X ca Γ (.Name x pos) .s (dVar i) := by
  refine ⟨_, pe_var hN hv hd hcd, fun B S0 M L σ H ρ E d hd Q q => ?_⟩
  obtain ⟨l, y, d', _, h2, h3, _, v, rfl, r⟩ := E.sl.get hm
  have e : d = d' := Option.some.inj (hd.symm.trans h3)
  subst e
  exact ⟨v, h2, q v H (Ex.refl _) r⟩
/-- a name: lent -/
theorem pd_varB (i : Nat) {x : Str} (hm : Γ[i]? = some .b := by rfl) (hN : X.N[i]? = some x := by rfl) (hv : Vis X.env.scope x := by first | exact Or.inl rfl | exact Or.inr (Or.inl rfl) | exact Or.inr (Or.inr rfl)) (hd : (x == ("__debug__" : Str)) = false := by decide)
    (hcd : (x == ("__classdict__" : Str)) = false := by decide) : PDE X ca Γ (.Name x pos) .b (dVar i) := by
  refine ⟨_, pe_var hN hv hd hcd, fun B S0 M L σ H ρ E d hd Q q => ?_⟩
  obtain ⟨l, y, d', _, h2, h3, _, v, rfl, r⟩ := E.sl.get hm
  have e : d = d' := Option.some.inj (hd.symm.trans h3)
  subst e
  exact ⟨v, h2, q v H (Ex.refl _) r⟩
/-- a name: one's own, read -/
theorem pd_varF (i : Nat) {x : Str} (hm : Γ[i]? = some .f := by rfl) (hN : X.N[i]? = some x := by rfl) (hv : Vis X.env.scope x := by first | exact Or.inl rfl | exact Or.inr (Or.inl rfl) | exact Or.inr (Or.inr rfl)) (hd : (x == ("__debug__" : Str)) = false := by decide)
    (hcd : (x == ("__classdict__" : Str)) = false := by decide) : PDE X ca Γ (.Name x pos) .f (dVar i) := by
  refine ⟨_, pe_var hN hv hd hcd, fun B S0 M L σ H ρ E d hd Q q => ?_⟩
  obtain ⟨l, y, d', h1, h2, h3, p, hl, rfl, r⟩ := E.sl.get hm
  have e : d = d' := Option.some.inj (hd.symm.trans h3)
  subst e
  exact ⟨_, h2, q _ H (Ex.refl _) ⟨p, rfl, r, l, List.mem_of_getElem? h1, by rw [hl]; exact .head _⟩⟩
theorem pd_int {i : Int} {j} : PDE X ca Γ (.Constant (.int i) j pos) .s (dC (.int i)) := ⟨_, pe_int, de_c (.int i)⟩
theorem pd_bl {b : Bool} {j} : PDE X ca Γ (.Constant (.bool b) j pos) .s (dC (.bl b)) := ⟨_, pe_bl, de_c (.bl b)⟩
theorem pd_non {j} : PDE X ca Γ (.Constant .none j pos) .s (dC .non) := ⟨_, pe_non, de_c .non⟩
theorem pd_str {x : Str} {j} : PDE X ca Γ (.Constant (.str x) j pos) .s (dC (.str x)) := ⟨_, pe_str, de_c (.str x)⟩
/-- a module's constant -/
theorem pd_glob {x : Str} {v : V} {u : Value} {d : D} (hm : X.mg x = some u) (r : RelV v u) (hi : Im v d) (hg : Gl X x := by rfl) (hd : (x == ("__debug__" : Str)) = false := by decide) : PDE X ca Γ (.Name x pos) .s (dC d) := ⟨_, pe_glob hg hm r hd, de_c hi⟩
theorem pd_weak (h : PDE X ca Γ a ma fa) : PDE X ca Γ a .t fa := let ⟨t, p, q⟩ := h; ⟨t, p, q.weak⟩
theorem pd_new (h : PDN X ca Γ a fa) : PDE X ca Γ a .s fa := let ⟨t, p, q⟩ := h; ⟨t, p, q.de⟩
/-! operators -/
theorem pd_bin {op : Operator} {g : D → D → Option D} (h : BG X ca op g) (ha : PDE X ca Γ a ma fa) (hb : PDE X ca Γ b mb fb) : PDE X ca Γ (.BinOp a op b pos) .s (d2 g fa fb) := by
  obtain ⟨r, h1, h2⟩ := h
  obtain ⟨ta, pa, qa⟩ := ha
  obtain ⟨tb, pb, qb⟩ := hb
  exact ⟨_, pe_op h1 pa pb, qa.op qb h2⟩
theorem pd_cmp {op : CmpOp} {g : D → D → Option D} (h : OG X ca op g) (ha : PDE X ca Γ a ma fa) (hb : PDE X ca Γ b mb fb) (hm : behindInMarks op b = false := by first | exact nomark _ | rfl) : PDE X ca Γ (.Compare a [op] [b] pos) .s (d2 g fa fb) := by
  obtain ⟨r, h1, h2⟩ := h
  obtain ⟨ta, pa, qa⟩ := ha
  obtain ⟨tb, pb, qb⟩ := hb
  exact ⟨_, pe_cmpR h1 pa pb hm, qa.op qb h2⟩
theorem DE.tt {c : Ct} {t : TE} {m : Vm} {f : DFn} (h : DE c Γ t m f) : DT c Γ (tTest t) (DL.tB f) := fun B S0 M L σ H ρ E b hb Q q => by
  obtain ⟨d, e, hd⟩ := bind_some hb
  refine h B S0 M L σ H ρ E d e _ fun v H' e' r => ?_
  cases d with
  | bl k =>
    cases hd
    have r' := r.rep (E.eb.trans e')
    cases r'
    exact ⟨b, rfl, q H' e'⟩
  | _ => cases hd
theorem pdt_cmp {op : CmpOp} {g : D → D → Option D} (h : OG X ca op g) (ha : PDE X ca Γ a ma fa) (hb : PDE X ca Γ b mb fb) (hm : behindInMarks op b = false := by first | exact nomark _ | rfl) : PDT X ca Γ (.Compare a [op] [b] pos) (DL.tB (d2 g fa fb)) := by
  obtain ⟨r, h1, h2⟩ := h
  obtain ⟨ta, pa, qa⟩ := ha
  obtain ⟨tb, pb, qb⟩ := hb
  exact ⟨_, pt_cmpR h1 pa pb hm, (qa.op qb h2).tt⟩
/-- a value that is True or False, as a test -/
theorem pdt_val (ha : PDE X ca Γ a ma fa) (he : ∀ whole, isTrue a X.env whole = (do let v ← whole; standAt a.pos; holding [v] (truthy v)) := by intro _; rfl) : PDT X ca Γ a (DL.tB fa) := by
  obtain ⟨t, p, q⟩ := ha
  exact ⟨_, pt_val p he, q.tt⟩
theorem pdt_w {f : List D → Option Bool} (h : PDW X ca Γ a f) : PDT X ca Γ a f := let ⟨t, p, q⟩ := h; ⟨t, p.pt, q⟩
theorem pdw_and1 {op} {f : List D → Option Bool} (h : PDT X ca Γ a f) (ho : op = .And := by rfl) : PDW X ca Γ (.BoolOp op [a] pos) f := by
  subst ho
  obtain ⟨t, p, q⟩ := h
  exact ⟨t, pw_and1 p, q⟩
theorem pdw_or1 {op} {f : List D → Option Bool} (h : PDT X ca Γ a f) (ho : op = .Or := by rfl) : PDW X ca Γ (.BoolOp op [a] pos) f := by
  subst ho
  obtain ⟨t, p, q⟩ := h
  exact ⟨t, pw_or1 p, q⟩
variable {rest : List Expr} {f g : List D → Option Bool}
theorem pdw_and (ha : PDT X ca Γ a f) (hb : PDW X ca Γ (.BoolOp .And (b :: rest) pos) g) : PDW X ca Γ (.BoolOp .And (a :: b :: rest) pos) (tAndF f g) := by
  obtain ⟨t, p, q⟩ := ha
  obtain ⟨u, p2, q2⟩ := hb
  refine ⟨_, pw_and p p2, fun B S0 M L σ H ρ E d hd Q k => ?_⟩
  obtain ⟨x, hx, hd⟩ := bind_some hd
  refine q B S0 M L σ H ρ E x hx _ fun H1 e1 => ?_
  cases x with
  | true => exact q2 B S0 M L σ H1 ρ (E.ext e1) d hd Q fun H2 e2 => k H2 (e1.trans e2)
  | false => cases hd; exact k H1 e1
theorem pdw_or (ha : PDT X ca Γ a f) (hb : PDW X ca Γ (.BoolOp .Or (b :: rest) pos) g) : PDW X ca Γ (.BoolOp .Or (a :: b :: rest) pos) (tOrF f g) := by
  obtain ⟨t, p, q⟩ := ha
  obtain ⟨u, p2, q2⟩ := hb
  refine ⟨_, pw_or p p2, fun B S0 M L σ H ρ E d hd Q k => ?_⟩
  obtain ⟨x, hx, hd⟩ := bind_some hd
  refine q B S0 M L σ H ρ E x hx _ fun H1 e1 => ?_
  cases x with
  | false => exact q2 B S0 M L σ H1 ρ (E.ext e1) d hd Q fun H2 e2 => k H2 (e1.trans e2)
  | true => cases hd; exact k H1 e1
theorem pdt_not (ha : PDT X ca Γ a f) : PDT X ca Γ (.UnaryOp .Not a pos) (tNotF f) := by
  obtain ⟨t, p, q⟩ := ha
  refine ⟨_, pt_not p, fun B S0 M L σ H ρ E d hd Q k => ?_⟩
  obtain ⟨x, hx, hd⟩ := Option.map_eq_some_iff.mp hd
  subst hd
  exact q B S0 M L σ H ρ E x hx _ fun H1 e1 => k H1 e1
theorem DE.bl {c : Ct} {t : TE} {m : Vm} {f : DFn} (h : DE c Γ t m f) {B S0 : Hp} {M : Mz} {L : List (List Addr)} {σ : L2.St} {H : Hp} {ρ : List D} (E : EnvR c B S0 M Γ L σ H ρ) {x : Bool} (hx : DL.tB f ρ = some x) (Q : VK) (q : ∀ H', Ex H H' → Q (.bl x) H') : t σ H Q := by
  obtain ⟨d, e, hd⟩ := bind_some hx
  refine h B S0 M L σ H ρ E d e _ fun v H' e' r => ?_
  cases d with
  | bl k =>
    cases hd
    have r' := r.rep (E.eb.trans e')
    cases r'
    exact q H' e'
  | _ => cases hd
theorem pd_one {op} (h : PDE X ca Γ a ma fa) : PDE X ca Γ (.BoolOp op [a] pos) ma fa := let ⟨t, p, q⟩ := h; ⟨t, pe_one p, q⟩
theorem pd_and (ha : PDE X ca Γ a ma fa) (hb : PDE X ca Γ (.BoolOp .And (b :: rest) pos) .s fb) : PDE X ca Γ (.BoolOp .And (a :: b :: rest) pos) .s (dAnd fa fb) := by
  obtain ⟨t, p, q⟩ := ha
  obtain ⟨u, p2, q2⟩ := hb
  refine ⟨_, pe_and p p2, fun B S0 M L σ H ρ E d hd Q k => ?_⟩
  obtain ⟨x, hx, hd⟩ := bind_some hd
  refine q.bl E hx _ fun H1 e1 => ⟨x, rfl, ?_⟩
  cases x with
  | true => exact q2 B S0 M L σ H1 ρ (E.ext e1) d hd Q fun v H2 e2 => k v H2 (e1.trans e2)
  | false => cases hd; exact k _ H1 e1 (.bl _)
theorem pd_or (ha : PDE X ca Γ a ma fa) (hb : PDE X ca Γ (.BoolOp .Or (b :: rest) pos) .s fb) : PDE X ca Γ (.BoolOp .Or (a :: b :: rest) pos) .s (dOr fa fb) := by
  obtain ⟨t, p, q⟩ := ha
  obtain ⟨u, p2, q2⟩ := hb
  refine ⟨_, pe_or p p2, fun B S0 M L σ H ρ E d hd Q k => ?_⟩
  obtain ⟨x, hx, hd⟩ := bind_some hd
  refine q.bl E hx _ fun H1 e1 => ⟨x, rfl, ?_⟩
  cases x with
  | false => exact q2 B S0 M L σ H1 ρ (E.ext e1) d hd Q fun v H2 e2 => k v H2 (e1.trans e2)
  | true => cases hd; exact k _ H1 e1 (.bl _)
theorem pd_not (ha : PDE X ca Γ a ma fa) : PDE X ca Γ (.UnaryOp .Not a pos) .s (dNot fa) := by
  obtain ⟨t, p, q⟩ := ha
  refine ⟨_, pe_not p, fun B S0 M L σ H ρ E d hd Q k => ?_⟩
  obtain ⟨x, hx, hd⟩ := Option.map_eq_some_iff.mp hd
  subst hd
  exact q.bl E hx _ fun H1 e1 => ⟨x, rfl, k _ H1 e1 (.bl _)⟩
theorem pd_if {t : Expr} (ht : PDT X ca Γ t f) (ha : PDE X ca Γ a ma fa) (hb : PDE X ca Γ b ma fb) : PDE X ca Γ (.IfExp t a b pos) ma (dIf f fa fb) := by
  obtain ⟨t, p, q⟩ := ht
  obtain ⟨_, p1, q1⟩ := ha
  obtain ⟨_, p2, q2⟩ := hb
  refine ⟨_, pe_ifExp p p1 p2, fun B S0 M L σ H ρ E d hd Q k => ?_⟩
  obtain ⟨x, hx, hd⟩ := bind_some hd
  refine q B S0 M L σ H ρ E x hx _ fun H1 e1 => ?_
  cases x with
  | true => exact q1 B S0 M L σ H1 ρ (E.ext e1) d hd Q fun v H2 e2 => k v H2 (e1.trans e2)
  | false => exact q2 B S0 M L σ H1 ρ (E.ext e1) d hd Q fun v H2 e2 => k v H2 (e1.trans e2)
end

/-! ### operators by data -/
def gI (g : Int → Int → Option D) : D → D → Option D
  | .int i, .int j => g i j
  | _, _ => none
def gAdd : D → D → Option D := gI fun i j => some (.int (i + j))
def gSub : D → D → Option D := gI fun i j => some (.int (i - j))
def gMul : D → D → Option D := gI fun i j => if (-(2 ^ 64) < i ∧ i < 2 ^ 64) ∨ (-(2 ^ 64) < j ∧ j < 2 ^ 64) then some (.int (i * j)) else none
def gMod : D → D → Option D := gI fun i j => if 0 < j then some (.int (i % j)) else none
def gDiv : D → D → Option D := gI fun i j => if 0 < j ∧ j < 1073741824 then some (.int (i / j)) else none
def gPow : D → D → Option D := gI fun i j => if 0 ≤ j ∧ j ≤ 1000000 ∧ i.natAbs < 2 ^ 64 then some (.int (i ^ j.toNat)) else none
def gShl : D → D → Option D := gI fun i j => if 0 ≤ j ∧ j ≤ 1000000 ∧ i.natAbs < 2 ^ 64 then some (.int (i * 2 ^ j.toNat)) else none
def gShr : D → D → Option D := gI fun i j => if 0 ≤ j then some (.int (i / 2 ^ j.toNat)) else none
def gBand : D → D → Option D := gI fun i j => some (.int (Builtin.bitAnd i j))
def gLt : D → D → Option D := gI fun i j => some (.bl (decide (i < j)))
def gLe : D → D → Option D := gI fun i j => some (.bl (decide (i ≤ j)))
def gGt : D → D → Option D := gI fun i j => some (.bl (decide (j < i)))
def gGe : D → D → Option D := gI fun i j => some (.bl (decide (j ≤ i)))
/-- equal, as Python has it -/
def deq (a b : D) : Bool := PyData.eqv (toP a) (toP b)
def okEq (a b : D) : Bool := (toP a).plain && ((toP b).plain && decide (min (toP a).depth (toP b).depth ≤ 60))
def gEq (a b : D) : Option D := if okEq a b = true then some (.bl (deq a b)) else none
def gNe (a b : D) : Option D := if okEq a b = true then some (.bl (!deq a b)) else none
def gIn (a b : D) : Option D := (seqOf b).bind fun ds => if (toP a).plain = true ∧ PyData.plainAll (toPs ds) = true ∧ (toP a).depth ≤ 60 then some (.bl (ds.any fun z => deq z a)) else none
def gNotIn (a b : D) : Option D := (seqOf b).bind fun ds => if (toP a).plain = true ∧ PyData.plainAll (toPs ds) = true ∧ (toP a).depth ≤ 60 then some (.bl (!ds.any fun z => deq z a)) else none
def isNon : D → Bool
  | .non => true
  | _ => false
def gIsN (a b : D) : Option D := if isNon b = true then some (.bl (isNon a)) else none
def gNotN (a b : D) : Option D := if isNon b = true then some (.bl (!isNon a)) else none
theorem gI_some {g : Int → Int → Option D} {a b d : D} (h : gI g a b = some d) : ∃ i j, a = .int i ∧ b = .int j ∧ g i j = some d := by
  unfold gI at h
  split at h
  · exact ⟨_, _, rfl, rfl, h⟩
  · cases h
theorem Rep.int_inv {c : Ct} {H : Hp} {v : V} {i : Int} (h : Rep c H v (.int i)) : v = .int i := by
  cases h
  rfl
theorem ite_some {c : Prop} [Decidable c] {x : Option D} {d : D} (h : (if c then x else none) = some d) : c ∧ x = some d := by
  split at h
  · exact ⟨by assumption, h⟩
  · cases h
section
variable {X : Cx} {ca : Cl → Addr}
theorem bg_I0 {op : Operator} {g : Int → Int → V} {g' : Int → Int → D} (h : OpR X (binaryOp op) (rI0 g)) (hi : ∀ i j, Im (g i j) (g' i j)) : BG X ca op (gI fun i j => some (g' i j)) := ⟨_, h, fun H x y a b d rx ry e => by
  obtain ⟨i, j, rfl, rfl, e⟩ := gI_some e
  have ex := rx.int_inv
  have ey := ry.int_inv
  subst ex ey
  cases e
  exact ⟨_, hi i j, fun Q q => ⟨i, j, rfl, rfl, q⟩⟩⟩
theorem bg_I {op : Operator} {C : Int → Int → Prop} {C' : Int → Int → Prop} [∀ i j, Decidable (C' i j)] {g : Int → Int → V} {g' : Int → Int → D} (h : OpR X (binaryOp op) (rI C g)) (hc : ∀ i j, C' i j → C i j) (hi : ∀ i j, Im (g i j) (g' i j)) : BG X ca op (gI fun i j => if C' i j then some (g' i j) else none) := ⟨_, h, fun H x y a b d rx ry e => by
  obtain ⟨i, j, rfl, rfl, e⟩ := gI_some e
  have ex := rx.int_inv
  have ey := ry.int_inv
  subst ex ey
  obtain ⟨hcc, e⟩ := ite_some e
  cases e
  exact ⟨_, hi i j, fun Q q => ⟨i, j, rfl, rfl, hc i j hcc, q⟩⟩⟩
theorem og_I0 {op : CmpOp} {g : Int → Int → V} {g' : Int → Int → D} (h : OpR X (compareOp op) (rI0 g)) (hi : ∀ i j, Im (g i j) (g' i j)) : OG X ca op (gI fun i j => some (g' i j)) := ⟨_, h, fun H x y a b d rx ry e => by
  obtain ⟨i, j, rfl, rfl, e⟩ := gI_some e
  have ex := rx.int_inv
  have ey := ry.int_inv
  subst ex ey
  cases e
  exact ⟨_, hi i j, fun Q q => ⟨i, j, rfl, rfl, q⟩⟩⟩
theorem bg_add : BG X ca .Add gAdd := bg_I0 op_add fun _ _ => .int _
theorem bg_sub : BG X ca .Sub gSub := bg_I0 op_sub fun _ _ => .int _
theorem bg_mul : BG X ca .Mult gMul := bg_I (C' := fun i j => (-(2 ^ 64) < i ∧ i < 2 ^ 64) ∨ (-(2 ^ 64) < j ∧ j < 2 ^ 64)) op_mul (fun _ _ h => h) fun _ _ => .int _
theorem bg_mod : BG X ca .Mod gMod := bg_I (C' := fun _ j => 0 < j) op_mod (fun _ _ h => h) fun _ _ => .int _
theorem bg_div : BG X ca .FloorDiv gDiv := bg_I (C' := fun _ j => 0 < j ∧ j < 1073741824) op_fdiv (fun _ _ h => h) fun _ _ => .int _
theorem bg_pow : BG X ca .Pow gPow := bg_I (C' := fun i j => 0 ≤ j ∧ j ≤ 1000000 ∧ i.natAbs < 2 ^ 64) op_pow (fun _ _ h => h) fun _ _ => .int _
theorem bg_shl : BG X ca .LShift gShl := bg_I (C' := fun i j => 0 ≤ j ∧ j ≤ 1000000 ∧ i.natAbs < 2 ^ 64) op_shl (fun _ _ h => h) fun _ _ => .int _
theorem bg_shr : BG X ca .RShift gShr := bg_I (C' := fun _ j => 0 ≤ j) op_shr (fun _ _ h => h) fun _ _ => .int _
theorem bg_band : BG X ca .BitAnd gBand := bg_I0 op_and fun _ _ => .int _
theorem og_lt : OG X ca .Lt gLt := og_I0 op_lt fun _ _ => .bl _
theorem og_le : OG X ca .LtE gLe := og_I0 op_le fun _ _ => .bl _
theorem og_gt : OG X ca .Gt gGt := og_I0 op_gt fun _ _ => .bl _
theorem og_ge : OG X ca .GtE gGe := og_I0 op_ge fun _ _ => .bl _
def rEqR (c : Ct) : R2 := fun x y H Q => ∃ a b, Rep c H x a ∧ Rep c H y b ∧ okEq a b = true ∧ Q (.bl (deq a b)) H
def rNeR (c : Ct) : R2 := fun x y H Q => ∃ a b, Rep c H x a ∧ Rep c H y b ∧ okEq a b = true ∧ Q (.bl (!deq a b)) H
theorem okEq_inv {a b : D} (h : okEq a b = true) : (toP a).plain = true ∧ (toP b).plain = true ∧ min (toP a).depth (toP b).depth ≤ 60 := by
  unfold okEq at h
  simp only [Bool.and_eq_true, decide_eq_true_eq] at h
  exact h
theorem op_eqR (hu : X.A.units + 64 < cLine) : OpR X (compareOp .Eq) (rEqR ⟨X.K, ca⟩) := by
  intro pins s σ H x y v u Q I rx ry h
  obtain ⟨a, b, ha, hb, ok, q⟩ := h
  obtain ⟨h1, h2, h3⟩ := okEq_inv ok
  obtain ⟨as, r1⟩ := ha.reads I rfl h1 rx
  obtain ⟨bs, r2⟩ := hb.reads I rfl h2 ry
  exact SeqAt.eq_plain r1 r2 h1 h2 (by omega) ⟨.bl _, H, I, rfl, q⟩
theorem op_neR (hu : X.A.units + 64 < cLine) : OpR X (compareOp .NotEq) (rNeR ⟨X.K, ca⟩) := by
  intro pins s σ H x y v u Q I rx ry h
  obtain ⟨a, b, ha, hb, ok, q⟩ := h
  obtain ⟨h1, h2, h3⟩ := okEq_inv ok
  obtain ⟨as, r1⟩ := ha.reads I rfl h1 rx
  obtain ⟨bs, r2⟩ := hb.reads I rfl h2 ry
  exact SeqAt.ne_plain r1 r2 h1 h2 (by omega) ⟨.bl _, H, I, rfl, q⟩
theorem og_eq {k : Nat} (hr : Room k X.A) : OG X ca .Eq gEq := ⟨_, op_eqR hr.units, fun H x y a b d rx ry e => by
  obtain ⟨ok, e⟩ := ite_some e
  cases e
  exact ⟨_, .bl _, fun Q q => ⟨a, b, rx, ry, ok, q⟩⟩⟩
theorem og_ne {k : Nat} (hr : Room k X.A) : OG X ca .NotEq gNe := ⟨_, op_neR hr.units, fun H x y a b d rx ry e => by
  obtain ⟨ok, e⟩ := ite_some e
  cases e
  exact ⟨_, .bl _, fun Q q => ⟨a, b, rx, ry, ok, q⟩⟩⟩
def rInR (c : Ct) (neg : Bool) : R2 := fun x y H Q => ∃ a b ds, Rep c H x a ∧ Rep c H y b ∧ seqOf b = some ds ∧ (toP a).plain = true ∧ PyData.plainAll (toPs ds) = true ∧ (toP a).depth ≤ 60 ∧ Q (.bl (if neg = true then !(ds.any fun z => deq z a) else ds.any fun z => deq z a)) H
theorem any_toPs (a : D) : ∀ ds : List D, ((toPs ds).any fun z => PyData.eqv z (toP a)) = ds.any fun z => deq z a
  | [] => rfl
  | d :: ds => by rw [toPs, List.any_cons, List.any_cons, any_toPs a ds]; rfl
theorem seqOf_P {b : D} {ds : List D} (h : seqOf b = some ds) : toP b = .list (toPs ds) ∨ toP b = .tuple (toPs ds) := by
  cases b with
  | lst ds' => cases h; exact .inl (by rw [toP])
  | tup ds' => cases h; exact .inr (by rw [toP])
  | scr ns =>
    cases h
    left
    rw [toP, toPs_map, List.map_map]
    congr 1
  | _ => cases h
theorem op_inR (hu : X.A.units + 64 < cLine) : OpR X (compareOp .In) (rInR ⟨X.K, ca⟩ false) := by
  intro pins s σ H x y v u Q I rx ry h
  obtain ⟨a, b, ds, ha, hb, hd, h1, h2, h3, q⟩ := h
  rw [← any_toPs] at q
  obtain ⟨as, r1⟩ := ha.reads I rfl h1 rx
  rcases seqOf_P hd with e | e
  · obtain ⟨bs, r2⟩ := hb.reads I rfl (by rw [e]; simpa [PyData.plain] using h2) ry
    rw [e] at r2
    exact SeqAt.in_list_data r2 r1 h2 h1 (by omega) ⟨.bl _, H, I, rfl, q⟩
  · obtain ⟨bs, r2⟩ := hb.reads I rfl (by rw [e]; simpa [PyData.plain] using h2) ry
    rw [e] at r2
    exact SeqAt.in_tuple_data r2 r1 h2 h1 (by omega) ⟨.bl _, H, I, rfl, q⟩
theorem op_notInR (hu : X.A.units + 64 < cLine) : OpR X (compareOp .NotIn) (rInR ⟨X.K, ca⟩ true) := by
  intro pins s σ H x y v u Q I rx ry h
  obtain ⟨a, b, ds, ha, hb, hd, h1, h2, h3, q⟩ := h
  rw [← any_toPs] at q
  obtain ⟨as, r1⟩ := ha.reads I rfl h1 rx
  rcases seqOf_P hd with e | e
  · obtain ⟨bs, r2⟩ := hb.reads I rfl (by rw [e]; simpa [PyData.plain] using h2) ry
    rw [e] at r2
    exact SeqAt.notIn_list_data r2 r1 h2 h1 (by omega) ⟨.bl _, H, I, rfl, q⟩
  · obtain ⟨bs, r2⟩ := hb.reads I rfl (by rw [e]; simpa [PyData.plain] using h2) ry
    rw [e] at r2
    exact SeqAt.notIn_tuple_data r2 r1 h2 h1 (by omega) ⟨.bl _, H, I, rfl, q⟩
theorem og_in {k : Nat} (hr : Room k X.A) : OG X ca .In gIn := ⟨_, op_inR hr.units, fun H x y a b d rx ry e => by
  obtain ⟨ds, hd, e⟩ := bind_some e
  obtain ⟨⟨h1, h2, h3⟩, e⟩ := ite_some e
  cases e
  exact ⟨_, .bl _, fun Q q => ⟨a, b, ds, rx, ry, hd, h1, h2, h3, q⟩⟩⟩
theorem og_notIn {k : Nat} (hr : Room k X.A) : OG X ca .NotIn gNotIn := ⟨_, op_notInR hr.units, fun H x y a b d rx ry e => by
  obtain ⟨ds, hd, e⟩ := bind_some e
  obtain ⟨⟨h1, h2, h3⟩, e⟩ := ite_some e
  cases e
  exact ⟨_, .bl _, fun Q q => ⟨a, b, ds, rx, ry, hd, h1, h2, h3, q⟩⟩⟩
theorem isNon_rep {c : Ct} {H : Hp} {v : V} {d : D} (h : Rep c H v d) : decide (v = .non) = isNon d := by
  cases h <;> first | rfl | exact decide_eq_false (fun z => nomatch z)
theorem isNon_inv {c : Ct} {H : Hp} {v : V} {d : D} (h : Rep c H v d) (e : isNon d = true) : v = .non := by
  rw [← isNon_rep h] at e
  exact of_decide_eq_true e
theorem og_isN : OG X ca .Is gIsN := ⟨_, op_isN, fun H x y a b d rx ry e => by
  obtain ⟨h1, e⟩ := ite_some e
  cases e
  refine ⟨_, .bl _, fun Q q => ⟨isNon_inv ry h1, ?_⟩⟩
  rw [isNon_rep rx]
  exact q⟩
theorem og_notN : OG X ca .IsNot gNotN := ⟨_, op_notN, fun H x y a b d rx ry e => by
  obtain ⟨h1, e⟩ := ite_some e
  cases e
  refine ⟨_, .bl _, fun Q q => ⟨isNon_inv ry h1, ?_⟩⟩
  rw [isNon_rep rx]
  exact q⟩
end
end DL

/-! DL: displays, items, slices, fields, calls of built-ins. -/
namespace DL
open PySem PySem.Spec PyProof.Rows L2
theorem sz1000 {n : Nat} (h : n ≤ 1000) : n ≤ sizeLine := Nat.le_of_lt (small1000 h)
/-! ### argument lists, displays -/
def dNilA : List D → Option (List D) := fun _ => some []
def dConsA (f : DFn) (g : List D → Option (List D)) : List D → Option (List D) := fun ρ => (f ρ).bind fun d => (g ρ).map (d :: ·)
def dTup (g : List D → Option (List D)) : DFn := fun ρ => (g ρ).map .tup
def dLst (g : List D → Option (List D)) : DFn := fun ρ => (g ρ).map .lst
section
variable {X : Cx} {ca : Cl → Addr} {Γ : List Md} {pos : Pos} {a b : Expr} {ma mb : Vm} {fa fb : DFn} {es : List Expr} {ms : List Vm} {fs : List D → Option (List D)}
theorem pda_nil : PDA X ca Γ [] [] dNilA := ⟨_, pa_nil, fun B S0 M L σ H ρ E ds hd Q q => by cases hd; exact q [] H (Ex.refl _) .nil⟩
theorem pda_cons (ha : PDE X ca Γ a ma fa) (hr : PDA X ca Γ es ms fs) (hs : starEach (a :: es) X.env = (false, eval a X.env) :: starEach es X.env := by rfl) : PDA X ca Γ (a :: es) (ma :: ms) (dConsA fa fs) := by
  obtain ⟨t, p, q⟩ := ha
  obtain ⟨u, p2, q2⟩ := hr
  refine ⟨_, pa_cons p p2 hs, fun B S0 M L σ H ρ E ds hd Q k => ?_⟩
  obtain ⟨d, e1, hd⟩ := bind_some hd
  obtain ⟨r, e2, hd⟩ := Option.map_eq_some_iff.mp hd
  subst hd
  refine q B S0 M L σ H ρ E d e1 _ fun v H1 x1 r1 => ?_
  refine q2 B S0 M L σ H1 ρ (E.ext x1) r e2 _ fun vs H2 x2 r2 => ?_
  exact k _ H2 (x1.trans x2) (.cons (r1.mono x2) r2)
theorem VRs.len {c : Ct} {B H : Hp} {M : Mz} {L : List (List Addr)} : ∀ {ms : List Vm} {vs : List V} {ds : List D}, VRs c B M L H ms vs ds → vs.length = ms.length
  | _, _, _, .nil => rfl
  | _, _, _, .cons _ r => congrArg Nat.succ r.len
theorem all_s : ∀ {n : Nat} {m : Vm}, m ∈ List.replicate n Vm.s → m = .s := fun h => (List.mem_replicate.mp h).2
/-- items shared, out of a fresh object -/
theorem reps_upd {c : Ct} {M : Mz} {L : List (List Addr)} {H : Hp} {p : Addr} {o : HO} {xs : List V} {ds : List D} (hp : H p = none) (r : Reps c (hide (Msk M L) H) xs ds) : Reps c (hide (Msk M L) (upd H p o)) xs ds := r.mono (hide_mono (Ex.new hp))
theorem reps_updN {c : Ct} {M : Mz} {L : List (List Addr)} {H : Hp} {p : Addr} {o : HO} {xs : List V} {ds : List D} (hp : H p = none) (r : Reps c (hide (Msk M L) H) xs ds) : Reps c (hide (fun a => Msk M L a ∨ a = p) (upd H p o)) xs ds :=
  r.mono (hide_le fun a u h e => ⟨fun z => by
    rcases z with z | z
    · exact h z
    · rw [z, hp] at e
      exact (nomatch e), (upd_ne (ne_of_none e hp)).trans e⟩)
theorem pd_tup {x1} (h : PDA X ca Γ es ms fs) (hm : ms = List.replicate ms.length .s := by rfl) (hl : ms.length ≤ 1000 := by decide) : PDE X ca Γ (.Tuple es x1 pos) .s (dTup fs) := by
  obtain ⟨t, p, q⟩ := h
  refine ⟨_, pe_tup p, fun B S0 M L σ H ρ E d hd Q k => ?_⟩
  obtain ⟨ds, e1, hd⟩ := Option.map_eq_some_iff.mp hd
  subst hd
  refine q B S0 M L σ H ρ E ds e1 _ fun vs H1 x1 r => ⟨sz1000 (by rw [r.len]; exact hl), fun p hp => ?_⟩
  have E1 := E.ext x1
  exact k _ _ (x1.trans (Ex.new hp)) (.tup (hide_in (fun z => by
    rcases z with z | z
    · exact E1.noM hp z
    · exact E1.noL hp z) upd_same) (reps_upd hp (r.shared fun m hmm => all_s (hm ▸ hmm))))
theorem pd_lst (h : PDA X ca Γ es ms fs) (hm : ms = List.replicate ms.length .s := by rfl) (hl : ms.length ≤ 1000 := by decide) : PDN X ca Γ (.List es pos) (dLst fs) := by
  obtain ⟨t, p, q⟩ := h
  refine ⟨_, pe_lst p, fun B S0 M L σ H ρ E d hd Q k => ?_⟩
  obtain ⟨ds, e1, hd⟩ := Option.map_eq_some_iff.mp hd
  subst hd
  refine q B S0 M L σ H ρ E ds e1 _ fun vs H1 x1 r => ⟨sz1000 (by rw [r.len]; exact hl), fun p hp => ?_⟩
  exact k p _ (x1.trans (Ex.new hp)) (x1.free hp) (.lst upd_same (Owns.sh (reps_updN hp (r.shared fun m hmm => all_s (hm ▸ hmm)))))
theorem pd_dI : PDN X ca Γ (.Dict [] [] pos) (dC (.dI [])) := ⟨_, pe_dnewK, fun B S0 M L σ H ρ E d hd Q k p hp => by
  cases hd
  exact k p _ (Ex.new hp) hp (.dI (ks := []) (vs := []) rfl upd_same .nil)⟩
theorem pd_dT : PDN X ca Γ (.Dict [] [] pos) (dC (.dT [])) := ⟨_, pe_dnewT, fun B S0 M L σ H ρ E d hd Q k p hp => by
  cases hd
  exact k p _ (Ex.new hp) hp (.dT (ks := []) (vs := []) rfl upd_same .nil)⟩

/-! ### items -/
def gIx (a b : D) : Option D :=
  match b with
  | .int i => (seqOf a).bind fun ds => atI ds i
  | _ => none
theorem atI_reps {c : Ct} {S : Hp} {xs : List V} {ds : List D} (r : Reps c S xs ds) {i : Int} {d : D} (h : atI ds i = some d) : ∃ v, atI xs i = some v ∧ Rep c S v d := by
  unfold atI at h ⊢
  obtain ⟨j, e1, e2⟩ := bind_some h
  rw [r.length, e1]
  exact r.getD e2
theorem pd_ix (ha : PDE X ca Γ a ma fa) (hb : PDE X ca Γ b mb fb) (hs : PlainIx b := by exact fun _ _ => rfl) : PDE X ca Γ (.Subscript a b pos) ma.item (d2 gIx fa fb) := by
  obtain ⟨t, p, q⟩ := ha
  obtain ⟨u, p2, q2⟩ := hb
  refine ⟨_, pe_ix ix_seq p p2 hs, q.part q2 fun S H x y a b d e rx ry hg => ?_⟩
  unfold gIx at hg
  split at hg
  · obtain ⟨ds, h1, h2⟩ := bind_some hg
    obtain ⟨pp, xs, rfl, hq, r⟩ := seq_rep e rx h1
    obtain ⟨v, hv, rv⟩ := atI_reps r h2
    have ey := ry.int_inv
    subst ey
    refine ⟨v, rv, fun Q k => ?_⟩
    rcases hq with hq | hq
    · exact .inl ⟨pp, xs, _, v, rfl, rfl, hq, hv, k⟩
    · exact .inr (.inl ⟨pp, xs, _, v, rfl, rfl, hq, hv, k⟩)
  · cases hg

/-! ### a new list of shared items -/
/-- the items are shared: those of what is shared, or of one's own -/
theorem seq_shared {c : Ct} {B S0 H : Hp} {M : Mz} {L : List (List Addr)} {σ : L2.St} {ρ : List D} {v : V} {a : D} {ds : List D} {m : Vm} (hm : m = .s ∨ m = .f) (r : VR c m B M L H v a) (hd : seqOf a = some ds) :
    ∃ p xs, v = .ref p ∧ (SqL c.K H p xs ∨ SqT c.K H p xs) ∧ Reps c (hide (Msk M L) H) xs ds := by
  rcases hm with rfl | rfl
  · exact seq_rep hide_ex (.inl r) hd
  · obtain ⟨p, e, ho, _⟩ := r
    exact seq_rep hide_ex (.inr ⟨p, e, ho⟩) hd
mutual
/-- data without objects that may change -/
def flat : D → Bool
  | .non => true
  | .bl _ => true
  | .int _ => true
  | .str _ => true
  | .tup ds => flats ds
  | .lst _ => false
  | .scr _ => false
  | .dI _ => false
  | .dT _ => false
  | .obj _ _ => false
  | .cls _ => false
def flats : List D → Bool
  | [] => true
  | d :: ds => flat d && flats ds
end
mutual
theorem Rep.flat_any {c : Ct} {S S' : Hp} (ht : ∀ a xs, S a = some (.tup xs) → S' a = some (.tup xs)) : ∀ {v : V} {d : D}, Rep c S v d → flat d = true → Rep c S' v d
  | _, _, .non, _ => .non
  | _, _, .bl _, _ => .bl _
  | _, _, .int _, _ => .int _
  | _, _, .str _, _ => .str _
  | _, _, .tup h r, f => .tup (ht _ _ h) (Reps.flat_any ht r (by rw [flat] at f; exact f))
  | _, _, .lst _ _, f => by rw [flat] at f; exact nomatch f
  | _, _, .scr _, f => by rw [flat] at f; exact nomatch f
  | _, _, .dI _ _ _, f => by rw [flat] at f; exact nomatch f
  | _, _, .dT _ _ _, f => by rw [flat] at f; exact nomatch f
  | _, _, .obj _ _, f => by rw [flat] at f; exact nomatch f
  | _, _, .cls _, f => by rw [flat] at f; exact nomatch f
theorem Reps.flat_any {c : Ct} {S S' : Hp} (ht : ∀ a xs, S a = some (.tup xs) → S' a = some (.tup xs)) : ∀ {vs : List V} {ds : List D}, Reps c S vs ds → flats ds = true → Reps c S' vs ds
  | _, _, .nil, _ => .nil
  | _, _, .cons h r, f => by
    rw [flats] at f
    obtain ⟨f1, f2⟩ := Bool.and_eq_true_iff.mp f
    exact .cons (Rep.flat_any ht h f1) (Reps.flat_any ht r f2)
end
theorem EnvR.tup_in {c : Ct} {B S0 H : Hp} {M : Mz} {L : List (List Addr)} {Γ : List Md} {σ : L2.St} {ρ : List D} (E : EnvR c B S0 M Γ L σ H ρ) {a : Addr} {xs : List V} (h : H a = some (.tup xs)) : hide (Msk M L) H a = some (.tup xs) :=
  hide_in (fun z => by
    rcases z with z | z
    · have q := (E.hm a z).1
      rw [h] at q
      exact q
    · have q := (E.hl a z).1
      rw [h] at q
      exact q) h
/-- flat data is shared, however it is known -/
theorem VR.flat {c : Ct} {B S0 H : Hp} {M : Mz} {L : List (List Addr)} {Γ : List Md} {σ : L2.St} {ρ : List D} {m : Vm} {v : V} {d : D} (E : EnvR c B S0 M Γ L σ H ρ) (h : VR c m B M L H v d) (hf : DL.flat d = true) : Rep c (hide (Msk M L) H) v d :=
  Rep.flat_any (fun _ _ h => E.tup_in h) (h.rep E.eb) hf
theorem Reps.flat {c : Ct} {B S0 H : Hp} {M : Mz} {L : List (List Addr)} {Γ : List Md} {σ : L2.St} {ρ : List D} {vs : List V} {ds : List D} (E : EnvR c B S0 M Γ L σ H ρ) (h : Reps c H vs ds) (hf : DL.flats ds = true) : Reps c (hide (Msk M L) H) vs ds :=
  Reps.flat_any (fun _ _ h => E.tup_in h) h hf
def dImm (f : DFn) : DFn := fun ρ => (f ρ).bind fun d => if flat d = true then some d else none
theorem pd_imm (h : PDE X ca Γ a ma fa) : PDE X ca Γ a .s (dImm fa) := by
  obtain ⟨t, p, q⟩ := h
  refine ⟨t, p, fun B S0 M L σ H ρ E d hd Q k => ?_⟩
  obtain ⟨d', e1, hd⟩ := bind_some hd
  obtain ⟨hf, hd⟩ := ite_some hd
  cases hd
  exact q B S0 M L σ H ρ E d e1 Q fun v H' e r => k v H' e (r.flat (E.ext e) hf)
/-- one's own, new, let go as shared -/
theorem pd_lent (h : PDE X ca Γ a .b fa) : PDE X ca Γ a .t fa := pd_weak h

/-! ### slices -/
def cutD (ds : List D) (lo hi : Option Int) : List D := (ds.drop (HT.sIx ds.length 0 lo)).take (HT.sIx ds.length ds.length hi - HT.sIx ds.length 0 lo)
theorem cut_reps {c : Ct} {S : Hp} {xs : List V} {ds : List D} (r : Reps c S xs ds) (lo hi : Option Int) : Reps c S (cutV xs lo hi) (cutD ds lo hi) := by
  unfold cutV cutD
  rw [r.length]
  exact (r.drop _).take _
def asI : D → Option Int
  | .int i => some i
  | _ => none
def PDO (X : Cx) (ca : Cl → Addr) (Γ : List Md) (e : Option Expr) (f : List D → Option (Option Int)) : Prop := ∃ t, PO X e t ∧
  ∀ (B S0 : Hp) (M : Mz) (L : List (List Addr)) (σ : L2.St) (H : Hp) (ρ : List D), EnvR ⟨X.K, ca⟩ B S0 M Γ L σ H ρ → ∀ o, f ρ = some o → ∀ Q : Option Int → Hp → Prop, (∀ H', Ex H H' → Q o H') → t σ H Q
def oNone : List D → Option (Option Int) := fun _ => some none
def oSome (f : DFn) : List D → Option (Option Int) := fun ρ => ((f ρ).bind asI).map some
theorem pdo_none : PDO X ca Γ none oNone := ⟨_, po_none, fun B S0 M L σ H ρ E o ho Q q => by cases ho; exact q H (Ex.refl _)⟩
theorem pdo_some (h : PDE X ca Γ a ma fa) : PDO X ca Γ (some a) (oSome fa) := by
  obtain ⟨t, p, q⟩ := h
  refine ⟨_, po_some p, fun B S0 M L σ H ρ E o ho Q k => ?_⟩
  obtain ⟨i, e1, ho⟩ := Option.map_eq_some_iff.mp ho
  subst ho
  obtain ⟨d, e2, e1⟩ := bind_some e1
  refine q B S0 M L σ H ρ E d e2 _ fun v H' e r => ?_
  cases d with
  | int j =>
    cases e1
    exact ⟨i, (r.rep (E.eb.trans e)).int_inv, k H' e⟩
  | _ => cases e1
def dCut (f : DFn) (lo hi : List D → Option (Option Int)) : DFn := fun ρ => (f ρ).bind fun a => (lo ρ).bind fun l => (hi ρ).bind fun u => match a with
  | .lst ds => some (.lst (cutD ds l u))
  | .scr ns => some (.lst (cutD (ns.map .int) l u))
  | _ => none
/-- a slice of a list whose items are shared: a new list -/
theorem pd_cut {lo hi : Option Expr} {fl fu : List D → Option (Option Int)} {p2 : Pos} (ha : PDE X ca Γ a ma fa) (hl : PDO X ca Γ lo fl) (hu : PDO X ca Γ hi fu) (hm : ma = .s ∨ ma = .f := by first | exact .inl rfl | exact .inr rfl) : PDN X ca Γ (.Subscript a (.Slice lo hi none p2) pos) (dCut fa fl fu) := by
  obtain ⟨t, p, q⟩ := ha
  obtain ⟨tl, pl, ql⟩ := hl
  obtain ⟨tu, pu, qu⟩ := hu
  refine ⟨_, pe_slice sl_list p pl pu, fun B S0 M L σ H ρ E d hd Q k => ?_⟩
  obtain ⟨a, e1, hd⟩ := bind_some hd
  obtain ⟨l, e2, hd⟩ := bind_some hd
  obtain ⟨u, e3, hd⟩ := bind_some hd
  refine q B S0 M L σ H ρ E a e1 _ fun x H1 x1 r1 => ?_
  refine ql B S0 M L σ H1 ρ (E.ext x1) l e2 _ fun H2 x2 => ?_
  refine qu B S0 M L σ H2 ρ ((E.ext x1).ext x2) u e3 _ fun H3 x3 => ?_
  have r3 := (r1.mono x2).mono x3
  have ex : Ex H H3 := (x1.trans x2).trans x3
  cases a with
  | lst ds =>
    cases hd
    obtain ⟨pp, xs, ex1, hq, r⟩ : ∃ pp xs, x = .ref pp ∧ SqL X.K H3 pp xs ∧ Reps ⟨X.K, ca⟩ (hide (Msk M L) H3) xs ds := by
      rcases hm with rfl | rfl
      · cases r3 with
        | lst h r => exact ⟨_, _, rfl, SqL.of (hide_of h).2, r⟩
      · obtain ⟨pp, rfl, ho, _⟩ := r3
        obtain ⟨xs, h, r⟩ := ho.flat_lst
        exact ⟨pp, xs, rfl, SqL.of h, r⟩
    refine ⟨pp, xs, ex1, hq, fun p' hp => ?_⟩
    exact k p' _ (ex.trans (Ex.new hp)) (ex.free hp) (.lst upd_same (Owns.sh (reps_updN hp (cut_reps r l u))))
  | scr ns =>
    cases hd
    obtain ⟨pp, ex1, hq⟩ : ∃ pp, x = .ref pp ∧ SqL X.K H3 pp (ns.map V.int) := by
      rcases hm with rfl | rfl
      · cases r3 with
        | scr h => exact ⟨_, rfl, Ex.sq (K := X.K) hide_ex h⟩
      · obtain ⟨pp, rfl, ho, _⟩ := r3
        cases ho
    refine ⟨pp, _, ex1, hq, fun p' hp => ?_⟩
    exact k p' _ (ex.trans (Ex.new hp)) (ex.free hp) (.lst upd_same (Owns.sh (reps_updN hp (cut_reps (Reps.of_ints ns) l u))))
  | _ => cases hd

/-! ### lists put together -/
def gCat (a b : D) : Option D :=
  match a, b with
  | .lst xs, .lst ys => if xs.length + ys.length ≤ 100000 then some (.lst (xs ++ ys)) else none
  | _, _ => none
theorem lst_shared {c : Ct} {B H : Hp} {M : Mz} {L : List (List Addr)} {x : V} {ds : List D} {m : Vm} (hm : m = .s ∨ m = .f) (r : VR c m B M L H x (.lst ds)) : ∃ p xs, x = .ref p ∧ H p = some (.lst xs) ∧ Reps c (hide (Msk M L) H) xs ds := by
  rcases hm with rfl | rfl
  · cases r with
    | lst h r => exact ⟨_, _, rfl, (hide_of h).2, r⟩
  · obtain ⟨p, rfl, ho, _⟩ := r
    obtain ⟨xs, h, r⟩ := ho.flat_lst
    exact ⟨p, xs, rfl, h, r⟩
theorem sz5 {n : Nat} (h : n ≤ 100000) : n ≤ sizeLine := Nat.le_trans h (by decide)
theorem pd_cat (ha : PDE X ca Γ a ma fa) (hb : PDE X ca Γ b mb fb) (hma : ma = .s ∨ ma = .f := by first | exact .inl rfl | exact .inr rfl) (hmb : mb = .s ∨ mb = .f := by first | exact .inl rfl | exact .inr rfl) : PDN X ca Γ (.BinOp a .Add b pos) (d2 gCat fa fb) := by
  obtain ⟨t, p, q⟩ := ha
  obtain ⟨u, p2, q2⟩ := hb
  refine ⟨_, pe_op op_cat p p2, fun B S0 M L σ H ρ E d hd Q k => ?_⟩
  obtain ⟨a, e1, hd⟩ := bind_some hd
  obtain ⟨b, e2, hd⟩ := bind_some hd
  refine q B S0 M L σ H ρ E a e1 _ fun x H1 x1 r1 => ?_
  refine q2 B S0 M L σ H1 ρ (E.ext x1) b e2 _ fun y H2 x2 r2 => ?_
  unfold gCat at hd
  split at hd
  · rename_i xs ys
    obtain ⟨hl, hd⟩ := ite_some hd
    cases hd
    obtain ⟨p1, us, rfl, h1, s1⟩ := lst_shared hma (r1.mono x2)
    obtain ⟨p2, ws, rfl, h2, s2⟩ := lst_shared hmb r2
    refine ⟨p1, p2, us, ws, rfl, rfl, h1, h2, sz5 (by rw [s1.length, s2.length]; exact hl), fun p' hp => ?_⟩
    have ex := x1.trans x2
    exact k p' _ (ex.trans (Ex.new hp)) (ex.free hp) (.lst upd_same (Owns.sh (reps_updN hp (s1.append s2))))
  · cases hd

/-! ### fields -/
/-- what the text says of a class of instances -/
structure ClsOk (K : PySem.W.Frag) (ca : Cl → Addr) (k : Cl) : Prop where
  cls : Cls K (ca k)
  no : ∀ f ∈ flds k, NoAttr K (ca k) f
def dFld (k : Cl) (i : Nat) (f : DFn) : DFn := fun ρ => (f ρ).bind fun d => match d with
  | .obj k' fs => if k' = k then fs[i]? else none
  | _ => none
theorem zip_lookup {f : Str} : ∀ {ns : List Str} {vs : List V} {i : Nat} {v : V}, ns.Nodup → ns[i]? = some f → vs[i]? = some v → (ns.zip vs).lookup f = some v
  | [], _, _, _, _, h, _ => by simp at h
  | _ :: _, [], _, _, _, _, h => by simp at h
  | n :: ns, w :: vs, 0, v, nd, h1, h2 => by
    simp at h1 h2
    subst h1 h2
    simp [List.lookup]
  | n :: ns, w :: vs, i + 1, v, nd, h1, h2 => by
    have h1' : ns[i]? = some f := by simpa using h1
    have ne : (f == n) = false := by
      have hm : f ∈ ns := List.mem_of_getElem? h1'
      have : n ∉ ns := (List.nodup_cons.mp nd).1
      simp only [beq_eq_false_iff_ne]
      rintro rfl
      exact this hm
    show ((n, w) :: ns.zip vs).lookup f = some v
    rw [List.lookup_cons, ne]
    exact zip_lookup (List.nodup_cons.mp nd).2 h1' (by simpa using h2)
theorem zip_lookup_none {f : Str} : ∀ {ns : List Str} {vs : List V}, f ∉ ns → (ns.zip vs).lookup f = none
  | [], _, _ => by simp
  | _ :: _, [], _ => by simp
  | n :: ns, w :: vs, h => by
    have ne : (f == n) = false := by
      simp only [beq_eq_false_iff_ne]
      rintro rfl
      exact h (.head _)
    show ((n, w) :: ns.zip vs).lookup f = none
    rw [List.lookup_cons, ne]
    exact zip_lookup_none fun z => h (.tail _ z)
theorem DE.fld {c : Ct} {ta : TE} {k : Cl} {i : Nat} {f : Str} (hk : ClsOk c.K c.ca k) (hf : (flds k)[i]? = some f) (hnd : (flds k).Nodup) (hm : ma ≠ .f) (q : DE c Γ ta ma fa) : DE c Γ (tFld c.K ta f) ma (dFld k i fa) := by
  intro B S0 M L σ H ρ E d hd Q kk
  obtain ⟨a, e1, hd2⟩ := bind_some hd
  refine q B S0 M L σ H ρ E a e1 _ fun x H1 x1 r => ?_
  cases a with
  | obj k' fs =>
    have hd3 : (if k' = k then fs[i]? else none) = some d := hd2
    obtain ⟨ek, hd4⟩ := ite_some hd3
    subst ek
    have fin : ∀ S, Ex S H1 → Rep c S x (.obj k' fs) → (∀ v, Rep c S v d → Q v H1) → ∃ a C dx gs v, x = .ref a ∧ H1 a = some (.ins C dx gs) ∧ Cls c.K C ∧ NoAttr c.K C f ∧ gs.lookup f = some v ∧ Q v H1 := fun S eS rS go => by
      cases rS with
      | obj h r =>
        obtain ⟨v, hv, rv⟩ := r.getD hd4
        exact ⟨_, _, _, _, v, rfl, eS _ _ h, hk.cls, hk.no f (List.mem_of_getElem? hf), zip_lookup hnd hf hv, go v rv⟩
    cases ma with
    | t => exact fin H1 (Ex.refl _) r fun v rv => kk v H1 x1 rv
    | b => exact fin B (E.eb.trans x1) r fun v rv => kk v H1 x1 rv
    | s => exact fin _ hide_ex r fun v rv => kk v H1 x1 rv
    | f => exact absurd rfl hm
  | _ => exact nomatch hd2
/-- o.f -/
theorem pd_fld (k : Cl) (i : Nat) {f : Str} (hk : ClsOk X.K ca k) (ha : PDE X ca Γ a ma fa) (hf : (flds k)[i]? = some f := by rfl) (hnd : (flds k).Nodup := by decide +kernel) (hm : ma ≠ .f := by intro z; cases z)
    (hb : attributeBase a f X.env (eval a X.env) = eval a X.env := by rfl) : PDE X ca Γ (.Attribute a f pos) ma (dFld k i fa) := by
  obtain ⟨t, p, q⟩ := ha
  exact ⟨_, pe_fld p hb, DE.fld (c := ⟨X.K, ca⟩) hk hf hnd hm q⟩
end

/-! ### built-ins -/
section
variable (X : Cx) (ca : Cl → Addr)
/-- a built-in's answer, an object of none -/
def CG (f : Value) (g : List D → Option D) : Prop := ∃ r, CallR X f r ∧ ∀ H xs ds d, Reps ⟨X.K, ca⟩ H xs ds → g ds = some d → ∃ v, Im v d ∧ ∀ Q : VK, Q v H → r xs H Q
/-- a built-in's answer: a new list of the items of its one argument -/
def CN (f : Value) (g : D → Option (List D)) : Prop := ∃ r, CallR X f r ∧ ∀ S H x a es, Ex S H → (Rep ⟨X.K, ca⟩ S x a ∨ ∃ p, x = .ref p ∧ Own ⟨X.K, ca⟩ S H [p] x a) → g a = some es → ∃ xs, Reps ⟨X.K, ca⟩ S xs es ∧ ∀ Q : VK, (∀ p, H p = none → Q (.ref p) (upd H p (.lst xs))) → r [x] H Q
end
def dCall (g : List D → Option D) (fs : List D → Option (List D)) : DFn := fun ρ => (fs ρ).bind g
def dCallN (g : D → Option (List D)) (f : DFn) : DFn := fun ρ => ((f ρ).bind g).map .lst
def dCallF (g : D → Option (List D)) (f : DFn) : DFn := fun ρ => ((f ρ).bind g).bind fun es => if flats es = true then some (.lst es) else none
section
variable {X : Cx} {ca : Cl → Addr} {Γ : List Md} {pos p : Pos} {a e : Expr} {ma : Vm} {fa : DFn} {es : List Expr} {ms : List Vm} {fs : List D → Option (List D)} {x : Str} {id T : String}
theorem pd_callB {g : List D → Option D} (h : CG X ca (.builtin id) g) (ha : PDA X ca Γ (e :: es) ms fs) (hm : X.mg x = none) (hv : bootBuiltins x = some (.builtin id) := by decide +kernel) (hg : Gl X x := by rfl) (hn : x ≠ "__name__" := by decide) (hdb : (x == ("__debug__" : Str)) = false := by decide)
    (he : starEach (e :: es) X.env = (false, eval e X.env) :: starEach es X.env := by rfl) (hpl : (backTo pos (starEach es X.env)).any (·.1) = false := by rfl) : PDE X ca Γ (.Call (.Name x p) (e :: es) [] pos) .s (dCall g fs) := by
  obtain ⟨r, h1, h2⟩ := h
  obtain ⟨t, pa, q⟩ := ha
  refine ⟨_, pe_callB h1 hg hm hv pa hn hdb he hpl, fun B S0 M L σ H ρ E d hd Q k => ?_⟩
  obtain ⟨ds, e1, hd⟩ := bind_some hd
  refine q B S0 M L σ H ρ E ds e1 _ fun vs H1 x1 rs => ?_
  obtain ⟨v, iv, hv'⟩ := h2 H1 vs ds d (rs.reps (E.eb.trans x1)) hd
  exact hv' Q (k v H1 x1 (iv.vr (by intro z; cases z)))
theorem pd_callTy {g : List D → Option D} (h : CG X ca (.type T) g) (ha : PDA X ca Γ (e :: es) ms fs) (hm : X.mg x = none) (hv : bootBuiltins x = some (.type T) := by decide +kernel) (hg : Gl X x := by rfl) (hn : x ≠ "__name__" := by decide) (hdb : (x == ("__debug__" : Str)) = false := by decide)
    (he : starEach (e :: es) X.env = (false, eval e X.env) :: starEach es X.env := by rfl) (hpl : (backTo pos (starEach es X.env)).any (·.1) = false := by rfl) : PDE X ca Γ (.Call (.Name x p) (e :: es) [] pos) .s (dCall g fs) := by
  obtain ⟨r, h1, h2⟩ := h
  obtain ⟨t, pa, q⟩ := ha
  refine ⟨_, pe_callTy h1 hg hm hv pa hn hdb he hpl, fun B S0 M L σ H ρ E d hd Q k => ?_⟩
  obtain ⟨ds, e1, hd⟩ := bind_some hd
  refine q B S0 M L σ H ρ E ds e1 _ fun vs H1 x1 rs => ?_
  obtain ⟨v, iv, hv'⟩ := h2 H1 vs ds d (rs.reps (E.eb.trans x1)) hd
  exact hv' Q (k v H1 x1 (iv.vr (by intro z; cases z)))
theorem DE.cn {c : Ct} {t : TE} {r : List V → Hp → VK → Prop} {g : D → Option (List D)} (q : DE c Γ t ma fa) (hma : ma = .s ∨ ma = .f)
    (h2 : ∀ S H x a es, Ex S H → (Rep c S x a ∨ ∃ p, x = .ref p ∧ Own c S H [p] x a) → g a = some es → ∃ xs, Reps c S xs es ∧ ∀ Q : VK, (∀ p, H p = none → Q (.ref p) (upd H p (.lst xs))) → r [x] H Q) : DN c Γ (tCB r (tCons t tNil)) (dCallN g fa) := fun B S0 M L σ H ρ E d hd Q k => by
  obtain ⟨es, e1, hd⟩ := Option.map_eq_some_iff.mp hd
  subst hd
  obtain ⟨a, e2, e1⟩ := bind_some e1
  refine q B S0 M L σ H ρ E a e2 _ fun v H1 x1 rv => ?_
  have rr : Rep c (hide (Msk M L) H1) v a ∨ ∃ p, v = .ref p ∧ Own c (hide (Msk M L) H1) H1 [p] v a := by
    rcases hma with rfl | rfl
    · exact .inl rv
    · obtain ⟨p, e, ho, _⟩ := rv
      exact .inr ⟨p, e, ho⟩
  obtain ⟨xs, rx, go⟩ := h2 _ H1 v a es hide_ex rr e1
  exact go Q fun p hp => k p _ (x1.trans (Ex.new hp)) (x1.free hp) (.lst upd_same (Owns.sh (reps_updN hp rx)))
/-- .. whatever the argument, its items flat -/
theorem DE.cf {c : Ct} {t : TE} {r : List V → Hp → VK → Prop} {g : D → Option (List D)} (q : DE c Γ t ma fa)
    (h2 : ∀ S H x a es, Ex S H → (Rep c S x a ∨ ∃ p, x = .ref p ∧ Own c S H [p] x a) → g a = some es → ∃ xs, Reps c S xs es ∧ ∀ Q : VK, (∀ p, H p = none → Q (.ref p) (upd H p (.lst xs))) → r [x] H Q) : DN c Γ (tCB r (tCons t tNil)) (dCallF g fa) := fun B S0 M L σ H ρ E d hd Q k => by
  obtain ⟨es, e1, hd⟩ := bind_some hd
  obtain ⟨hf, hd⟩ := ite_some hd
  cases hd
  obtain ⟨a, e2, e1⟩ := bind_some e1
  refine q B S0 M L σ H ρ E a e2 _ fun v H1 x1 rv => ?_
  obtain ⟨xs, rx, go⟩ := h2 H1 H1 v a es (Ex.refl _) (.inl (rv.rep (E.eb.trans x1))) e1
  have rx' : Reps c (hide (Msk M L) H1) xs es := Reps.flat (E.ext x1) rx hf
  exact go Q fun p hp => k p _ (x1.trans (Ex.new hp)) (x1.free hp) (.lst upd_same (Owns.sh (reps_updN hp rx')))
theorem pd_callBN {g : D → Option (List D)} (h : CN X ca (.builtin id) g) (ha : PDE X ca Γ e ma fa) (hm : X.mg x = none) (hma : ma = .s ∨ ma = .f := by first | exact .inl rfl | exact .inr rfl) (hv : bootBuiltins x = some (.builtin id) := by decide +kernel) (hg : Gl X x := by rfl) (hn : x ≠ "__name__" := by decide) (hdb : (x == ("__debug__" : Str)) = false := by decide)
    (he : starEach (e :: []) X.env = (false, eval e X.env) :: starEach [] X.env := by rfl) (hpl : (backTo pos (starEach [] X.env)).any (·.1) = false := by rfl) : PDN X ca Γ (.Call (.Name x p) (e :: []) [] pos) (dCallN g fa) := by
  obtain ⟨r, h1, h2⟩ := h
  obtain ⟨t, pa, q⟩ := ha
  exact ⟨_, pe_callB h1 hg hm hv (pa_cons pa pa_nil he) hn hdb he hpl, q.cn hma h2⟩
theorem pd_callTyN {g : D → Option (List D)} (h : CN X ca (.type T) g) (ha : PDE X ca Γ e ma fa) (hm : X.mg x = none) (hma : ma = .s ∨ ma = .f := by first | exact .inl rfl | exact .inr rfl) (hv : bootBuiltins x = some (.type T) := by decide +kernel) (hg : Gl X x := by rfl) (hn : x ≠ "__name__" := by decide) (hdb : (x == ("__debug__" : Str)) = false := by decide)
    (he : starEach (e :: []) X.env = (false, eval e X.env) :: starEach [] X.env := by rfl) (hpl : (backTo pos (starEach [] X.env)).any (·.1) = false := by rfl) : PDN X ca Γ (.Call (.Name x p) (e :: []) [] pos) (dCallN g fa) := by
  obtain ⟨r, h1, h2⟩ := h
  obtain ⟨t, pa, q⟩ := ha
  exact ⟨_, pe_callTy h1 hg hm hv (pa_cons pa pa_nil he) hn hdb he hpl, q.cn hma h2⟩
theorem pd_callBF {g : D → Option (List D)} (h : CN X ca (.builtin id) g) (ha : PDE X ca Γ e ma fa) (hm : X.mg x = none) (hv : bootBuiltins x = some (.builtin id) := by decide +kernel) (hg : Gl X x := by rfl) (hn : x ≠ "__name__" := by decide) (hdb : (x == ("__debug__" : Str)) = false := by decide)
    (he : starEach (e :: []) X.env = (false, eval e X.env) :: starEach [] X.env := by rfl) (hpl : (backTo pos (starEach [] X.env)).any (·.1) = false := by rfl) : PDN X ca Γ (.Call (.Name x p) (e :: []) [] pos) (dCallF g fa) := by
  obtain ⟨r, h1, h2⟩ := h
  obtain ⟨t, pa, q⟩ := ha
  exact ⟨_, pe_callB h1 hg hm hv (pa_cons pa pa_nil he) hn hdb he hpl, q.cf h2⟩
theorem pd_callTyF {g : D → Option (List D)} (h : CN X ca (.type T) g) (ha : PDE X ca Γ e ma fa) (hm : X.mg x = none) (hv : bootBuiltins x = some (.type T) := by decide +kernel) (hg : Gl X x := by rfl) (hn : x ≠ "__name__" := by decide) (hdb : (x == ("__debug__" : Str)) = false := by decide)
    (he : starEach (e :: []) X.env = (false, eval e X.env) :: starEach [] X.env := by rfl) (hpl : (backTo pos (starEach [] X.env)).any (·.1) = false := by rfl) : PDN X ca Γ (.Call (.Name x p) (e :: []) [] pos) (dCallF g fa) := by
  obtain ⟨r, h1, h2⟩ := h
  obtain ⟨t, pa, q⟩ := ha
  exact ⟨_, pe_callTy h1 hg hm hv (pa_cons pa pa_nil he) hn hdb he hpl, q.cf h2⟩
end
end DL

/-! DL: statements, loops, comprehensions. -/
namespace DL
open PySem PySem.Spec PyProof.Rows L2
inductive Out where
  | nx (ρ : List D) | ret (d : D) | brk (ρ : List D) | cont (ρ : List D) | exc (e : Cl) (d : D) (ρ : List D) | bad
/-- a frame's ends: does it hand back a thing of its own; the modes at a break, a continue, a raise that is caught here -/
structure Jd where
  rf : Bool
  Γb : List Md := []
  Γc : List Md := []
  Γx : Option (List Md) := none
def ResR (c : Ct) (B : Hp) (M : Mz) (rf : Bool) (H : Hp) (v : V) (d : D) : Prop :=
  if rf = true then (v = .non ∧ d = .non) ∨ ∃ p, v = .ref p ∧ B p = none ∧ ¬ M p ∧ Own c (hide (fun a => M a ∨ a = p) H) H [p] v d else Rep c (hide M H) v d
def Post (c : Ct) (B S0 : Hp) (M : Mz) (J : Jd) (W : WX) (Γ' : List Md) (N : Ends) : Out → Prop
  | .nx ρ => ∀ L σ H, EnvR c B S0 M Γ' L σ H ρ → N.nx σ H
  | .ret d => ∀ v H, Ex B H → ResR c B M J.rf H v d → N.rt v H
  | .brk ρ => ∀ L σ H, EnvR c B S0 M J.Γb L σ H ρ → N.bk σ H
  | .cont ρ => ∀ L σ H, EnvR c B S0 M J.Γc L σ H ρ → N.ct σ H
  | .exc e d ρ => ∀ dx v L σ H, Ex B H → H dx = some (.xd [("at", v)]) → B dx = none → Rep c (hide (Msk M L) H) v d → (∀ Γx, J.Γx = some Γx → EnvR c B S0 M Γx L σ H ρ) → W (.ref (c.ca e)) (some dx) σ H
  | .bad => False
abbrev SFn := List D → Out
def DS (c : Ct) (W : WX) (J : Jd) (Γ : List Md) (t : TS) (Γ' : List Md) (F : SFn) : Prop :=
  ∀ (B S0 : Hp) (M : Mz) (L : List (List Addr)) (σ : L2.St) (H : Hp) (ρ : List D) (N : Ends), EnvR c B S0 M Γ L σ H ρ → Post c B S0 M J W Γ' N (F ρ) → t N σ H
def PDS (X : Cx) (ca : Cl → Addr) (W : WX) (J : Jd) (Γ : List Md) (st : Stmt) (Γ' : List Md) (F : SFn) : Prop := ∃ t, PS X st t ∧ DS ⟨X.K, ca⟩ W J Γ t Γ' F
def PDSs (X : Cx) (ca : Cl → Addr) (W : WX) (J : Jd) (Γ : List Md) (st : List Stmt) (Γ' : List Md) (F : SFn) : Prop := ∃ t, PSs X st t ∧ DS ⟨X.K, ca⟩ W J Γ t Γ' F

def dSeq (F G : SFn) : SFn := fun ρ => match F ρ with
  | .nx ρ' => G ρ'
  | o => o
def dNext : SFn := .nx
def dAsg (i : Nat) (f : DFn) : SFn := fun ρ => match f ρ with
  | some d => .nx (ρ.set i d)
  | none => .bad
def dRet (f : DFn) : SFn := fun ρ => match f ρ with
  | some d => .ret d
  | none => .bad
def dIfS (t : List D → Option Bool) (F G : SFn) : SFn := fun ρ => match t ρ with
  | some true => F ρ
  | some false => G ρ
  | none => .bad
def dDrop (f : DFn) : SFn := fun ρ => match f ρ with
  | some _ => .nx ρ
  | none => .bad

/-! ### weaker modes -/
def wk : Md → Md → Bool
  | _, .n => true
  | .s, .s => true
  | .b, .b => true
  | .f, .f => true
  | .o, .o => true
  | .f, .s => true
  | .x, .x => true
  | _, _ => false
def wks : List Md → List Md → Bool
  | [], [] => true
  | m :: ms, m' :: ms' => wk m m' && wks ms ms'
  | _, _ => false
section
variable {c : Ct} {B S0 H H' : Hp} {M : Mz} {Γ Γ' : List Md} {L : List (List Addr)} {σ : L2.St} {ρ : List D}
theorem EnvR.weak (h : wks Γ Γ' = true) (E : EnvR c B S0 M Γ L σ H ρ) : ∃ L', (∀ a, In L' a → In L a) ∧ EnvR c B S0 M Γ' L' σ H ρ := by
  -- which lists go on
  have pick : ∀ {Γ Γ' : List Md} {L : List (List Addr)} {σ : L2.St} {ρ : List D} {S : Hp}, wks Γ Γ' = true → Slots c B M.z S H Γ L σ ρ → ∃ L', (∀ a, In L' a → In L a) ∧ (Apart L → Apart L') ∧
      ∀ S', Ex S S' → (∀ a o, In L a → ¬ In L' a → H a = some o → S' a = some o) → Apart L → Slots c B M.z S' H Γ' L' σ ρ := by
    intro Γ
    induction Γ with
    | nil =>
      intro Γ' L σ ρ S h s
      cases s
      cases Γ' with
      | nil => exact ⟨[], fun _ h => h, fun h => h, fun _ _ _ _ => .nil⟩
      | cons _ _ => exact nomatch h
    | cons m Γ ih =>
      intro Γ' L σ ρ S h s
      cases s with
      | @cons _ _ l L x σ d ρ s1 s2 =>
        cases Γ' with
        | nil => exact nomatch h
        | cons m' Γ' =>
          obtain ⟨h1, h2⟩ := Bool.and_eq_true_iff.mp (show (wk m m' && wks Γ Γ') = true from h)
          obtain ⟨L', i1, i2, i3⟩ := ih h2 s2
          have go : ∀ l', (∀ a ∈ l', a ∈ l) → (∀ S', Ex S S' → (∀ a o, a ∈ l → a ∉ l' → H a = some o → S' a = some o) → SlotR c B M.z S' H m' l' x d) → ∃ L'', (∀ a, In L'' a → In (l :: L) a) ∧ (Apart (l :: L) → Apart L'') ∧
              ∀ S', Ex S S' → (∀ a o, In (l :: L) a → ¬ In L'' a → H a = some o → S' a = some o) → Apart (l :: L) → Slots c B M.z S' H (m' :: Γ') L'' (x :: σ) (d :: ρ) := fun l' hl hs => by
            refine ⟨l' :: L', fun a ha => ?_, fun ap => ⟨fun a ha hi => ap.1 a (hl a ha) (i1 a hi), i2 ap.2⟩, fun S' e k ap => .cons (hs S' e fun a o ha hn ho => k a o (.head ha) (fun z => ?_) ho) (i3 S' e (fun a o ha hn ho => k a o ha.cons (fun z => ?_) ho) ap.2)⟩
            · rcases ha.inv with z | z
              · exact .head (hl a z)
              · exact (i1 a z).cons
            · rcases z.inv with z | z
              · exact hn z
              · exact ap.1 a ha (i1 a z)
            · rcases z.inv with z | z
              · exact ap.1 a (hl a z) ha
              · exact hn z
          cases m' with
          | n => exact go [] (fun a h => by cases h) fun S' e k => rfl
          | b =>
            cases m with
            | b => exact go l (fun a h => h) fun S' e k => s1
            | n => exact nomatch h1
            | s => exact nomatch h1
            | f => exact nomatch h1
            | o => exact nomatch h1
            | x => exact nomatch h1
            | e => exact nomatch h1
          | s =>
            cases m with
            | s => exact go l (fun a h => h) fun S' e k => s1.mono e fun a _ o h => h
            | f =>
              obtain ⟨p, e1, e2, ho⟩ := s1
              subst e1
              exact go [] (fun a h => by cases h) fun S' e k => ⟨rfl, _, e2, ho.rep e fun a ha o hh => k a o ha (fun z => by cases z) hh⟩
            | n => exact nomatch h1
            | b => exact nomatch h1
            | o => exact nomatch h1
            | x => exact nomatch h1
            | e => exact nomatch h1
          | f =>
            cases m with
            | f => exact go l (fun a h => h) fun S' e k => s1.mono e fun a _ o h => h
            | n => exact nomatch h1
            | b => exact nomatch h1
            | s => exact nomatch h1
            | o => exact nomatch h1
            | x => exact nomatch h1
            | e => exact nomatch h1
          | o =>
            cases m with
            | o => exact go l (fun a h => h) fun S' e k => s1.mono e fun a _ o h => h
            | n => exact nomatch h1
            | b => exact nomatch h1
            | s => exact nomatch h1
            | f => exact nomatch h1
            | x => exact nomatch h1
            | e => exact nomatch h1
          | x =>
            cases m with
            | x => exact go l (fun a h => h) fun S' e k => s1.mono e fun a _ o h => h
            | n => exact nomatch h1
            | b => exact nomatch h1
            | s => exact nomatch h1
            | f => exact nomatch h1
            | o => exact nomatch h1
            | e => exact nomatch h1
          | e =>
            cases m <;> exact nomatch h1
  obtain ⟨L', i1, i2, i3⟩ := pick h E.sl
  have hh : Ex (hide (Msk M L) H) (hide (Msk M L') H) := hide_le fun a o hm ho => ⟨fun z => hm (by
    rcases z with z | z
    · exact .inl z
    · exact .inr (i1 a z)), ho⟩
  refine ⟨L', i1, E.eb, fun a h => ⟨(E.hm a h).1, fun z => (E.hm a h).2 (i1 a z)⟩, E.es.trans hh, i2 E.ap, fun a ha => E.hl a (i1 a ha), i3 _ hh (fun a o ha hn ho => hide_in (fun z => ?_) ho) E.ap⟩
  rcases z with z | z
  · exact (E.hm a z).2 ha
  · exact hn z
end
section
variable {X : Cx} {ca : Cl → Addr} {W : WX} {J : Jd} {Γ Γ1 Γ2 Γ' : List Md} {st : Stmt} {sts rest : List Stmt} {F G : SFn}
theorem DS.after {c : Ct} {t : TS} (h : DS c W J Γ t Γ1 F) (hw : wks Γ1 Γ' = true) : DS c W J Γ t Γ' F := fun B S0 M L σ H ρ N E p => h B S0 M L σ H ρ N E (by
  cases e : F ρ with
  | nx ρ' =>
    rw [e] at p
    intro L σ H E'
    obtain ⟨L', _, E''⟩ := E'.weak hw
    exact p L' σ H E''
  | _ => rw [e] at p; exact p)
theorem DS.ahead {c : Ct} {t : TS} (h : DS c W J Γ1 t Γ' F) (hw : wks Γ Γ1 = true) : DS c W J Γ t Γ' F := fun B S0 M L σ H ρ N E p => by
  obtain ⟨L', _, E'⟩ := E.weak hw
  exact h B S0 M L' σ H ρ N E' p
theorem pdss_after (h : PDSs X ca W J Γ sts Γ1 F) (hw : wks Γ1 Γ' = true := by first | decide | rfl) : PDSs X ca W J Γ sts Γ' F := let ⟨t, p, q⟩ := h; ⟨t, p, q.after hw⟩
theorem pdss_ahead (h : PDSs X ca W J Γ1 sts Γ' F) (hw : wks Γ Γ1 = true := by first | decide | rfl) : PDSs X ca W J Γ sts Γ' F := let ⟨t, p, q⟩ := h; ⟨t, p, q.ahead hw⟩
theorem pds_after (h : PDS X ca W J Γ st Γ1 F) (hw : wks Γ1 Γ' = true := by first | decide | rfl) : PDS X ca W J Γ st Γ' F := let ⟨t, p, q⟩ := h; ⟨t, p, q.after hw⟩
theorem pds_ahead (h : PDS X ca W J Γ1 st Γ' F) (hw : wks Γ Γ1 = true := by first | decide | rfl) : PDS X ca W J Γ st Γ' F := let ⟨t, p, q⟩ := h; ⟨t, p, q.ahead hw⟩

theorem pdss_nil : PDSs X ca W J Γ [] Γ dNext := ⟨_, pss_nil, fun B S0 M L σ H ρ N E p => p L σ H E⟩
theorem pdss_cons (h1 : PDS X ca W J Γ st Γ1 F) (h2 : PDSs X ca W J Γ1 rest Γ' G) : PDSs X ca W J Γ (st :: rest) Γ' (dSeq F G) := by
  obtain ⟨t, p1, q1⟩ := h1
  obtain ⟨u, p2, q2⟩ := h2
  refine ⟨_, pss_cons p1 p2, fun B S0 M L σ H ρ N E p => ?_⟩
  refine q1 B S0 M L σ H ρ _ E ?_
  unfold dSeq at p
  cases e : F ρ with
  | nx ρ' =>
    rw [e] at p
    intro L' σ' H' E'
    exact q2 B S0 M L' σ' H' ρ' N E' p
  | _ => rw [e] at p; exact p
theorem pdss_one (h1 : PDS X ca W J Γ st Γ' F) : PDSs X ca W J Γ [st] Γ' F := let ⟨t, p, q⟩ := h1; ⟨t, pss_one p, q⟩
theorem pds_pass {pos : Pos} : PDS X ca W J Γ (.Pass pos) Γ dNext := ⟨_, ps_pass, fun B S0 M L σ H ρ N E p => p L σ H E⟩
theorem pds_doc {x : Str} {j pos pos'} : PDS X ca W J Γ (.Expr (.Constant (.str x) j pos) pos') Γ dNext := ⟨_, ps_doc, fun B S0 M L σ H ρ N E p => p L σ H E⟩
/-- code that the proof never comes to -/
theorem pdss_never : PDSs X ca W J Γ sts Γ' (fun _ => .bad) := ⟨_, pss_never, fun B S0 M L σ H ρ N E p => p.elim⟩
theorem pds_brk {pos : Pos} (h : J.Γb = Γ := by rfl) : PDS X ca W J Γ (.Break pos) Γ' .brk := ⟨_, ps_break, fun B S0 M L σ H ρ N E p => p L σ H (h ▸ E)⟩
theorem pds_cont {pos : Pos} (h : J.Γc = Γ := by rfl) : PDS X ca W J Γ (.Continue pos) Γ' .cont := ⟨_, ps_continue, fun B S0 M L σ H ρ N E p => p L σ H (h ▸ E)⟩
variable {e : Expr} {f : DFn} {m : Vm} {pos pos' : Pos} {x : Str}
theorem set_s {c : Ct} {B S0 H H' : Hp} {M : Mz} {L : List (List Addr)} {σ : L2.St} {ρ : List D} {v : V} {d : D} (E : EnvR c B S0 M Γ L σ H ρ) (e : Ex H H') (i : Nat) (r : Rep c (hide (Msk M L) H') v d) :
    EnvR c B S0 M (Γ.set i .s) (L.set i []) (σ.set i (some v)) H' (ρ.set i d) := E.put0 e i ⟨rfl, v, rfl, r.mono hide_set0⟩
theorem set_b {c : Ct} {B S0 H H' : Hp} {M : Mz} {L : List (List Addr)} {σ : L2.St} {ρ : List D} {v : V} {d : D} (E : EnvR c B S0 M Γ L σ H ρ) (e : Ex H H') (i : Nat) (r : Rep c B v d) :
    EnvR c B S0 M (Γ.set i .b) (L.set i []) (σ.set i (some v)) H' (ρ.set i d) := E.put0 e i ⟨rfl, v, rfl, r⟩
theorem hide_setp {M : Mz} {L : List (List Addr)} {H : Hp} {i : Nat} {p : Addr} : Ex (hide (fun a => Msk M L a ∨ a = p) H) (hide (Msk M (L.set i [p])) H) := hide_le fun a o h q => ⟨fun z => h (by
  rcases z with z | z
  · exact .inl (.inl z)
  · rcases z.set with z | z
    · exact .inl (.inr z)
    · exact .inr (by simpa using z)), q⟩
theorem set_f {c : Ct} {B S0 H H' : Hp} {M : Mz} {L : List (List Addr)} {σ : L2.St} {ρ : List D} {p : Addr} {d : D} (E : EnvR c B S0 M Γ L σ H ρ) (e : Ex H H') (i : Nat) (hn : H p = none) (r : Own c (hide (fun a => Msk M L a ∨ a = p) H') H' [p] (.ref p) d) :
    EnvR c B S0 M (Γ.set i .f) (L.set i [p]) (σ.set i (some (.ref p))) H' (ρ.set i d) :=
  E.put e i (fun a ha => by have e : a = p := by simpa using ha
                            subst e; exact hn) (fun a ha => r.there a ha) ⟨p, rfl, rfl, r.mono hide_setp fun _ _ _ h => h⟩
theorem DE.set {c : Ct} {t : TE} (q : DE c Γ t .s f) (i : Nat) : DS c W J Γ (tAsg t (gName i)) (Γ.set i .s) (dAsg i f) := fun B S0 M L σ H ρ N E p => by
  unfold dAsg at p
  cases hd : f ρ with
  | none => rw [hd] at p; exact p.elim
  | some d =>
    rw [hd] at p
    exact q B S0 M L σ H ρ E d hd _ fun v H' e r => p _ _ _ (set_s E e i r)
theorem DE.setb {c : Ct} {t : TE} (q : DE c Γ t .b f) (i : Nat) : DS c W J Γ (tAsg t (gName i)) (Γ.set i .b) (dAsg i f) := fun B S0 M L σ H ρ N E p => by
  unfold dAsg at p
  cases hd : f ρ with
  | none => rw [hd] at p; exact p.elim
  | some d =>
    rw [hd] at p
    exact q B S0 M L σ H ρ E d hd _ fun v H' e r => p _ _ _ (set_b E e i r)
theorem DN.set {c : Ct} {t : TE} (q : DN c Γ t f) (i : Nat) : DS c W J Γ (tAsg t (gName i)) (Γ.set i .f) (dAsg i f) := fun B S0 M L σ H ρ N E p => by
  unfold dAsg at p
  cases hd : f ρ with
  | none => rw [hd] at p; exact p.elim
  | some d =>
    rw [hd] at p
    exact q B S0 M L σ H ρ E d hd _ fun a H' e hn r => p _ _ _ (set_f E e i hn r)
/-- x = e -/
theorem pds_set (i : Nat) (he : PDE X ca Γ e .s f) (hN : X.N.Nodup) (hi : X.N[i]? = some x := by rfl) (hx : Loc X.env.scope x := by first | exact Or.inl rfl | exact Or.inr rfl) (hs : swapsWith e (some (.Name x pos')) pos.line X.env = pure false := by rfl) (hf : X.fn x = true ∨ X.env.scope.names.lookup x = some .local := by first | exact .inl rfl | exact .inr rfl) :
    PDS X ca W J Γ (.Assign [.Name x pos'] e pos) (Γ.set i .s) (dAsg i f) := let ⟨t, p, q⟩ := he; ⟨_, ps_set hN hi hx p hs hf, q.set i⟩
theorem pds_setb (i : Nat) (he : PDE X ca Γ e .b f) (hN : X.N.Nodup) (hi : X.N[i]? = some x := by rfl) (hx : Loc X.env.scope x := by first | exact Or.inl rfl | exact Or.inr rfl) (hs : swapsWith e (some (.Name x pos')) pos.line X.env = pure false := by rfl) (hf : X.fn x = true ∨ X.env.scope.names.lookup x = some .local := by first | exact .inl rfl | exact .inr rfl) :
    PDS X ca W J Γ (.Assign [.Name x pos'] e pos) (Γ.set i .b) (dAsg i f) := let ⟨t, p, q⟩ := he; ⟨_, ps_set hN hi hx p hs hf, q.setb i⟩
theorem pds_setn (i : Nat) (he : PDN X ca Γ e f) (hN : X.N.Nodup) (hi : X.N[i]? = some x := by rfl) (hx : Loc X.env.scope x := by first | exact Or.inl rfl | exact Or.inr rfl) (hs : swapsWith e (some (.Name x pos')) pos.line X.env = pure false := by rfl) (hf : X.fn x = true ∨ X.env.scope.names.lookup x = some .local := by first | exact .inl rfl | exact .inr rfl) :
    PDS X ca W J Γ (.Assign [.Name x pos'] e pos) (Γ.set i .f) (dAsg i f) := let ⟨t, p, q⟩ := he; ⟨_, ps_set hN hi hx p hs hf, q.set i⟩
/-! return -/
theorem res_s {c : Ct} {B H : Hp} {M : Mz} {L : List (List Addr)} {v : V} {d : D} (r : Rep c (hide (Msk M L) H) v d) : Rep c (hide M H) v d := r.mono (hide_le fun a o h q => ⟨fun z => h (.inl z), q⟩)
theorem pds_ret (he : PDE X ca Γ e .s f) (hr : J.rf = false := by rfl) : PDS X ca W J Γ (.Return (some e) pos) Γ' (dRet f) := by
  obtain ⟨t, p, q⟩ := he
  refine ⟨_, ps_ret p, fun B S0 M L σ H ρ N E pp => ?_⟩
  unfold dRet at pp
  cases hd : f ρ with
  | none => rw [hd] at pp; exact pp.elim
  | some d =>
    rw [hd] at pp
    exact q B S0 M L σ H ρ E d hd _ fun v H' e r => pp v H' (E.eb.trans e) (by unfold ResR; rw [hr]; exact res_s (B := B) r)
theorem pds_retn (he : PDN X ca Γ e f) (hr : J.rf = true := by rfl) : PDS X ca W J Γ (.Return (some e) pos) Γ' (dRet f) := by
  obtain ⟨t, p, q⟩ := he
  refine ⟨_, ps_ret p, fun B S0 M L σ H ρ N E pp => ?_⟩
  unfold dRet at pp
  cases hd : f ρ with
  | none => rw [hd] at pp; exact pp.elim
  | some d =>
    rw [hd] at pp
    exact q B S0 M L σ H ρ E d hd _ fun a H' e hn r => pp _ H' (E.eb.trans e) (by
      unfold ResR
      rw [hr]
      exact .inr ⟨a, rfl, E.eb.free hn, E.noM hn, r.mono (hide_le fun b o h q => ⟨fun z => h (by
        rcases z with z | z
        · exact .inl (.inl z)
        · exact .inr z), q⟩) fun _ _ _ h => h⟩)
/-- return None, where a new list would be handed back -/
theorem pds_ret0 {j pc} (hr : J.rf = true := by rfl) : PDS X ca W J Γ (.Return (some (.Constant .none j pc)) pos) Γ' (dRet (dC .non)) := by
  refine ⟨_, ps_ret pe_non, fun B S0 M L σ H ρ N E pp => ?_⟩
  exact pp .non H E.eb (by
    unfold ResR
    rw [hr]
    exact .inl ⟨rfl, rfl⟩)
/-- return x, x one's own -/
theorem pds_retf (he : PDE X ca Γ e .f f) (hr : J.rf = true := by rfl) : PDS X ca W J Γ (.Return (some e) pos) Γ' (dRet f) := by
  obtain ⟨t, p, q⟩ := he
  refine ⟨_, ps_ret p, fun B S0 M L σ H ρ N E pp => ?_⟩
  unfold dRet at pp
  cases hd : f ρ with
  | none => rw [hd] at pp; exact pp.elim
  | some d =>
    rw [hd] at pp
    refine q B S0 M L σ H ρ E d hd _ fun v H' e r => pp v H' (E.eb.trans e) ?_
    unfold ResR
    rw [hr]
    obtain ⟨a, rfl, ho, hi⟩ := r
    have hB := (E.hl a hi).2
    exact .inr ⟨a, rfl, hB, fun z => (E.hm a z).2 hi, ho.mono (hide_le fun b o h q => ⟨fun z => h (by
        rcases z with z | z
        · exact .inl z
        · rw [z]; exact .inr hi), q⟩) fun _ _ _ h => h⟩
end
end DL

/-! DL: if, loops, comprehensions. -/
namespace DL
open PySem PySem.Spec PyProof.Rows L2
section
variable {X : Cx} {ca : Cl → Addr} {W : WX} {J : Jd} {Γ Γ1 Γ2 Γ' : List Md} {st : Stmt} {sts rest : List Stmt} {F G : SFn} {e : Expr} {f : DFn} {m : Vm} {pos pos' : Pos} {x : Str}
theorem pds_if {c : Expr} {a b : List Stmt} {tf : List D → Option Bool} (ht : PDT X ca Γ c tf) (ha : PDSs X ca W J Γ a Γ' F) (hb : PDSs X ca W J Γ b Γ' G) : PDS X ca W J Γ (.If c a b pos) Γ' (dIfS tf F G) := by
  obtain ⟨t, p, q⟩ := ht
  obtain ⟨ta, p1, q1⟩ := ha
  obtain ⟨tb, p2, q2⟩ := hb
  refine ⟨_, ps_if p p1 p2, fun B S0 M L σ H ρ N E pp => ?_⟩
  unfold dIfS at pp
  cases hd : tf ρ with
  | none => rw [hd] at pp; exact pp.elim
  | some d =>
    rw [hd] at pp
    refine q B S0 M L σ H ρ E d hd _ fun H1 x1 => ?_
    cases d with
    | true => exact q1 B S0 M L σ H1 ρ N (E.ext x1) pp
    | false => exact q2 B S0 M L σ H1 ρ N (E.ext x1) pp
theorem pds_expr (he : PDE X ca Γ e m f) (hs : swapsWith e none pos.line X.env = pure false := by rfl) : PDS X ca W J Γ (.Expr e pos) Γ (dDrop f) := by
  obtain ⟨t, p, q⟩ := he
  refine ⟨_, ps_expr p hs, fun B S0 M L σ H ρ N E pp => ?_⟩
  unfold dDrop at pp
  cases hd : f ρ with
  | none => rw [hd] at pp; exact pp.elim
  | some d =>
    rw [hd] at pp
    exact q B S0 M L σ H ρ E d hd _ fun v H1 x1 _ => pp L σ H1 (E.ext x1)

/-! ### targets -/
def md : Bool → Md
  | true => .s
  | false => .b
def vm : Bool → Vm
  | true => .s
  | false => .b
/-- only the slots is are stored -/
def Only (is : List Nat) (σ σ' : L2.St) : Prop := σ'.length = σ.length ∧ ∀ k, k ∉ is → σ'[k]? = σ[k]?
theorem Only.trans {is js : List Nat} {σ σ1 σ2 : L2.St} (a : Only is σ σ1) (b : Only js σ1 σ2) : Only (is ++ js) σ σ2 :=
  ⟨b.1.trans a.1, fun k hk => (b.2 k fun h => hk (List.mem_append_right _ h)).trans (a.2 k fun h => hk (List.mem_append_left _ h))⟩
theorem Only.one (σ : L2.St) (i : Nat) (v : Option V) : Only [i] σ (σ.set i v) := ⟨List.length_set, fun k hk => List.getElem?_set_ne fun z => hk (by simp [z])⟩
/-- a target: what it does to the modes, to the data -/
def DG (c : Ct) (sh : Bool) (Γ : List Md) (g : TG) (Γ' : List Md) (is : List Nat) (u : D → List D → Option (List D)) : Prop :=
  ∀ (B S0 : Hp) (M : Mz) (L : List (List Addr)) (σ : L2.St) (H : Hp) (ρ : List D), EnvR c B S0 M Γ L σ H ρ → ∀ v d ρ', VR c (vm sh) B M L H v d → u d ρ = some ρ' → ∀ Q : L2.St → Hp → Prop, (∀ σ', Only is σ σ' → EnvR c B S0 M Γ' L σ' H ρ' → Q σ' H) → g v σ H Q
def DGs (c : Ct) (sh : Bool) (Γ : List Md) (g : TGs) (Γ' : List Md) (is : List Nat) (u : List D → List D → Option (List D)) : Prop :=
  ∀ (B S0 : Hp) (M : Mz) (L : List (List Addr)) (σ : L2.St) (H : Hp) (ρ : List D), EnvR c B S0 M Γ L σ H ρ → ∀ vs ds ρ', (if sh = true then Reps c (hide (Msk M L) H) vs ds else Reps c B vs ds) → u ds ρ = some ρ' → ∀ Q : L2.St → Hp → Prop, (∀ σ', Only is σ σ' → EnvR c B S0 M Γ' L σ' H ρ' → Q σ' H) → g vs σ H Q
def PDG (X : Cx) (ca : Cl → Addr) (sh : Bool) (Γ : List Md) (tg : Expr) (Γ' : List Md) (is : List Nat) (u : D → List D → Option (List D)) : Prop := ∃ g, PG X tg g ∧ DG ⟨X.K, ca⟩ sh Γ g Γ' is u
def PDGs (X : Cx) (ca : Cl → Addr) (sh : Bool) (Γ : List Md) (tgs : List Expr) (Γ' : List Md) (is : List Nat) (u : List D → List D → Option (List D)) : Prop := ∃ g, PGs X tgs g ∧ DGs ⟨X.K, ca⟩ sh Γ g Γ' is u
def uName (i : Nat) : D → List D → Option (List D) := fun d ρ => some (ρ.set i d)
def uNil : List D → List D → Option (List D) := fun ds ρ => match ds with
  | [] => some ρ
  | _ => none
def uCons (u : D → List D → Option (List D)) (w : List D → List D → Option (List D)) : List D → List D → Option (List D) := fun ds ρ => match ds with
  | d :: ds => (u d ρ).bind (w ds)
  | [] => none
def uTup (u : List D → List D → Option (List D)) : D → List D → Option (List D) := fun d ρ => match d with
  | .tup ds => u ds ρ
  | _ => none
variable {sh : Bool} {is js : List Nat}
/-- the slots hold nothing of one's own -/
def okW (Γ : List Md) (vs : List Nat) : Bool := vs.all fun i => match Γ[i]? with
  | some .f => false
  | some .x => false
  | some .o => false
  | some (.e _ _ _) => false
  | _ => true
theorem okW_one {c : Ct} {B S0 H : Hp} {M : Mz} {L : List (List Addr)} {σ : L2.St} {ρ : List D} (E : EnvR c B S0 M Γ L σ H ρ) {i : Nat} (h : okW Γ [i] = true) : L.set i [] = L := by
  cases hg : Γ[i]? with
  | none => exact List.set_eq_of_length_le (by rw [E.sl.len.1]; exact List.getElem?_eq_none_iff.mp hg)
  | some m =>
    obtain ⟨l, x, d, h1, _, _, h4⟩ := E.sl.get hg
    have h' : (match Γ[i]? with | some .f => false | some .x => false | some .o => false | some (.e _ _ _) => false | _ => true) = true := by
      unfold okW at h
      rw [List.all_cons, List.all_nil, Bool.and_true] at h
      exact h
    rw [hg] at h'
    have el : l = [] := by
      cases m with
      | n => exact h4
      | b => exact h4.1
      | s => exact h4.1
      | f => exact nomatch h'
      | x => exact nomatch h'
      | o => exact nomatch h'
      | e => exact nomatch h'
    subst el
    exact list_set_self h1
theorem pdg_name (i : Nat) (hN : X.N.Nodup) (hw : okW Γ [i] = true := by decide) (hi : X.N[i]? = some x := by rfl) (hx : Loc X.env.scope x := by first | exact Or.inl rfl | exact Or.inr rfl) (hf : X.fn x = true ∨ X.env.scope.names.lookup x = some .local := by first | exact .inl rfl | exact .inr rfl) : PDG X ca sh Γ (.Name x pos) (Γ.set i (md sh)) [i] (uName i) :=
  ⟨_, pg_name hN hi hx hf, fun B S0 M L σ H ρ E v d ρ' r hu Q q => by
    cases hu
    have eL := okW_one E hw
    cases sh with
    | true =>
      have E' := set_s E (Ex.refl _) i r
      rw [eL] at E'
      exact q _ (Only.one _ _ _) E'
    | false =>
      have E' := set_b E (Ex.refl _) i r
      rw [eL] at E'
      exact q _ (Only.one _ _ _) E'⟩
theorem pdgs_nil : PDGs X ca sh Γ [] Γ [] uNil := ⟨_, pgs_nil, fun B S0 M L σ H ρ E vs ds ρ' r hu Q q => by
  cases ds with
  | nil =>
    cases hu
    have e : vs = [] := by
      cases sh with
      | true =>
        have r' : Reps ⟨X.K, ca⟩ (hide (Msk M L) H) vs [] := r
        cases r'; rfl
      | false =>
        have r' : Reps ⟨X.K, ca⟩ B vs [] := r
        cases r'; rfl
    exact ⟨e, q _ ⟨rfl, fun _ _ => rfl⟩ E⟩
  | cons _ _ => cases hu⟩
theorem pdgs_cons {tg : Expr} {tgs : List Expr} {u : D → List D → Option (List D)} {w : List D → List D → Option (List D)} (h1 : PDG X ca sh Γ tg Γ1 is u) (h2 : PDGs X ca sh Γ1 tgs Γ' js w)
    (hs : (assignEach (tg :: tgs) X.env).map (·.2) = assign tg X.env :: (assignEach tgs X.env).map (·.2) := by rfl) : PDGs X ca sh Γ (tg :: tgs) Γ' (is ++ js) (uCons u w) := by
  obtain ⟨g1, p1, q1⟩ := h1
  obtain ⟨g2, p2, q2⟩ := h2
  refine ⟨_, pgs_cons p1 p2 hs, fun B S0 M L σ H ρ E vs ds ρ' r hu Q q => ?_⟩
  cases ds with
  | nil => cases hu
  | cons d ds =>
    obtain ⟨ρ1, e1, e2⟩ := bind_some hu
    cases sh with
    | true =>
      have r' : Reps ⟨X.K, ca⟩ (hide (Msk M L) H) vs (d :: ds) := r
      cases r' with
      | cons r1 r2 => exact ⟨_, _, rfl, q1 B S0 M L σ H ρ E _ d ρ1 r1 e1 _ fun σ' on E' => q2 B S0 M L σ' H ρ1 E' _ ds ρ' r2 e2 Q fun σ2 on2 E2 => q σ2 (on.trans on2) E2⟩
    | false =>
      have r' : Reps ⟨X.K, ca⟩ B vs (d :: ds) := r
      cases r' with
      | cons r1 r2 => exact ⟨_, _, rfl, q1 B S0 M L σ H ρ E _ d ρ1 r1 e1 _ fun σ' on E' => q2 B S0 M L σ' H ρ1 E' _ ds ρ' r2 e2 Q fun σ2 on2 E2 => q σ2 (on.trans on2) E2⟩
/-- how many targets a list of data must have -/
def uLen (n : Nat) (u : List D → List D → Option (List D)) : Prop := ∀ ds ρ ρ', u ds ρ = some ρ' → ds.length = n
theorem uLen.nil : uLen 0 uNil := fun ds ρ ρ' h => by
  cases ds with
  | nil => rfl
  | cons _ _ => cases h
theorem uLen.cons {n : Nat} {u : D → List D → Option (List D)} {w : List D → List D → Option (List D)} (h : uLen n w) : uLen (n + 1) (uCons u w) := fun ds ρ ρ' e => by
  cases ds with
  | nil => cases e
  | cons d ds =>
    obtain ⟨ρ1, e1, e2⟩ := bind_some e
    exact congrArg Nat.succ (h ds ρ1 ρ' e2)
theorem pdg_tup {es : List Expr} {k n : Nat} {u : List D → List D → Option (List D)} (h : PDGs X ca sh Γ es Γ' is u) (hl : uLen n u := by first | exact uLen.nil.cons.cons | exact uLen.nil.cons.cons.cons | exact uLen.nil.cons.cons.cons.cons) (hc : X.calm = true := by rfl) (hn : (assignEach es X.env).length = n := by rfl) (hst : (assignEach es X.env).findIdx? (·.1) = none := by rfl) : PDG X ca sh Γ (.Tuple es k pos) Γ' is (uTup u) := by
  obtain ⟨g, p, q⟩ := h
  refine ⟨_, pg_tup hc p hn hst, fun B S0 M L σ H ρ E v d ρ' r hu Q k => ?_⟩
  cases d with
  | tup ds =>
    have hu' : u ds ρ = some ρ' := hu
    have hln := hl ds ρ ρ' hu'
    cases sh with
    | true =>
      cases r with
      | tup h r => exact ⟨_, _, rfl, SqT.of (hide_of h).2, by rw [r.length]; exact hln, q B S0 M L σ H ρ E _ ds ρ' r hu' Q k⟩
    | false =>
      cases r with
      | tup h r => exact ⟨_, _, rfl, SqT.of (E.eb _ _ h), by rw [r.length]; exact hln, q B S0 M L σ H ρ E _ ds ρ' r hu' Q k⟩
  | _ => cases hu

/-! ### what a loop walks -/
/-- the items ds, each known in S as long as S stands -/
def Walks (c : Ct) (S : Hp) (J : It) (ds : List D) : Prop := ∃ (n : Nat) (G : Hp → Prop) (Y : Nat → Hp → V → Hp → Prop), n = ds.length ∧ Walk J n G Y ∧ (∀ H, Ex S H → G H) ∧ ∀ i H v H', i < n → Ex S H → Y i H v H' → H' = H ∧ ∃ d, ds[i]? = some d ∧ Rep c S v d
/-- an iterable whose items are shared (sh) or lent -/
def PDI (X : Cx) (ca : Cl → Addr) (sh : Bool) (Γ : List Md) (tg iter : Expr) (f : List D → Option (List D)) : Prop := ∃ wi, PI X tg iter wi ∧
  ∀ (B S0 : Hp) (M : Mz) (L : List (List Addr)) (σ : L2.St) (H : Hp) (ρ : List D), EnvR ⟨X.K, ca⟩ B S0 M Γ L σ H ρ → ∀ ds, f ρ = some ds → ∀ R : It → Hp → Prop,
    (∀ J H', Ex H H' → Walks ⟨X.K, ca⟩ (if sh = true then hide (Msk M L) H' else B) J ds → R J H') → wi σ H R
theorem walks_list {c : Ct} {S : Hp} {a : Addr} {xs : List V} {ds : List D} (h : ∀ H, Ex S H → SqL c.K H a xs) (r : Reps c S xs ds) : Walks c S (Itl c.K a) ds :=
  ⟨xs.length, _, _, r.length, walk_list (K := c.K) (a := a) (xs := xs), h, fun i H v H' _ _ y => ⟨y.1, r.get y.2⟩⟩
theorem walks_tup {c : Ct} {S : Hp} {a : Addr} {xs : List V} {ds : List D} (h : ∀ H, Ex S H → SqT c.K H a xs) (r : Reps c S xs ds) : Walks c S (Itt c.K a) ds :=
  ⟨xs.length, _, _, r.length, walk_tup (K := c.K) (a := a) (xs := xs), h, fun i H v H' _ _ y => ⟨y.1, r.get y.2⟩⟩
def lstOf : D → Option (List D)
  | .lst ds => some ds
  | .scr ns => some (ns.map .int)
  | _ => none
def tupOf : D → Option (List D)
  | .tup ds => some ds
  | _ => none
def iLst (f : DFn) : List D → Option (List D) := fun ρ => (f ρ).bind lstOf
def iTupD (f : DFn) : List D → Option (List D) := fun ρ => (f ρ).bind tupOf
def iRev (f : DFn) : List D → Option (List D) := fun ρ => ((f ρ).bind lstOf).map List.reverse
theorem lst_in {c : Ct} {S : Hp} {v : V} {a : D} {ds : List D} (r : Rep c S v a) (h : lstOf a = some ds) : ∃ p xs, v = .ref p ∧ (∀ H, Ex S H → SqL c.K H p xs) ∧ Reps c S xs ds := by
  cases r with
  | lst h' r => cases h; exact ⟨_, _, rfl, fun H e => SqL.of (e _ _ h'), r⟩
  | scr h' => cases h; exact ⟨_, _, rfl, fun H e => e.sq h', Reps.of_ints _⟩
  | _ => cases h
theorem pdi_list {tg l : Expr} (hl : PDE X ca Γ l (vm sh) f) : PDI X ca sh Γ tg l (iLst f) := by
  obtain ⟨t, p, q⟩ := hl
  refine ⟨_, pi_list p, fun B S0 M L σ H ρ E ds hd R k => ?_⟩
  obtain ⟨a, e1, e2⟩ := bind_some hd
  refine q B S0 M L σ H ρ E a e1 _ fun v H1 x1 r => ?_
  cases sh with
  | true =>
    obtain ⟨p', xs, rfl, hs, rs⟩ := lst_in r e2
    exact ⟨p', rfl, ⟨xs, hs H1 hide_ex⟩, k _ H1 x1 (walks_list (c := ⟨X.K, ca⟩) hs rs)⟩
  | false =>
    obtain ⟨p', xs, rfl, hs, rs⟩ := lst_in r e2
    exact ⟨p', rfl, ⟨xs, hs H1 (E.eb.trans x1)⟩, k _ H1 x1 (walks_list (c := ⟨X.K, ca⟩) hs rs)⟩
theorem tup_in {c : Ct} {S : Hp} {v : V} {a : D} {ds : List D} (r : Rep c S v a) (h : tupOf a = some ds) : ∃ p xs, v = .ref p ∧ (∀ H, Ex S H → SqT c.K H p xs) ∧ Reps c S xs ds := by
  cases r with
  | tup h' r => cases h; exact ⟨_, _, rfl, fun H e => SqT.of (e _ _ h'), r⟩
  | _ => cases h
theorem pdi_tup {tg l : Expr} (hl : PDE X ca Γ l (vm sh) f) : PDI X ca sh Γ tg l (iTupD f) := by
  obtain ⟨t, p, q⟩ := hl
  refine ⟨_, pi_tup p, fun B S0 M L σ H ρ E ds hd R k => ?_⟩
  obtain ⟨a, e1, e2⟩ := bind_some hd
  refine q B S0 M L σ H ρ E a e1 _ fun v H1 x1 r => ?_
  cases sh with
  | true =>
    obtain ⟨p', xs, rfl, hs, rs⟩ := tup_in r e2
    exact ⟨p', rfl, ⟨xs, hs H1 hide_ex⟩, k _ H1 x1 (walks_tup (c := ⟨X.K, ca⟩) hs rs)⟩
  | false =>
    obtain ⟨p', xs, rfl, hs, rs⟩ := tup_in r e2
    exact ⟨p', rfl, ⟨xs, hs H1 (E.eb.trans x1)⟩, k _ H1 x1 (walks_tup (c := ⟨X.K, ca⟩) hs rs)⟩
/-- range -/
def rng (lo : Int) (n : Nat) : List D := (List.range n).map fun (k : Nat) => .int (lo + k)
def iRange1 (f : DFn) : List D → Option (List D) := fun ρ => (f ρ).bind fun d => match d with
  | .int j => if -(2 ^ 62) ≤ j ∧ j < 2 ^ 62 then some (rng 0 j.toNat) else none
  | _ => none
def iRange2 (f g : DFn) : List D → Option (List D) := fun ρ => (f ρ).bind fun d => (g ρ).bind fun d' => match d, d' with
  | .int i, .int j => if -(2 ^ 62) ≤ i ∧ i < 2 ^ 62 ∧ -(2 ^ 62) ≤ j ∧ j < 2 ^ 62 then some (rng i (j - i).toNat) else none
  | _, _ => none
theorem walks_range {c : Ct} {S : Hp} {lo : Int} {n : Nat} : Walks c S (Itr lo n) (rng lo n) := by
  refine ⟨n, _, _, by simp [rng], walk_range (lo := lo) (n := n), fun _ _ => True.intro, fun i H v H' hi _ y => ?_⟩
  obtain ⟨y1, rfl⟩ := y
  exact ⟨y1, .int (lo + i), by simp [rng, hi], .int _⟩
variable {a b : Expr} {ma mb : Vm} {fa fb : DFn} {p : Pos}
theorem ite_some' {α : Type} {c : Prop} [Decidable c] {x : Option α} {d : α} (h : (if c then x else none) = some d) : c ∧ x = some d := by
  split at h
  · exact ⟨by assumption, h⟩
  · cases h
theorem pdi_range1 {tg : Expr} (ha : PDE X ca Γ a ma fa) (hm : X.mg "range" = none) (hg : Gl X "range" := by rfl) (hs : starEach [a] X.env = [(false, eval a X.env)] := by rfl) : PDI X ca sh Γ tg (.Call (.Name "range" p) [a] [] pos) (iRange1 fa) := by
  obtain ⟨t, pa, q⟩ := ha
  refine ⟨_, pi_range1 hg hm (pa_cons pa pa_nil hs) hs, fun B S0 M L σ H ρ E ds hd R k => ?_⟩
  obtain ⟨d, e1, e2⟩ := bind_some hd
  cases d with
  | int j =>
    obtain ⟨⟨h1, h2⟩, e3⟩ := ite_some' (show (if -(2 ^ 62) ≤ j ∧ j < 2 ^ 62 then some (rng 0 j.toNat) else none) = some ds from e2)
    cases e3
    refine q B S0 M L σ H ρ E _ e1 _ fun v H1 x1 r => ?_
    have ev := (r.rep (E.eb.trans x1)).int_inv
    subst ev
    exact ⟨j, rfl, h1, h2, k _ H1 x1 walks_range⟩
  | _ => cases e2
theorem pdi_range2 {tg : Expr} (ha : PDE X ca Γ a ma fa) (hb : PDE X ca Γ b mb fb) (hm : X.mg "range" = none) (hg : Gl X "range" := by rfl) (hs : starEach [a, b] X.env = [(false, eval a X.env), (false, eval b X.env)] := by rfl) (hs2 : starEach [b] X.env = [(false, eval b X.env)] := by rfl) : PDI X ca sh Γ tg (.Call (.Name "range" p) [a, b] [] pos) (iRange2 fa fb) := by
  obtain ⟨t, pa, q⟩ := ha
  obtain ⟨u, pb, q2⟩ := hb
  refine ⟨_, pi_range2 hg hm (pa_cons pa (pa_cons pb pa_nil hs2) (by rw [hs, hs2])) hs hs2, fun B S0 M L σ H ρ E ds hd R k => ?_⟩
  obtain ⟨d, e1, hd⟩ := bind_some hd
  obtain ⟨d', e2, hd⟩ := bind_some hd
  cases d with
  | int i =>
    cases d' with
    | int j =>
      obtain ⟨hh, e3⟩ := ite_some' (show (if -(2 ^ 62) ≤ i ∧ i < 2 ^ 62 ∧ -(2 ^ 62) ≤ j ∧ j < 2 ^ 62 then some (rng i (j - i).toNat) else none) = some ds from hd)
      cases e3
      refine q B S0 M L σ H ρ E _ e1 _ fun v H1 x1 r => ?_
      refine q2 B S0 M L σ H1 ρ (E.ext x1) _ e2 _ fun w H2 x2 r2 => ?_
      have ev := (r.rep (E.eb.trans x1)).int_inv
      have ew := (r2.rep ((E.eb.trans x1).trans x2)).int_inv
      subst ev ew
      exact ⟨i, j, rfl, hh, k _ H2 (x1.trans x2) walks_range⟩
    | _ => cases hd
  | _ => cases hd
theorem pdi_rev {tg l : Expr} (hl : PDE X ca Γ l (vm sh) f) (hm : X.mg "reversed" = none) (hg : Gl X "reversed" := by rfl) (hs : starEach [l] X.env = [(false, eval l X.env)] := by rfl) : PDI X ca sh Γ tg (.Call (.Name "reversed" p) [l] [] pos) (iRev f) := by
  obtain ⟨t, pl, q⟩ := hl
  refine ⟨_, pi_reversed hg hm (pa_cons pl pa_nil hs) hs, fun B S0 M L σ H ρ E ds hd R k => ?_⟩
  obtain ⟨ds0, e1, hd⟩ := Option.map_eq_some_iff.mp hd
  subst hd
  obtain ⟨a, e2, e1⟩ := bind_some e1
  have fin : ∀ {S : Hp} {p' : Addr} {xs : List V}, (∀ H, Ex S H → SqL X.K H p' xs) → Reps ⟨X.K, ca⟩ S xs ds0 → Walks ⟨X.K, ca⟩ S (Itv X.K p' xs.length) ds0.reverse := fun {S p' xs} hs rs =>
    ⟨xs.length, _, _, by rw [List.length_reverse]; exact rs.length, walk_rev (K := X.K) (a := p') (xs := xs), hs, fun i H v H' hi _ y => by
      refine ⟨y.1, ?_⟩
      obtain ⟨d, h1, h2⟩ := rs.get y.2
      refine ⟨d, ?_, h2⟩
      rw [List.getElem?_reverse (by rw [← rs.length]; exact hi), ← rs.length]
      exact h1⟩
  refine q B S0 M L σ H ρ E a e2 _ fun v H1 x1 r => ?_
  cases sh with
  | true =>
    obtain ⟨p', xs, rfl, hs, rs⟩ := lst_in r e1
    exact ⟨p', xs, rfl, hs H1 hide_ex, k _ H1 x1 (fin hs rs)⟩
  | false =>
    obtain ⟨p', xs, rfl, hs, rs⟩ := lst_in r e1
    exact ⟨p', xs, rfl, hs H1 (E.eb.trans x1), k _ H1 x1 (fin hs rs)⟩

/-! ### for -/
def forD (u : D → List D → Option (List D)) (F : SFn) : List D → SFn
  | [], ρ => .nx ρ
  | d :: ds, ρ => match u d ρ with
    | none => .bad
    | some ρ1 => match F ρ1 with
      | .nx ρ' => forD u F ds ρ'
      | .cont ρ' => forD u F ds ρ'
      | .brk ρ' => .nx ρ'
      | o => o
def dFor (f : List D → Option (List D)) (u : D → List D → Option (List D)) (F : SFn) : SFn := fun ρ => match f ρ with
  | some ds => forD u F ds ρ
  | none => .bad
/-- the end of a body within a loop, over more that is shared -/
theorem Post.turn {c : Ct} {B S0 S1 : Hp} {M : Mz} {N : Ends} {P : L2.St → Hp → Prop} {o : Out} (eS : Ex S0 S1) {K : List D → Out}
    (h : Post c B S0 M J W Γ N (match o with | .nx ρ' => K ρ' | .cont ρ' => K ρ' | .brk ρ' => .nx ρ' | o => o))
    (hP : ∀ ρ' L σ H, EnvR c B S1 M Γ L σ H ρ' → Post c B S0 M J W Γ N (K ρ') → P σ H) : Post c B S1 M { J with Γb := Γ, Γc := Γ } W Γ { N with nx := P, ct := P, bk := N.nx } o := by
  cases o with
  | nx ρ' => exact fun L σ H E => hP ρ' L σ H E h
  | cont ρ' => exact fun L σ H E => hP ρ' L σ H E h
  | brk ρ' => exact fun L σ H E => h L σ H (E.base eS)
  | ret d => exact h
  | exc e d ρ' => exact fun dx v L σ H h1 h2 h3 h4 h5 => h dx v L σ H h1 h2 h3 h4 fun Γx hx => (h5 Γx hx).base eS
  | bad => exact h
theorem pds_for {tg iter : Expr} {body : List Stmt} {fi : List D → Option (List D)} {u : D → List D → Option (List D)} (hp : PassesOwn (model X.prog X.w) X.A X.env X.xe) (hi : PDI X ca sh Γ tg iter fi) (hg : PDG X ca sh Γ tg Γ1 is u)
    (hb : PDSs X ca W { J with Γb := Γ, Γc := Γ } Γ1 body Γ F) (hc : X.calm = true := by rfl) (hs : ∀ x, foldedSetIterable iter X.env x = pure x := by intro _; rfl) : PDS X ca W J Γ (.For tg iter body [] pos) Γ (dFor fi u F) := by
  obtain ⟨wi, p1, q1⟩ := hi
  obtain ⟨g, p2, q2⟩ := hg
  obtain ⟨tb, p3, q3⟩ := hb
  refine ⟨_, ps_for hp hc p1 p2 p3 hs, fun B S0 M L σ H ρ N E pp => ?_⟩
  unfold dFor at pp
  cases hd : fi ρ with
  | none => rw [hd] at pp; exact pp.elim
  | some ds =>
    rw [hd] at pp
    refine q1 B S0 M L σ H ρ E ds hd _ fun Jt H1 x1 ⟨n, G, Y, hn, wk, hG, hY⟩ => ?_
    have E1 := E.ext x1
    have main : ∀ (S1 : Hp), Ex S0 S1 → Ex S1 (hide (Msk M L) H1) → (∀ H, Ex S1 H → Ex B H → Ex (if sh = true then hide (Msk M L) H1 else B) H) → (sh = true → Ex (hide (Msk M L) H1) S1) → tFor (fun σ H R => R Jt H) g tb N σ H1 := fun S1 hS01 hS1 hSB hSh => by
      refine for_it (D := N) (n := n) wk (fun i σ H => ∃ L ρ', EnvR ⟨X.K, ca⟩ B S1 M Γ L σ H ρ' ∧ Post ⟨X.K, ca⟩ B S0 M J W Γ N (forD u F (ds.drop i) ρ')) ⟨L, ρ, ⟨E1.eb, E1.hm, hS1, E1.ap, E1.hl, E1.sl⟩, pp⟩ (fun i σ H _ ⟨L, ρ', E, _⟩ => hG H (hSB H (E.es.trans hide_ex) E.eb)) ?_ ?_
      · rintro i v σ H' H'' hi ⟨L', ρ', E', post⟩ y
        obtain ⟨rfl, d, h1, h2⟩ := hY i H' v H'' hi (hSB H' (E'.es.trans hide_ex) E'.eb) y
        have hdr : ds.drop i = d :: ds.drop (i + 1) := by
          obtain ⟨hlt, e⟩ := List.getElem?_eq_some_iff.mp h1
          rw [List.drop_eq_getElem_cons hlt, e]
        rw [hdr, forD] at post
        cases hu : u d ρ' with
        | none => rw [hu] at post; exact post.elim
        | some ρ1 =>
          rw [hu] at post
          have rv : VR ⟨X.K, ca⟩ (vm sh) B M L' H'' v d := by
            cases sh with
            | true => exact h2.mono ((hSh rfl).trans E'.es)
            | false => exact h2
          refine q2 B S1 M L' σ H'' ρ' E' v d ρ1 rv hu _ fun σ2 _ E2 => ?_
          exact q3 B S1 M L' σ2 H'' ρ1 _ E2 (Post.turn hS01 post fun ρ2 L3 σ3 H3 E3 p3 => ⟨L3, ρ2, E3, p3⟩)
      · rintro σ H' ⟨L', ρ', E', post⟩
        rw [hn, List.drop_length, forD] at post
        exact post L' σ H' (E'.base hS01)
    cases sh with
    | true => exact main (hide (Msk M L) H1) E1.es (Ex.refl _) (fun H h _ => h) fun _ => Ex.refl _
    | false => exact main S0 (Ex.refl _) E1.es (fun H _ h => h) fun z => nomatch z
/-! ### while, in at most n turns -/
def whileD (t : List D → Option Bool) (F : SFn) : Nat → SFn
  | 0, _ => .bad
  | n + 1, ρ => match t ρ with
    | none => .bad
    | some false => .nx ρ
    | some true => match F ρ with
      | .nx ρ' => whileD t F n ρ'
      | .cont ρ' => whileD t F n ρ'
      | .brk ρ' => .nx ρ'
      | o => o
theorem pds_while {c : Expr} {body : List Stmt} {t : List D → Option Bool} (n : Nat) (hp : PassesOwn (model X.prog X.w) X.A X.env X.xe) (hc : PDT X ca Γ c t) (hb : PDSs X ca W { J with Γb := Γ, Γc := Γ } Γ body Γ F) : PDS X ca W J Γ (.While c body [] pos) Γ (whileD t F n) := by
  obtain ⟨tc, p1, q1⟩ := hc
  obtain ⟨tb, p2, q2⟩ := hb
  refine ⟨_, ps_while hp p1 p2, fun B S0 M L σ H ρ N E pp => ?_⟩
  refine ⟨fun m σ H => ∃ L ρ', EnvR ⟨X.K, ca⟩ B S0 M Γ L σ H ρ' ∧ Post ⟨X.K, ca⟩ B S0 M J W Γ N (whileD t F m ρ'), ⟨n, L, ρ, E, pp⟩, ?_⟩
  rintro m σ H ⟨L, ρ, E, pp⟩
  cases m with
  | zero => exact pp.elim
  | succ m =>
    rw [whileD] at pp
    cases ht : t ρ with
    | none => rw [ht] at pp; exact pp.elim
    | some b =>
      rw [ht] at pp
      refine q1 B S0 M L σ H ρ E b ht _ fun H1 x1 => ?_
      cases b with
      | false =>
        refine iteF ?_
        exact pp L σ H1 (E.ext x1)
      | true =>
        refine iteT ?_
        refine ⟨fun σ' H' => ∃ L ρ', EnvR ⟨X.K, ca⟩ B S0 M Γ L σ' H' ρ' ∧ Post ⟨X.K, ca⟩ B S0 M J W Γ N (whileD t F m ρ'), fun σ' H' h => ⟨m, Nat.lt_succ_self _, h⟩, ?_⟩
        exact q2 B S0 M L σ H1 ρ _ (E.ext x1) (Post.turn (Ex.refl _) pp fun ρ2 L3 σ3 H3 E3 p3 => ⟨L3, ρ2, E3, p3⟩)
end
end DL

/-! DL: comprehensions, lists that grow. -/
namespace DL
open PySem PySem.Spec PyProof.Rows L2
/-! ### one reading for all blocks -/
/-- the reading that a rule for expressions stands for -/
def rdE (c : Ct) (Γ : List Md) (m : Vm) (f : DFn) : TE := fun σ H Q => ∃ (B S0 : Hp) (M : Mz) (L : List (List Addr)) (ρ : List D) (d : D), EnvR c B S0 M Γ L σ H ρ ∧ f ρ = some d ∧ ∀ v H', Ex H H' → VR c m B M L H' v d → Q v H'
def rdT (c : Ct) (Γ : List Md) (f : List D → Option Bool) : TT := fun σ H Q => ∃ (B S0 : Hp) (M : Mz) (L : List (List Addr)) (ρ : List D) (b : Bool), EnvR c B S0 M Γ L σ H ρ ∧ f ρ = some b ∧ ∀ H', Ex H H' → Q b H'
def rdG (c : Ct) (sh : Bool) (Γ Γ' : List Md) (is : List Nat) (u : D → List D → Option (List D)) : TG := fun v σ H Q => ∃ (B S0 : Hp) (M : Mz) (L : List (List Addr)) (ρ : List D) (d : D) (ρ' : List D), EnvR c B S0 M Γ L σ H ρ ∧ VR c (vm sh) B M L H v d ∧ u d ρ = some ρ' ∧
  ∀ σ', Only is σ σ' → EnvR c B S0 M Γ' L σ' H ρ' → Q σ' H
section
variable {X : Cx} {ca : Cl → Addr} {Γ Γ' : List Md} {e : Expr} {m : Vm} {f : DFn}
theorem PDE.rd (h : PDE X ca Γ e m f) : PE X e (rdE ⟨X.K, ca⟩ Γ m f) := by
  obtain ⟨t, p, q⟩ := h
  exact ⟨fun pins s σ H Q I ⟨B, S0, M, L, ρ, d, E, hd, k⟩ => p.run pins s σ H Q I (q B S0 M L σ H ρ E d hd Q k)⟩
theorem PDT.rd {f : List D → Option Bool} (h : PDT X ca Γ e f) : PT X e (rdT ⟨X.K, ca⟩ Γ f) := by
  obtain ⟨t, p, q⟩ := h
  exact ⟨fun pins s σ H Q I ⟨B, S0, M, L, ρ, d, E, hd, k⟩ => p.run pins s σ H Q I (q B S0 M L σ H ρ E d hd Q k)⟩
theorem PDG.rd {sh : Bool} {is : List Nat} {u : D → List D → Option (List D)} (h : PDG X ca sh Γ e Γ' is u) : PG X e (rdG ⟨X.K, ca⟩ sh Γ Γ' is u) := by
  obtain ⟨t, p, q⟩ := h
  exact ⟨fun pins s σ H v w Q I r ⟨B, S0, M, L, ρ, d, ρ', E, rv, hu, k⟩ => p.run pins s σ H v w Q I r (q B S0 M L σ H ρ E v d ρ' rv hu Q k)⟩
end
/-! ### the block's own slots forgotten -/
def wipeM (Γ : List Md) : List Nat → List Md
  | [] => Γ
  | v :: vs => (wipeM Γ vs).set v .n
section
variable {c : Ct} {B S0 H H' : Hp} {M : Mz} {Γ Γ' : List Md} {L : List (List Addr)} {σ : L2.St} {ρ : List D}
theorem wipeM_get (Γ : List Md) (i : Nat) : ∀ vs : List Nat, (wipeM Γ vs)[i]? = Γ[i]? ∨ (wipeM Γ vs)[i]? = some .n
  | [] => .inl rfl
  | v :: vs => by
    unfold wipeM
    by_cases h : v = i
    · subst h
      by_cases hl : v < (wipeM Γ vs).length
      · right
        rw [List.getElem?_set_self hl]
      · rcases wipeM_get Γ v vs with q | q
        · left
          rw [List.getElem?_eq_none (by rw [List.length_set]; omega)]
          rw [← q, List.getElem?_eq_none (by omega)]
        · rw [List.getElem?_eq_none (by omega)] at q
          cases q
    · rw [List.getElem?_set_ne h]
      exact wipeM_get Γ i vs
theorem EnvR.wipe (E : EnvR c B S0 M Γ L σ H ρ) : ∀ {vs : List Nat}, okW Γ vs = true → EnvR c B S0 M (wipeM Γ vs) L (L2.wipe σ vs) H ρ
  | [], _ => E
  | v :: vs, h => by
    unfold okW at h
    rw [List.all_cons, Bool.and_eq_true] at h
    have E1 := E.wipe (vs := vs) h.2
    have hv1 : okW (wipeM Γ vs) [v] = true := by
      unfold okW
      rw [List.all_cons, List.all_nil, Bool.and_true]
      rcases wipeM_get Γ v vs with q | q
      · rw [q]; exact h.1
      · rw [q]
    have one : EnvR c B S0 M ((wipeM Γ vs).set v .n) (L.set v []) ((L2.wipe σ vs).set v none) H (ρ.set v (ρ.getD v .non)) := E1.put0 (m' := .n) (Ex.refl _) v rfl
    have eρ : ρ.set v (ρ.getD v .non) = ρ := by
      by_cases hv : v < ρ.length
      · exact list_set_self (by rw [List.getD_eq_getElem?_getD, List.getElem?_eq_getElem hv]; rfl)
      · exact List.set_eq_of_length_le (by omega)
    rw [eρ, okW_one E1 hv1] at one
    exact one
theorem wipe_get (σ : L2.St) (i : Nat) : ∀ vs : List Nat, (wipe σ vs)[i]? = if i ∈ vs then (if i < σ.length then some none else none) else σ[i]?
  | [] => by simp [wipe]
  | v :: vs => by
    unfold wipe
    by_cases h : v = i
    · subst h
      rw [if_pos (List.mem_cons_self ..)]
      by_cases hl : v < (wipe σ vs).length
      · rw [List.getElem?_set_self hl, if_pos (by rw [wipe_length] at hl; exact hl)]
      · rw [List.getElem?_eq_none (by rw [List.length_set]; omega), if_neg (by rw [wipe_length] at hl; exact hl)]
    · rw [List.getElem?_set_ne h, wipe_get σ i vs]
      have : (i ∈ v :: vs) ↔ i ∈ vs := by
        rw [List.mem_cons]
        exact ⟨fun z => z.elim (fun z => absurd z.symm h) id, .inr⟩
      simp only [this]
theorem Only.wipe {is vs : List Nat} {σ' : L2.St} (h : Only is (wipe σ vs) σ') (hs : ∀ i ∈ is, i ∈ vs) : L2.wipe σ' vs = L2.wipe σ vs := by
  apply List.ext_getElem?
  intro i
  rw [wipe_get, wipe_get]
  by_cases hi : i ∈ vs
  · rw [if_pos hi, if_pos hi, h.1, wipe_length]
  · rw [if_neg hi, if_neg hi, h.2 i fun z => hi (hs i z), wipe_get, if_neg hi]
/-- what is made meanwhile stands by itself -/
theorem EnvR.guard (E : EnvR c B S0 M Γ L σ H ρ) {p : Addr} (hp : H p = none) (k : ∀ a o, H a = some o → H' a = some o) (hm : Mut (H' p)) : EnvR c B S0 ⟨fun a => M a ∨ a = p, M.z⟩ Γ L σ H' ρ := by
  have hh : Ex (hide (Msk M L) H) (hide (Msk ⟨fun a => M a ∨ a = p, M.z⟩ L) H') := hide_le fun a o h q => ⟨fun z => by
    rcases z with (z | z) | z
    · exact h (.inl z)
    · rw [z, hp] at q; exact nomatch q
    · exact h (.inr z), k a o q⟩
  exact ⟨E.eb.trans k, fun a h => by
    rcases h with h | rfl
    · exact ⟨mut_ex k (E.hm a h).1, (E.hm a h).2⟩
    · exact ⟨hm, E.noL hp⟩, E.es.trans hh, E.ap, fun a h => ⟨mut_ex k (E.hl a h).1, (E.hl a h).2⟩, E.sl.mono hh fun a _ o h => k a o h⟩
/-- .. and changes -/
theorem EnvR.shift {p : Addr} {o : HO} (E : EnvR c B S0 ⟨fun a => M a ∨ a = p, M.z⟩ Γ L σ H ρ) (hB : B p = none) (hm : Mut (some o)) : EnvR c B S0 ⟨fun a => M a ∨ a = p, M.z⟩ Γ L σ (upd H p o) ρ := by
  have k : ∀ a u, a ≠ p → H a = some u → upd H p o a = some u := fun a u h q => by rw [upd_ne h]; exact q
  have hh : Ex (hide (Msk ⟨fun a => M a ∨ a = p, M.z⟩ L) H) (hide (Msk ⟨fun a => M a ∨ a = p, M.z⟩ L) (upd H p o)) := hide_le fun a u h q => ⟨h, k a u (fun z => h (.inl (.inr z))) q⟩
  have mm : ∀ a, Mut (H a) → Mut (upd H p o a) := fun a h => by
    by_cases e : a = p
    · subst e; rw [upd_same]; exact hm
    · rw [upd_ne e]; exact h
  have notL : ∀ a, In L a → a ≠ p := fun a h z => by
    subst z
    exact (E.hm a (.inr rfl)).2 h
  refine ⟨fun a u h => k a u (fun z => by rw [z, hB] at h; exact nomatch h) (E.eb a u h), fun a h => ⟨mm a (E.hm a h).1, (E.hm a h).2⟩, E.es.trans hh, E.ap, fun a h => ⟨mm a (E.hl a h).1, (E.hl a h).2⟩, E.sl.mono hh fun a h u q => k a u (notL a h) q⟩
end

/-! ### comprehensions -/
def lcD (u : D → List D → Option (List D)) (t : List D → Option Bool) (f : DFn) (ρ : List D) : List D → Option (List D)
  | [] => some []
  | d :: ds => (u d ρ).bind fun ρ1 => (t ρ1).bind fun b => if b = true then (f ρ1).bind fun y => (lcD u t f ρ ds).map (y :: ·) else lcD u t f ρ ds
def dLc (fi : List D → Option (List D)) (u : D → List D → Option (List D)) (t : List D → Option Bool) (f : DFn) : DFn := fun ρ => (fi ρ).bind fun ds => if ds.length ≤ 100000 then (lcD u t f ρ ds).map .lst else none
def tTrue : List D → Option Bool := fun _ => some true
def rdTs (c : Ct) (Γ : List Md) (f : List D → Option Bool) : TT := rdT c Γ f
def PDTs (X : Cx) (ca : Cl → Addr) (Γ : List Md) (ifs : List Expr) (f : List D → Option Bool) : Prop := PTs X ifs (rdT ⟨X.K, ca⟩ Γ f)
section
variable {X : Cx} {ca : Cl → Addr} {Γ : List Md} {c : Expr} {f : List D → Option Bool}
theorem pdts_nil : PDTs X ca Γ [] tTrue := ⟨fun pins s σ H Q I ⟨B, S0, M, L, ρ, b, E, hb, k⟩ => by
  cases hb
  exact (pts_nil (X := X)).run pins s σ H Q I (k H (Ex.refl _))⟩
theorem pdts_one (h : PDT X ca Γ c f) : PDTs X ca Γ [c] f := pts_one h.rd
end
section
variable {c : Ct} {Γ Γ1 : List Md} {sh : Bool} {is vs : List Nat} {u : D → List D → Option (List D)} {t : List D → Option Bool} {f : DFn} {fi : List D → Option (List D)}
theorem DN.lc {wi : TI} (hw : okW Γ vs = true) (his : ∀ i ∈ is, i ∈ vs)
    (q1 : ∀ (B S0 : Hp) (M : Mz) (L : List (List Addr)) (σ : L2.St) (H : Hp) (ρ : List D), EnvR c B S0 M Γ L σ H ρ → ∀ ds, fi ρ = some ds → ∀ R : It → Hp → Prop, (∀ J H', Ex H H' → Walks c (if sh = true then hide (Msk M L) H' else B) J ds → R J H') → wi σ H R) :
    DN c Γ (tLc wi (rdG c sh (wipeM Γ vs) Γ1 is u) (rdT c Γ1 t) (rdE c Γ1 .s f) vs) (dLc fi u t f) := by
  intro B S0 M L σ H ρ E d hd Q kk
  obtain ⟨ds, e1, hd⟩ := bind_some hd
  obtain ⟨hl, hd⟩ := ite_some hd
  obtain ⟨ys, e2, hd⟩ := Option.map_eq_some_iff.mp hd
  subst hd
  refine q1 B S0 M L σ H ρ E ds e1 _ fun J H1 x1 ⟨n, G, Y, hn, wk, hG, hY⟩ p hp => ?_
  have E1 := E.ext x1
  have hB1 : B p = none := E1.eb.free hp
  -- the invariant: the list so far, the rest to come
  refine lc_it (Qd := fun H' => Q (.ref p) H') wk (fun i H' => ∃ acc zs rest, H' p = some (.lst acc) ∧ Reps c (hide (Msk ⟨fun a => M a ∨ a = p, M.z⟩ L) H') acc zs ∧ zs.length ≤ i ∧ lcD u t f ρ (ds.drop i) = some rest ∧ zs ++ rest = ys ∧
      Ex H1 H' ∧ EnvR c B (hide (Msk M L) H1) ⟨fun a => M a ∨ a = p, M.z⟩ Γ L σ H' ρ) ⟨[], [], ys, upd_same, .nil, Nat.zero_le _, e2, rfl, Ex.new hp, E1.now.guard hp (Ex.new hp) (by rw [upd_same]; exact True.intro)⟩ (fun i H' _ ⟨_, _, _, _, _, _, _, _, x, E'⟩ => hG H' (by
        cases sh with
        | true => exact E'.es.trans hide_ex
        | false => exact E'.eb)) ?_ ?_
  · rintro i v H' H'' hi ⟨acc, zs, rest, h1, h2, h3, h4, h5, x, E'⟩ y
    have hS : Ex (if sh = true then hide (Msk M L) H1 else B) H' := by
      cases sh with
      | true => exact E'.es.trans hide_ex
      | false => exact E'.eb
    obtain ⟨rfl, d, g1, g2⟩ := hY i H' v H'' hi hS y
    have hdr : ds.drop i = d :: ds.drop (i + 1) := by
      obtain ⟨hlt, e⟩ := List.getElem?_eq_some_iff.mp g1
      rw [List.drop_eq_getElem_cons hlt, e]
    rw [hdr, lcD] at h4
    obtain ⟨ρ1, u1, h4⟩ := bind_some h4
    obtain ⟨b, u2, h4⟩ := bind_some h4
    have Ew := E'.wipe hw
    refine ⟨B, _, _, L, ρ, d, ρ1, Ew, (by
      cases sh with
      | true => exact g2.mono E'.es
      | false => exact g2), u1, fun σ' on E2 => ⟨on.wipe his, B, _, _, L, ρ1, b, E2, u2, fun H3 x3 => ?_⟩⟩
    have h13 : H3 p = some (.lst acc) := x3 _ _ h1
    cases b with
    | false =>
      refine iteF ?_
      exact ⟨acc, zs, rest, h13, h2.mono (hide_mono x3), Nat.le_succ_of_le h3, h4, h5, x.trans x3, E'.ext x3⟩
    | true =>
      refine iteT ?_
      obtain ⟨y, u3, h4⟩ := bind_some h4
      obtain ⟨rest', u4, h4⟩ := Option.map_eq_some_iff.mp h4
      refine ⟨B, _, _, L, ρ1, y, E2.ext x3, u3, fun w H4 x4 rw' => ⟨acc, x4 _ _ h13, ?_, ?_⟩⟩
      · rw [h2.length]
        exact Nat.lt_of_le_of_lt (Nat.le_trans h3 (Nat.le_of_lt hi)) (by rw [hn]; exact Nat.lt_of_le_of_lt hl (by decide))
      · have rw2 : Rep c (hide (Msk ⟨fun a => M a ∨ a = p, M.z⟩ L) H4) w y := by
          exact rw'
        refine ⟨acc ++ [w], zs ++ [y], rest', upd_same, ?_, ?_, u4, ?_, ?_, ?_⟩
        · exact ((h2.mono (hide_mono (x3.trans x4))).snoc rw2).mono (hide_le fun a o h q => ⟨h, by rw [upd_ne (fun z => h (.inl (.inr z)))]; exact q⟩)
        · rw [List.length_append]
          exact Nat.succ_le_succ h3
        · rw [← h5, ← h4, List.append_assoc]
          rfl
        · exact fun a o q => by
            rw [upd_ne (ne_of_none q hp)]
            exact x4 _ _ (x3 _ _ (x _ _ q))
        · exact ((E'.ext x3).ext x4).shift hB1 True.intro
  · rintro H' ⟨acc, zs, rest, h1, h2, _, h4, h5, x, E'⟩
    rw [hn, List.drop_length, lcD] at h4
    cases h4
    rw [List.append_nil] at h5
    subst h5
    exact kk p H' (x1.trans x) (x1.free hp) (.lst h1 (Owns.sh (h2.mono (hide_le fun a o h q => ⟨fun z => by
      rcases z with (z | z) | z
      · exact h (.inl (.inl z))
      · exact h (.inr z)
      · exact h (.inl (.inr z)), q⟩))))
end
end DL

/-! DL: comprehensions with their text, lists that grow, enumerate. -/
namespace DL
open PySem PySem.Spec PyProof.Rows L2
section
variable {X : Cx} {ca : Cl → Addr} {W : WX} {J : Jd} {Γ Γ1 Γ2 Γ' : List Md} {e : Expr} {f : DFn} {m : Vm} {pos pos' apos cpos spos py : Pos} {x y : Str} {sh : Bool} {is : List Nat} {elt tg iter : Expr} {ifs : List Expr} {scope : Scope} {fi : List D → Option (List D)} {u : D → List D → Option (List D)} {t : List D → Option Bool}
/-- [elt for tg in iter if ..] -/
theorem pd_lc (own : List (Str × Nat)) (hi : PDI X ca sh Γ tg iter fi) (hN : X.N.Nodup) (ok : BlkOk X.N X.env.scope scope own)
    (hg : ∀ (s : Shared) (H : Hp) (C : Addr) (cl : List (Str × Addr)) (fp : List Addr), PDG (X.blk s H scope (compEnvC scope cl C X.env) fp) ca sh (wipeM Γ (own.map (·.2))) tg Γ1 is u)
    (ht : ∀ (s : Shared) (H : Hp) (C : Addr) (cl : List (Str × Addr)) (fp : List Addr), PDTs (X.blk s H scope (compEnvC scope cl C X.env) fp) ca Γ1 ifs t)
    (he : ∀ (s : Shared) (H : Hp) (C : Addr) (cl : List (Str × Addr)) (fp : List Addr), PDE (X.blk s H scope (compEnvC scope cl C X.env) fp) ca Γ1 elt .s f)
    (hc : X.calm = true := by rfl) (hw : okW Γ (own.map (·.2)) = true := by decide) (his : ∀ i ∈ is, i ∈ own.map (·.2) := by decide) (hs : ∀ x, foldedSetIterable iter X.env x = pure x := by intro _; rfl) :
    PDN X ca Γ (.ListComp elt [⟨tg, iter, ifs, 0⟩] scope pos) (dLc fi u t f) := by
  obtain ⟨wi, p1, q1⟩ := hi
  exact ⟨_, pe_lc (tt := rdT ⟨X.K, ca⟩ Γ1 t) hc hN p1 ok (fun s H C cl fp => (hg s H C cl fp).rd) (fun s H C cl fp => ht s H C cl fp) (fun s H C cl fp => (he s H C cl fp).rd) hs, DN.lc (c := ⟨X.K, ca⟩) hw his q1⟩
/-- y = [elt for ..] on one line -/
theorem pds_setLc (i : Nat) (own : List (Str × Nat)) (hi : PDI X ca sh Γ tg iter fi) (hN : X.N.Nodup) (ok : BlkOk X.N X.env.scope scope own)
    (hg : ∀ (s : Shared) (H : Hp) (C : Addr) (cl : List (Str × Addr)) (fp : List Addr), PDG (X.blk s H scope (compEnvC scope cl C X.env) fp) ca sh (wipeM Γ (own.map (·.2))) tg Γ1 is u)
    (ht : ∀ (s : Shared) (H : Hp) (C : Addr) (cl : List (Str × Addr)) (fp : List Addr), PDTs (X.blk s H scope (compEnvC scope cl C X.env) fp) ca Γ1 ifs t)
    (he : ∀ (s : Shared) (H : Hp) (C : Addr) (cl : List (Str × Addr)) (fp : List Addr), PDE (X.blk s H scope (compEnvC scope cl C X.env) fp) ca Γ1 elt .s f)
    (hsw : swapsWith (.ListComp elt [⟨tg, iter, ifs, 0⟩] scope pos) (some (.Name y py)) spos.line X.env = pure true)
    (hy : X.N[i]? = some y := by rfl) (hyl : X.env.scope.names.lookup y = some .local := by rfl)
    (hc : X.calm = true := by rfl) (hw : okW Γ (own.map (·.2)) = true := by decide) (his : ∀ i ∈ is, i ∈ own.map (·.2) := by decide) (hs : ∀ x, foldedSetIterable iter X.env x = pure x := by intro _; rfl) :
    PDS X ca W J Γ (.Assign [.Name y py] (.ListComp elt [⟨tg, iter, ifs, 0⟩] scope pos) spos) (Γ.set i .f) (dAsg i (dLc fi u t f)) := by
  obtain ⟨wi, p1, q1⟩ := hi
  exact ⟨_, ps_setLc (tt := rdT ⟨X.K, ca⟩ Γ1 t) hc hN hy hyl hsw p1 ok (fun s H C cl fp => (hg s H C cl fp).rd) (fun s H C cl fp => ht s H C cl fp) (fun s H C cl fp => (he s H C cl fp).rd) hs, DN.set (c := ⟨X.K, ca⟩) (DN.lc (c := ⟨X.K, ca⟩) hw his q1) i⟩

/-! ### lists that grow -/
def dApp (i : Nat) (f : DFn) : SFn := fun ρ => match f ρ, ρ[i]? with
  | some d, some (.lst ds) => if ds.length < 100000 then .nx (ρ.set i (.lst (ds ++ [d]))) else .bad
  | _, _ => .bad
def dExt (i : Nat) (f : DFn) : SFn := fun ρ => match f ρ, ρ[i]? with
  | some (.lst es), some (.lst ds) => if ds.length + es.length ≤ 100000 then .nx (ρ.set i (.lst (ds ++ es))) else .bad
  | _, _ => .bad
def dClear (i : Nat) : SFn := fun ρ => match ρ[i]? with
  | some (.lst _) => .nx (ρ.set i (.lst []))
  | _ => .bad
theorem slot_f {c : Ct} {B S0 H : Hp} {M : Mz} {L : List (List Addr)} {σ : L2.St} {ρ : List D} (E : EnvR c B S0 M Γ L σ H ρ) {i : Nat} (hm : Γ[i]? = some .f) : ∃ p d, L[i]? = some [p] ∧ σ[i]? = some (some (.ref p)) ∧ ρ[i]? = some d ∧ Own c (hide (Msk M L) H) H [p] (.ref p) d := by
  obtain ⟨l, x, d, h1, h2, h3, p, e1, e2, h4⟩ := E.sl.get hm
  subst e1 e2
  exact ⟨p, d, h1, h2, h3, h4⟩
/-- a list of one's own, changed -/
theorem EnvR.relist {c : Ct} {B S0 H : Hp} {M : Mz} {L : List (List Addr)} {σ : L2.St} {ρ : List D} (E : EnvR c B S0 M Γ L σ H ρ) {i : Nat} {p : Addr} {xs : List V} {ds : List D} (hm : Γ[i]? = some .f) (hl : L[i]? = some [p]) (hs : σ[i]? = some (some (.ref p))) (r : Reps c (hide (Msk M L) H) xs ds) :
    EnvR c B S0 M Γ L σ (upd H p (.lst xs)) (ρ.set i (.lst ds)) := by
  have k : ∀ a o, a ∉ [p] → H a = some o → upd H p (.lst xs) a = some o := fun a o h q => by
    rw [upd_ne (by simpa using h)]
    exact q
  have inL : In L p := ⟨[p], List.mem_of_getElem? hl, .head _⟩
  have e1 : L.set i [p] = L := list_set_self hl
  have E' := E.change (m' := .f) (x' := some (.ref p)) (d' := .lst ds) i hl k (fun a ha => .inl ha) (fun a ha => by
    have e : a = p := by simpa using ha
    subst e
    rw [upd_same]
    exact True.intro) (by
    rw [e1]
    exact ⟨p, rfl, rfl, .lst upd_same (Owns.sh (r.mono (hide_le fun a o h q => ⟨h, k a o (fun z => h (.inr (by
      have e : a = p := by simpa using z
      subst e
      exact inL))) q⟩)))⟩)
  rw [e1, list_set_self hm, list_set_self hs] at E'
  exact E'
theorem pds_app (i : Nat) (he : PDE X ca Γ e .s f) (hm : Γ[i]? = some .f := by rfl) (hi : X.N[i]? = some x := by rfl) (hv : Vis X.env.scope x := by first | exact Or.inl rfl | exact Or.inr (Or.inl rfl) | exact Or.inr (Or.inr rfl)) (hd : (x == ("__debug__" : Str)) = false := by decide) (hcd : (x == ("__classdict__" : Str)) = false := by decide)
    (hbase : attributeBase (.Name x pos') "append" X.env (eval (.Name x pos') X.env) = eval (.Name x pos') X.env := by rfl) (hfew : ((backTo cpos (starEach (e :: []) X.env)).all (fun x => !x.1) && (backToKw cpos (keywordEach [] X.env)).all (fun x => x.1.isSome)
      && decide ((e :: []).length + ([] : List Keyword).length + (if ([] : List Keyword).isEmpty then 0 else 1) < 30)) = true := by rfl) (hline : (apos.endLine == cpos.line) = true := by rfl) (hst : starEach (e :: []) X.env = (false, eval e X.env) :: starEach [] X.env := by rfl) (hpl : (backTo cpos (starEach [] X.env)).any (·.1) = false := by rfl)
    (hs : swapsWith (.Call (.Attribute (.Name x pos') "append" apos) [e] [] cpos) none pos.line X.env = pure false := by rfl) :
    PDS X ca W J Γ (.Expr (.Call (.Attribute (.Name x pos') "append" apos) [e] [] cpos) pos) Γ (dApp i f) := by
  obtain ⟨t, p, q⟩ := he
  refine ⟨_, ps_expr (pe_bm PySem.F.plainAttrs_list PySem.F.slot_list_append PySem.F.type_list_append mt_append (pe_var (i := i) hi hv hd hcd) (pa_cons p pa_nil hst) hbase hfew hline hst hpl) hs, fun B S0 M L σ H ρ N E pp => ?_⟩
  obtain ⟨a, d, h1, h2, h3, h4⟩ := slot_f E hm
  unfold dApp at pp
  rw [h3] at pp
  cases hf : f ρ with
  | none => rw [hf] at pp; exact pp.elim
  | some d0 =>
    rw [hf] at pp
    cases d with
    | lst ds =>
      have pp' : Post ⟨X.K, ca⟩ B S0 M J W Γ N (if ds.length < 100000 then .nx (ρ.set i (.lst (ds ++ [d0]))) else .bad) := pp
      split at pp'
      · rename_i hlen
        obtain ⟨xs, g1, g2⟩ := h4.flat_lst
        refine ⟨_, h2, .inl ⟨rfl, xs, SqL.of g1⟩, ?_⟩
        refine q B S0 M L σ H ρ E d0 hf _ fun v H1 x1 rv => ?_
        have E1 := E.ext x1
        refine ⟨a, xs, v, rfl, rfl, x1 _ _ g1, Nat.lt_of_lt_of_le (by rw [g2.length]; exact hlen) (by decide : 100000 ≤ sizeLine), ?_⟩
        exact pp' L σ _ (E1.relist hm h1 h2 ((g2.mono (hide_mono x1)).snoc rv))
      · exact pp'.elim
    | _ => exact pp.elim
theorem pds_ext (i : Nat) (he : PDE X ca Γ e .s f) (hm : Γ[i]? = some .f := by rfl) (hi : X.N[i]? = some x := by rfl) (hv : Vis X.env.scope x := by first | exact Or.inl rfl | exact Or.inr (Or.inl rfl) | exact Or.inr (Or.inr rfl)) (hd : (x == ("__debug__" : Str)) = false := by decide) (hcd : (x == ("__classdict__" : Str)) = false := by decide)
    (hbase : attributeBase (.Name x pos') "extend" X.env (eval (.Name x pos') X.env) = eval (.Name x pos') X.env := by rfl) (hfew : ((backTo cpos (starEach (e :: []) X.env)).all (fun x => !x.1) && (backToKw cpos (keywordEach [] X.env)).all (fun x => x.1.isSome)
      && decide ((e :: []).length + ([] : List Keyword).length + (if ([] : List Keyword).isEmpty then 0 else 1) < 30)) = true := by rfl) (hline : (apos.endLine == cpos.line) = true := by rfl) (hst : starEach (e :: []) X.env = (false, eval e X.env) :: starEach [] X.env := by rfl) (hpl : (backTo cpos (starEach [] X.env)).any (·.1) = false := by rfl)
    (hs : swapsWith (.Call (.Attribute (.Name x pos') "extend" apos) [e] [] cpos) none pos.line X.env = pure false := by rfl) :
    PDS X ca W J Γ (.Expr (.Call (.Attribute (.Name x pos') "extend" apos) [e] [] cpos) pos) Γ (dExt i f) := by
  obtain ⟨t, p, q⟩ := he
  refine ⟨_, ps_expr (pe_bm PySem.F.plainAttrs_list PySem.F.slot_list_extend PySem.F.type_list_extend mt_extend (pe_var (i := i) hi hv hd hcd) (pa_cons p pa_nil hst) hbase hfew hline hst hpl) hs, fun B S0 M L σ H ρ N E pp => ?_⟩
  obtain ⟨a, d, h1, h2, h3, h4⟩ := slot_f E hm
  unfold dExt at pp
  rw [h3] at pp
  cases hf : f ρ with
  | none => rw [hf] at pp; exact pp.elim
  | some d0 =>
    rw [hf] at pp
    cases d0 with
    | lst es =>
      cases d with
      | lst ds =>
        have pp' : Post ⟨X.K, ca⟩ B S0 M J W Γ N (if ds.length + es.length ≤ 100000 then .nx (ρ.set i (.lst (ds ++ es))) else .bad) := pp
        split at pp'
        · rename_i hlen
          obtain ⟨xs, g1, g2⟩ := h4.flat_lst
          refine ⟨_, h2, .inl ⟨rfl, xs, SqL.of g1⟩, ?_⟩
          refine q B S0 M L σ H ρ E _ hf _ fun v H1 x1 rv => ?_
          have E1 := E.ext x1
          have rv' : Rep ⟨X.K, ca⟩ (hide (Msk M L) H1) v (.lst es) := rv
          cases rv' with
          | lst hb rb =>
            refine ⟨a, _, xs, _, rfl, rfl, x1 _ _ g1, (hide_of hb).2, sz5 (by rw [g2.length, rb.length]; exact hlen), ?_⟩
            exact pp' L σ _ (E1.relist hm h1 h2 ((g2.mono (hide_mono x1)).append rb))
        · exact pp'.elim
      | _ => exact pp.elim
    | _ => exact pp.elim
theorem pds_clear (i : Nat) (hm : Γ[i]? = some .f := by rfl) (hi : X.N[i]? = some x := by rfl) (hv : Vis X.env.scope x := by first | exact Or.inl rfl | exact Or.inr (Or.inl rfl) | exact Or.inr (Or.inr rfl)) (hd : (x == ("__debug__" : Str)) = false := by decide) (hcd : (x == ("__classdict__" : Str)) = false := by decide)
    (hbase : attributeBase (.Name x pos') "clear" X.env (eval (.Name x pos') X.env) = eval (.Name x pos') X.env := by rfl) (hline : (apos.endLine == cpos.line) = true := by rfl)
    (hs : swapsWith (.Call (.Attribute (.Name x pos') "clear" apos) [] [] cpos) none pos.line X.env = pure false := by rfl) :
    PDS X ca W J Γ (.Expr (.Call (.Attribute (.Name x pos') "clear" apos) [] [] cpos) pos) Γ (dClear i) := by
  refine ⟨_, ps_expr (pe_bm0 PySem.F.plainAttrs_list PySem.F.slot_list_clear PySem.F.type_list_clear mt_clear (pe_var (i := i) hi hv hd hcd) hbase hline) hs, fun B S0 M L σ H ρ N E pp => ?_⟩
  obtain ⟨a, d, h1, h2, h3, h4⟩ := slot_f E hm
  unfold dClear at pp
  rw [h3] at pp
  cases d with
  | lst ds =>
    obtain ⟨xs, g1, g2⟩ := h4.flat_lst
    exact ⟨_, h2, .inl ⟨rfl, xs, SqL.of g1⟩, a, xs, rfl, rfl, g1, pp L σ _ (E.relist hm h1 h2 .nil)⟩
  | _ => exact pp.elim
end
end DL

/-! DL: defs and their calls. -/
namespace DL
open PySem PySem.Spec PyProof.Rows L2
/-- what a def hands back -/
inductive Rs where
  | ok (d : D) | exc (e : Cl) (d : D) | bad
/-- a def's promise, by data: Γ0 how its parameters are handed in, rf whether it hands back a new list (or dict) of its own -/
def SpD (c : Ct) (Γ0 : List Md) (rf : Bool) (F : List D → Rs) : Sp := fun vs H Q E =>
  ∃ (B S0 : Hp) (M : Mz) (L : List (List Addr)) (ds : List D), EnvR c B S0 M Γ0 L (vs.map some) H ds ∧
    match F ds with
    | .ok d => ∀ v H', Ex B H' → ResR c B M rf H' v d → Q v H'
    | .exc e d => ∀ dx v H', Ex B H' → H' dx = some (.xd [("at", v)]) → B dx = none → Rep c (hide M H') v d → E (.ref (c.ca e)) (some dx) H'
    | .bad => False
def runF (rf : Bool) (n : Nat) (F : SFn) : List D → Rs := fun ds => match F (ds ++ List.replicate n .non) with
  | .nx _ => if rf = true then .bad else .ok .non
  | .ret d => .ok d
  | .exc e d _ => .exc e d
  | _ => .bad
section
variable {c : Ct} {z : Addr} {B S H : Hp}
theorem Slots.more : ∀ {Γ : List Md} {L : List (List Addr)} {σ : L2.St} {ρ : List D} (n : Nat), Slots c B z S H Γ L σ ρ → Slots c B z S H (Γ ++ List.replicate n .n) (L ++ List.replicate n []) (σ ++ List.replicate n none) (ρ ++ List.replicate n .non)
  | _, _, _, _, 0, .nil => .nil
  | _, _, _, _, n + 1, .nil => .cons rfl (Slots.more n .nil)
  | _, _, _, _, n, .cons h r => .cons h (Slots.more n r)
theorem In.more {L : List (List Addr)} {n : Nat} {a : Addr} (h : In (L ++ List.replicate n []) a) : In L a := by
  obtain ⟨l, h1, h2⟩ := h
  rcases List.mem_append.mp h1 with h1 | h1
  · exact ⟨l, h1, h2⟩
  · rw [(List.mem_replicate.mp h1).2] at h2
    cases h2
theorem Apart.more : ∀ {L : List (List Addr)} (n : Nat), Apart L → Apart (L ++ List.replicate n [])
  | [], 0, _ => trivial
  | [], n + 1, h => ⟨fun _ h => by (exact nomatch h), Apart.more (L := []) n h⟩
  | l :: L, n, h => ⟨fun a ha hi => h.1 a ha hi.more, Apart.more n h.2⟩
theorem EnvR.more {S0 : Hp} {M : Mz} {Γ : List Md} {L : List (List Addr)} {σ : L2.St} {ρ : List D} (n : Nat) (E : EnvR c B S0 M Γ L σ H ρ) :
    EnvR c B S0 M (Γ ++ List.replicate n .n) (L ++ List.replicate n []) (σ ++ List.replicate n none) H (ρ ++ List.replicate n .non) := by
  have hh : Ex (hide (Msk M L) H) (hide (Msk M (L ++ List.replicate n [])) H) := hide_le fun a o h q => ⟨fun z => h (by
    rcases z with z | z
    · exact .inl z
    · exact .inr z.more), q⟩
  exact ⟨E.eb, fun a h => ⟨(E.hm a h).1, fun z => (E.hm a h).2 z.more⟩, E.es.trans hh, E.ap.more n, fun a h => E.hl a h.more, (E.sl.mono hh fun a _ o h => h).more n⟩
end
section
variable {P : Program} {w : World} {K : PySem.W.Frag} {mg : Str → Option Value} {base : Heap} {x qual : Str} {params : Arguments} {body : List Stmt} {scope : Scope} {dvs : List V} {kws : List (Str × V)} {f : Addr} {fd : FuncData}
/-- THE RULE for a def -/
theorem fn_D {ca : Cl → Addr} {N ps : List Str} {k n : Nat} {Γ0 Γ' : List Md} {rf : Bool} {Fb : SFn} (F : FunD K x qual params body scope dvs kws f fd) (S : FnScope N ps scope) (hl : Γ0.length = ps.length) (hn : N.length = Γ0.length + n)
    (hb : ∀ (cdv : Value) (A : Around) (outer : List Env) (s : Shared) (H : Hp) (E : XK), Room k (A.deeper (envOfC qual scope s.heap.objs.size f cdv)) →
      PDSs (cxOf (L2.CX P w) P w K mg base N qual scope f cdv A outer s H E) ca (fun cls d _ H => E cls d H) ⟨rf, [], [], none⟩ (Γ0 ++ List.replicate n .n) body Γ' Fb) :
    FnOk P w K mg base (L2.CX P w) (k + 1) f fd ps (SpD ⟨K, ca⟩ Γ0 rf (runF rf n Fb)) := by
  refine F.ok S (fun vs H Q E h => ?_) (fun cdv A outer s H vs Q E hr h => ?_)
  · obtain ⟨B, S0, M, L, ds, E0, _⟩ := h
    have e := E0.sl.len.2.1
    rw [List.length_map] at e
    rw [e, hl]
  · obtain ⟨B, S0, M, L, ds, E0, post⟩ := h
    obtain ⟨t, p, q⟩ := hb cdv A outer s H E hr
    refine ⟨t, p, ?_⟩
    have e0 := E0.sl.len.2.1
    rw [List.length_map] at e0
    have es : L2.start N vs = vs.map some ++ List.replicate n none := by
      unfold L2.start
      rw [hn, e0, Nat.add_sub_cancel_left]
    rw [es]
    refine q B S0 M _ _ H _ _ (E0.more n) ?_
    unfold runF at post
    cases h : Fb (ds ++ List.replicate n .non) with
    | nx ρ' =>
      rw [h] at post
      intro L' σ' H' E'
      cases rf with
      | true => exact post.elim
      | false =>
        have post' : ∀ v H', Ex B H' → ResR ⟨K, ca⟩ B M false H' v .non → Q v H' := post
        exact post' .non H' E'.eb (by unfold ResR; exact .non)
    | ret d => rw [h] at post; exact post
    | exc e d ρ' =>
      rw [h] at post
      intro dx v L' σ' H' h1 h2 h3 h4 _
      exact post dx v H' h1 h2 h3 (res_s (B := B) h4)
    | brk ρ' => rw [h] at post; exact post.elim
    | cont ρ' => rw [h] at post; exact post.elim
    | bad => rw [h] at post; exact post.elim
end

/-! ### calls -/
def cmp1 : Vm → Md → Bool
  | .s, .s => true
  | .s, .b => true
  | .b, .b => true
  | .t, .b => true
  | .f, .b => true
  | _, _ => false
def cmps : List Vm → List Md → Bool
  | [], [] => true
  | m :: ms, g :: gs => cmp1 m g && cmps ms gs
  | _, _ => false
def noAdr (Γ : List Md) : List (List Addr) := Γ.map fun _ => []
theorem noAdr_in {Γ : List Md} {a : Addr} (h : In (noAdr Γ) a) : False := by
  obtain ⟨l, h1, h2⟩ := h
  obtain ⟨_, _, e⟩ := List.mem_map.mp h1
  rw [← e] at h2
  cases h2
theorem noAdr_apart : ∀ Γ : List Md, Apart (noAdr Γ)
  | [] => trivial
  | _ :: Γ => ⟨fun _ h => by (exact nomatch h), noAdr_apart Γ⟩
section
variable {c : Ct} {z : Addr} {B S0 H : Hp} {M : Mz} {L : List (List Addr)}
theorem VRs.app : ∀ {ms ns : List Vm} {vs ws : List V} {ds es : List D}, VRs c B M L H ms vs ds → VRs c B M L H ns ws es → VRs c B M L H (ms ++ ns) (vs ++ ws) (ds ++ es)
  | _, _, _, _, _, _, .nil, s => s
  | _, _, _, _, _, _, .cons h r, s => .cons h (r.app s)
/-- the callee's slots -/
theorem VRs.slots (eB : Ex B H) : ∀ {ms : List Vm} {Γ0 : List Md} {vs : List V} {ds : List D}, cmps ms Γ0 = true → VRs c B M L H ms vs ds → Slots c H z (hide (Msk M L) H) H Γ0 (noAdr Γ0) (vs.map some) ds
  | [], [], _, _, _, .nil => .nil
  | [], _ :: _, _, _, h, _ => nomatch h
  | _ :: _, [], _, _, h, _ => nomatch h
  | m :: ms, g :: Γ0, _, _, h, .cons r rs => by
    obtain ⟨h1, h2⟩ := Bool.and_eq_true_iff.mp (show (cmp1 m g && cmps ms Γ0) = true from h)
    refine .cons ?_ (rs.slots eB h2)
    cases g with
    | s =>
      cases m with
      | s => exact ⟨rfl, _, rfl, r⟩
      | t => exact nomatch h1
      | b => exact nomatch h1
      | f => exact nomatch h1
    | b => exact ⟨rfl, _, rfl, r.rep eB⟩
    | n => cases m <;> exact nomatch h1
    | f => cases m <;> exact nomatch h1
    | x => cases m <;> exact nomatch h1
    | o => cases m <;> exact nomatch h1
    | e => cases m <;> exact nomatch h1
theorem VRs.env {Γ : List Md} {σ : L2.St} {ρ : List D} (E : EnvR c B S0 M Γ L σ H ρ) {ms : List Vm} {Γ0 : List Md} {vs : List V} {ds : List D} (hc : cmps ms Γ0 = true) (r : VRs c B M L H ms vs ds) : EnvR c H (fun _ => none) ⟨Msk M L, M.z⟩ Γ0 (noAdr Γ0) (vs.map some) H ds := by
  have hh : Ex (hide (Msk M L) H) (hide (Msk ⟨Msk M L, M.z⟩ (noAdr Γ0)) H) := hide_le fun a o h q => ⟨fun z => by
    rcases z with z | z
    · exact h z
    · exact noAdr_in z, q⟩
  exact ⟨Ex.refl _, fun a h => ⟨by
    rcases h with h | h
    · exact (E.hm a h).1
    · exact (E.hl a h).1, fun z => noAdr_in z⟩, fun _ _ h => (nomatch h), noAdr_apart _, fun a h => (noAdr_in h).elim, (r.slots E.eb hc).mono hh fun _ _ _ h => h⟩
end
/-- the answer, if there is one -/
def okR : Rs → Option D
  | .ok d => some d
  | _ => none
def dFun (G : List D → Rs) (fs : List D → Option (List D)) (dfl : List D) : DFn := fun ρ => (fs ρ).bind fun ds => okR (G (ds ++ dfl))
/-- .. not None -/
def okRN : Rs → Option D
  | .ok d => if isNon d = true then none else some d
  | _ => none
theorem okRN_ok {r : Rs} {d : D} (h : okRN r = some d) : okR r = some d ∧ isNon d = false := by
  cases r with
  | ok d' =>
    have h' : (if isNon d' = true then none else some d') = some d := h
    split at h'
    · exact nomatch h'
    · rename_i hn
      cases h'
      exact ⟨rfl, by
        cases q : isNon d with
        | false => rfl
        | true => exact absurd q hn⟩
  | exc _ _ => cases h
  | bad => cases h
def dFunN (G : List D → Rs) (fs : List D → Option (List D)) (dfl : List D) : DFn := fun ρ => (fs ρ).bind fun ds => okRN (G (ds ++ dfl))
inductive Ims : List V → List D → Prop
  | nil : Ims [] []
  | cons {v : V} {vs : List V} {d : D} {ds : List D} : Im v d → Ims vs ds → Ims (v :: vs) (d :: ds)
theorem Ims.vrs {c : Ct} {B H : Hp} {M : Mz} {L : List (List Addr)} : ∀ {vs : List V} {ds : List D}, Ims vs ds → VRs c B M L H (List.replicate ds.length .s) vs ds
  | _, _, .nil => .nil
  | _, _, .cons h r => .cons (h.vr (by intro z; cases z)) r.vrs
section
variable {c : Ct} {B S0 H H' : Hp} {M : Mz} {L : List (List Addr)} {Γ : List Md} {σ : L2.St} {ρ : List D}
/-- behind a call -/
theorem res_back {v : V} {d : D} (h : ResR c H ⟨Msk M L, M.z⟩ false H' v d) : VR c .s B M L H' v d := h
theorem res_new {v : V} {d : D} {Q : VK} (h : ResR c H ⟨Msk M L, M.z⟩ true H' v d) (hd : isNon d = false) (q : ∀ p, v = .ref p → H p = none → Own c (hide (fun a => Msk M L a ∨ a = p) H') H' [p] (.ref p) d → Q v H') : Q v H' := by
  rcases h with ⟨_, e⟩ | ⟨p, rfl, h1, _, h3⟩
  · rw [e] at hd
    exact nomatch hd
  · exact q p rfl h1 h3
/-- a call's reading, where nothing is raised -/
theorem sp_ok {Γ0 : List Md} {rf : Bool} {G : List D → Rs} {ms : List Vm} {vs : List V} {ds : List D} {d : D} {Q : VK} {X : XK} (E : EnvR c B S0 M Γ L σ H ρ) (hc : cmps ms Γ0 = true) (r : VRs c B M L H ms vs ds) (hG : okR (G ds) = some d)
    (q : ∀ v H', Ex H H' → ResR c H ⟨Msk M L, M.z⟩ rf H' v d → Q v H') : SpD c Γ0 rf G vs H Q X := by
  refine ⟨H, _, ⟨Msk M L, M.z⟩, _, ds, VRs.env E hc r, ?_⟩
  cases h : G ds with
  | ok d' =>
    rw [h] at hG
    cases hG
    exact q
  | exc e d' => rw [h] at hG; cases hG
  | bad => rw [h] at hG; cases hG
end
section
variable {X : Cx} {ca : Cl → Addr} {Γ Γ0 : List Md} {k : Nat} {f : Addr} {fd : FuncData} {ps : List Str} {G : List D → Rs} {dvs : List V} {ds : List Value} {dfl : List D} {x m : Str} {p pos apos : Pos} {e o : Expr} {es : List Expr} {ms : List Vm} {fs : List D → Option (List D)} {mo : Vm} {fo : DFn}
/-- f(e, ..) -/
theorem pd_call (F : FnOk X.prog X.w X.K X.mg X.base (L2.CX X.prog X.w) k f fd ps (SpD ⟨X.K, ca⟩ Γ0 false G)) (hr : Room k X.A) (hm : X.mg x = some (.ref f)) (hk : PySem.W.keepIn X.K (.ref f) = true) (hb : Binds X.K fd ps ds) (hd : Vals dvs ds) (hi : Ims dvs dfl)
    (ha : PDA X ca Γ (e :: es) ms fs) (hc : cmps (ms ++ List.replicate dfl.length .s) Γ0 = true := by decide) (hg : Gl X x := by rfl) (hdb : (x == ("__debug__" : Str)) = false := by decide) (he : starEach (e :: es) X.env = (false, eval e X.env) :: starEach es X.env := by rfl) (hpl : (backTo pos (starEach es X.env)).any (·.1) = false := by rfl) :
    PDE X ca Γ (.Call (.Name x p) (e :: es) [] pos) .s (dFun G fs dfl) := by
  obtain ⟨t, pa, q⟩ := ha
  refine ⟨_, pe_call F hr hg hm hk hb hd passL pa hdb he hpl, fun B S0 M L σ H ρ E d hd Q kk => ?_⟩
  obtain ⟨as, e1, hd⟩ := bind_some hd
  refine q B S0 M L σ H ρ E as e1 _ fun vs H1 x1 r => ?_
  exact sp_ok (E.ext x1) hc (r.app hi.vrs) hd fun v H' x2 res => kk v H' (x1.trans x2) (res_back res)
theorem pd_callN (F : FnOk X.prog X.w X.K X.mg X.base (L2.CX X.prog X.w) k f fd ps (SpD ⟨X.K, ca⟩ Γ0 true G)) (hr : Room k X.A) (hm : X.mg x = some (.ref f)) (hk : PySem.W.keepIn X.K (.ref f) = true) (hb : Binds X.K fd ps ds) (hd : Vals dvs ds) (hi : Ims dvs dfl)
    (ha : PDA X ca Γ (e :: es) ms fs) (hc : cmps (ms ++ List.replicate dfl.length .s) Γ0 = true := by decide) (hg : Gl X x := by rfl) (hdb : (x == ("__debug__" : Str)) = false := by decide) (he : starEach (e :: es) X.env = (false, eval e X.env) :: starEach es X.env := by rfl) (hpl : (backTo pos (starEach es X.env)).any (·.1) = false := by rfl) :
    PDN X ca Γ (.Call (.Name x p) (e :: es) [] pos) (dFunN G fs dfl) := by
  obtain ⟨t, pa, q⟩ := ha
  refine ⟨_, pe_call F hr hg hm hk hb hd passL pa hdb he hpl, fun B S0 M L σ H ρ E d hd Q kk => ?_⟩
  obtain ⟨as, e1, hd⟩ := bind_some hd
  refine q B S0 M L σ H ρ E as e1 _ fun vs H1 x1 r => ?_
  obtain ⟨hd1, hd2⟩ := okRN_ok hd
  exact sp_ok (E.ext x1) hc (r.app hi.vrs) hd1 fun v H' x2 res => res_new res hd2 fun a ev hn ho => by
    subst ev
    exact kk a H' (x1.trans x2) (x1.free hn) ho
/-- a method's receiver is an instance of that class -/
def isObj (k : Cl) : D → Bool
  | .obj k' _ => decide (k' = k)
  | _ => false
def dMeth (c : Cl) (G : List D → Rs) (fo : DFn) (fs : List D → Option (List D)) (dfl : List D) : DFn := fun ρ => (fo ρ).bind fun o => if isObj c o = true then (fs ρ).bind fun ds => okR (G (o :: (ds ++ dfl))) else none
def dMethN (c : Cl) (G : List D → Rs) (fo : DFn) (fs : List D → Option (List D)) (dfl : List D) : DFn := fun ρ => (fo ρ).bind fun o => if isObj c o = true then (fs ρ).bind fun ds => okRN (G (o :: (ds ++ dfl))) else none
theorem dMethN_ok {cl : Cl} {G : List D → Rs} {fo : DFn} {fs : List D → Option (List D)} {dfl ρ : List D} {d : D} (h : dMethN cl G fo fs dfl ρ = some d) : dMeth cl G fo fs dfl ρ = some d ∧ isNon d = false := by
  obtain ⟨o, e1, h⟩ := bind_some h
  obtain ⟨ho, h⟩ := ite_some h
  obtain ⟨as, e2, h⟩ := bind_some h
  obtain ⟨h1, h2⟩ := okRN_ok h
  refine ⟨?_, h2⟩
  unfold dMeth
  rw [e1]
  show (if isObj cl o = true then (fs ρ).bind fun ds => okR (G (o :: (ds ++ dfl))) else none) = some d
  rw [if_pos ho, e2]
  exact h1
theorem isObj_rep {c : Ct} {H : Hp} {v : V} {d : D} {k : Cl} (r : Rep c H v d) (h : isObj k d = true) : ∃ a dx vs, v = .ref a ∧ H a = some (.ins (c.ca k) dx ((flds k).zip vs)) := by
  cases r with
  | obj h' r =>
    rename_i k' _
    have e : k' = k := of_decide_eq_true h
    subst e
    exact ⟨_, _, _, rfl, h'⟩
  | _ => cases h
theorem DE.meth {c : Ct} {to : TE} {t : TA} {cl : Cl} {rf : Bool} {E0' : XK} (q0 : DE c Γ to mo fo) (q : DA c Γ t ms fs) (hno : m ∉ flds cl) (hi : Ims dvs dfl) (hc : cmps (mo :: (ms ++ List.replicate dfl.length .s)) Γ0 = true)
    {B S0 : Hp} {M : Mz} {L : List (List Addr)} {σ : L2.St} {H : Hp} {ρ : List D} (E : EnvR c B S0 M Γ L σ H ρ) {d : D} (hd : dMeth cl G fo fs dfl ρ = some d) {Q : VK}
    (k : ∀ H1 v H', Ex H H1 → Ex H1 H' → ResR c H1 ⟨Msk M L, M.z⟩ rf H' v d → Q v H') : tMeth (c.ca cl) m (SpD c Γ0 rf G) dvs E0' to t σ H Q := by
  obtain ⟨o, e1, hd⟩ := bind_some hd
  obtain ⟨ho, hd⟩ := ite_some hd
  obtain ⟨as, e2, hd⟩ := bind_some hd
  refine q0 B S0 M L σ H ρ E o e1 _ fun x H1 x1 r0 => ?_
  obtain ⟨a, dx, vs, ex, h1⟩ := isObj_rep (r0.rep (E.eb.trans x1)) ho
  refine ⟨a, dx, _, ex, h1, zip_lookup_none hno, ?_⟩
  refine q B S0 M L σ H1 ρ (E.ext x1) as e2 _ fun vs H2 x2 r => ?_
  exact sp_ok ((E.ext x1).ext x2) hc (.cons (r0.mono x2) (r.app hi.vrs)) hd fun v H' x3 res => k H2 v H' (x1.trans x2) x3 res
/-- o.m(e, ..) -/
theorem pd_meth {pl : Sem Bool} (cl : Cl) (F : FnOk X.prog X.w X.K X.mg X.base (L2.CX X.prog X.w) k f fd ps (SpD ⟨X.K, ca⟩ Γ0 false G)) (hk : ClsOk X.K ca cl) (hmt : Meth X.K (ca cl) m f) (hr : Room k X.A) (hb : Binds X.K fd ps ds) (hd : Vals dvs ds) (hi : Ims dvs dfl)
    (ho : PDE X ca Γ o mo fo) (ha : PDA X ca Γ (e :: es) ms fs) (hc : cmps (mo :: (ms ++ List.replicate dfl.length .s)) Γ0 = true := by decide) (hno : m ∉ flds cl := by decide +kernel)
    (hst : starEach (e :: es) X.env = (false, eval e X.env) :: starEach es X.env := by rfl) (hpl : (backTo pos (starEach es X.env)).any (·.1) = false := by rfl)
    (ht : eval (.Call (.Attribute o m apos) (e :: es) [] pos) X.env = (do
      let ov ← eval o X.env
      standAt apos.atName
      let (f, first) ← holding [ov] (getMethod ov m pl)
      callWith pos f first (backTo pos (starEach (e :: es) X.env)) (backToKw pos (keywordEach [] X.env))) := by rfl) :
    PDE X ca Γ (.Call (.Attribute o m apos) (e :: es) [] pos) .s (dMeth cl G fo fs dfl) := by
  obtain ⟨t0, p0, q0⟩ := ho
  obtain ⟨t, pa, q⟩ := ha
  exact ⟨_, pe_meth p0 hk.cls hmt F hr hb hd passL pa hst hpl ht, fun B S0 M L σ H ρ E d hd Q kk => DE.meth (c := ⟨X.K, ca⟩) q0 q hno hi hc E hd fun H1 v H' x1 x2 res => kk v H' (x1.trans x2) (res_back res)⟩
theorem pd_methN {pl : Sem Bool} (cl : Cl) (F : FnOk X.prog X.w X.K X.mg X.base (L2.CX X.prog X.w) k f fd ps (SpD ⟨X.K, ca⟩ Γ0 true G)) (hk : ClsOk X.K ca cl) (hmt : Meth X.K (ca cl) m f) (hr : Room k X.A) (hb : Binds X.K fd ps ds) (hd : Vals dvs ds) (hi : Ims dvs dfl)
    (ho : PDE X ca Γ o mo fo) (ha : PDA X ca Γ (e :: es) ms fs) (hc : cmps (mo :: (ms ++ List.replicate dfl.length .s)) Γ0 = true := by decide) (hno : m ∉ flds cl := by decide +kernel)
    (hst : starEach (e :: es) X.env = (false, eval e X.env) :: starEach es X.env := by rfl) (hpl : (backTo pos (starEach es X.env)).any (·.1) = false := by rfl)
    (ht : eval (.Call (.Attribute o m apos) (e :: es) [] pos) X.env = (do
      let ov ← eval o X.env
      standAt apos.atName
      let (f, first) ← holding [ov] (getMethod ov m pl)
      callWith pos f first (backTo pos (starEach (e :: es) X.env)) (backToKw pos (keywordEach [] X.env))) := by rfl) :
    PDN X ca Γ (.Call (.Attribute o m apos) (e :: es) [] pos) (dMethN cl G fo fs dfl) := by
  obtain ⟨t0, p0, q0⟩ := ho
  obtain ⟨t, pa, q⟩ := ha
  exact ⟨_, pe_meth p0 hk.cls hmt F hr hb hd passL pa hst hpl ht, fun B S0 M L σ H ρ E d hd Q kk => DE.meth (c := ⟨X.K, ca⟩) q0 q hno hi hc E (dMethN_ok hd).1 fun H1 v H' x1 x2 res => res_new res (dMethN_ok hd).2 fun a ev hn ho => by
    subst ev
    exact kk a H' (x1.trans x2) (x1.free hn) ho⟩
/-- o.m() -/
theorem pd_meth0 {pl : Sem Bool} (cl : Cl) (F : FnOk X.prog X.w X.K X.mg X.base (L2.CX X.prog X.w) k f fd ps (SpD ⟨X.K, ca⟩ Γ0 false G)) (hk : ClsOk X.K ca cl) (hmt : Meth X.K (ca cl) m f) (hr : Room k X.A) (hb : Binds X.K fd ps ds) (hd : Vals dvs ds) (hi : Ims dvs dfl)
    (ho : PDE X ca Γ o mo fo) (hc : cmps (mo :: ([] ++ List.replicate dfl.length .s)) Γ0 = true := by decide) (hno : m ∉ flds cl := by decide +kernel)
    (ht : eval (.Call (.Attribute o m apos) [] [] pos) X.env = (do
      let ov ← eval o X.env
      standAt apos.atName
      let (f, first) ← holding [ov] (getMethod ov m pl)
      callWith pos f first (backTo pos (starEach [] X.env)) (backToKw pos (keywordEach [] X.env))) := by rfl) :
    PDE X ca Γ (.Call (.Attribute o m apos) [] [] pos) .s (dMeth cl G fo dNilA dfl) := by
  obtain ⟨t0, p0, q0⟩ := ho
  exact ⟨_, pe_meth0 p0 hk.cls hmt F hr hb hd passL ht, fun B S0 M L σ H ρ E d hd Q kk => DE.meth (c := ⟨X.K, ca⟩) (ms := []) q0 (fun B S0 M L σ H ρ E ds hd Q q => by cases hd; exact q [] H (Ex.refl _) .nil) hno hi hc E hd fun H1 v H' x1 x2 res => kk v H' (x1.trans x2) (res_back res)⟩
theorem pd_meth0N {pl : Sem Bool} (cl : Cl) (F : FnOk X.prog X.w X.K X.mg X.base (L2.CX X.prog X.w) k f fd ps (SpD ⟨X.K, ca⟩ Γ0 true G)) (hk : ClsOk X.K ca cl) (hmt : Meth X.K (ca cl) m f) (hr : Room k X.A) (hb : Binds X.K fd ps ds) (hd : Vals dvs ds) (hi : Ims dvs dfl)
    (ho : PDE X ca Γ o mo fo) (hc : cmps (mo :: ([] ++ List.replicate dfl.length .s)) Γ0 = true := by decide) (hno : m ∉ flds cl := by decide +kernel)
    (ht : eval (.Call (.Attribute o m apos) [] [] pos) X.env = (do
      let ov ← eval o X.env
      standAt apos.atName
      let (f, first) ← holding [ov] (getMethod ov m pl)
      callWith pos f first (backTo pos (starEach [] X.env)) (backToKw pos (keywordEach [] X.env))) := by rfl) :
    PDN X ca Γ (.Call (.Attribute o m apos) [] [] pos) (dMethN cl G fo dNilA dfl) := by
  obtain ⟨t0, p0, q0⟩ := ho
  exact ⟨_, pe_meth0 p0 hk.cls hmt F hr hb hd passL ht, fun B S0 M L σ H ρ E d hd Q kk => DE.meth (c := ⟨X.K, ca⟩) (ms := []) q0 (fun B S0 M L σ H ρ E ds hd Q q => by cases hd; exact q [] H (Ex.refl _) .nil) hno hi hc E (dMethN_ok hd).1 fun H1 v H' x1 x2 res => res_new res (dMethN_ok hd).2 fun a ev hn ho => by
    subst ev
    exact kk a H' (x1.trans x2) (x1.free hn) ho⟩
end
end DL

/-! DL: instances made; what is raised. -/
namespace DL
open PySem PySem.Spec PyProof.Rows L2
section
variable {c : Ct} {B S0 H H' : Hp} {M : Mz} {L : List (List Addr)} {Γ : List Md} {σ : L2.St} {ρ : List D}
theorem slot_x (E : EnvR c B S0 M Γ L σ H ρ) {i : Nat} (hm : Γ[i]? = some .x) : ∃ d, L[i]? = some [M.z] ∧ σ[i]? = some (some (.ref M.z)) ∧ ρ[i]? = some d ∧ Own c (hide (Msk M L) H) H [M.z] (.ref M.z) d := by
  obtain ⟨l, x, d, h1, h2, h3, e1, e2, h4⟩ := E.sl.get hm
  subst e1 e2
  exact ⟨d, h1, h2, h3, h4⟩
/-- the instance that is made, changed -/
theorem EnvR.remake (E : EnvR c B S0 M Γ L σ H ρ) {i : Nat} {o : HO} {d : D} (hm : Γ[i]? = some .x) (hl : L[i]? = some [M.z]) (hs : σ[i]? = some (some (.ref M.z))) (ho : Mut (some o)) (r : ∀ S, Ex (hide (Msk M L) H) S → Own c S (upd H M.z o) [M.z] (.ref M.z) d) :
    EnvR c B S0 M Γ L σ (upd H M.z o) (ρ.set i d) := by
  have k : ∀ a u, a ∉ [M.z] → H a = some u → upd H M.z o a = some u := fun a u h q => by
    rw [upd_ne (by simpa using h)]
    exact q
  have inL : In L M.z := ⟨[M.z], List.mem_of_getElem? hl, .head _⟩
  have e1 : L.set i [M.z] = L := list_set_self hl
  have hh : Ex (hide (Msk M L) H) (hide (Msk M L) (upd H M.z o)) := hide_le fun a u h q => ⟨h, k a u (fun z => h (.inr (by
    have e : a = M.z := by simpa using z
    subst e
    exact inL))) q⟩
  have E' := E.change (m' := .x) (x' := some (.ref M.z)) (d' := d) i hl k (fun a ha => .inl ha) (fun a ha => by
    have e : a = M.z := by simpa using ha
    subst e
    rw [upd_same]
    exact ho) (by
    rw [e1]
    exact ⟨rfl, rfl, r _ hh⟩)
  rw [e1, list_set_self hm, list_set_self hs] at E'
  exact E'
end
theorem putF_zip {f : Str} {v : V} : ∀ {ns : List Str} {vs : List V}, ns.Nodup → ns[vs.length]? = some f → putF f v (ns.zip vs) = ns.zip (vs ++ [v])
  | [], _, _, h => by simp at h
  | n :: ns, [], _, h => by
    simp at h
    subst h
    simp [putF]
  | n :: ns, w :: vs, nd, h => by
    have h' : ns[vs.length]? = some f := by simpa using h
    have ne : ¬ n = f := fun z => by
      subst z
      exact (List.nodup_cons.mp nd).1 (List.mem_of_getElem? h')
    show (if n = f then (n, v) :: ns.zip vs else (n, w) :: putF f v (ns.zip vs)) = _
    rw [if_neg ne, putF_zip (List.nodup_cons.mp nd).2 h']
    rfl
theorem Own.flat_obj {c : Ct} {S H : Hp} {p : Addr} {k : Cl} {fs : List D} (h : Own c S H [p] (.ref p) (.obj k fs)) : ∃ dx vs, H p = some (.ins (c.ca k) dx ((flds k).zip vs)) ∧ Reps c S vs fs := by
  cases h with
  | obj h r => exact ⟨_, _, h, r.flat rfl⟩
def dFst (i : Nat) (k : Cl) (j : Nat) (f : DFn) : SFn := fun ρ => match f ρ, ρ[i]? with
  | some d, some (.obj k' fs) => if k' = k ∧ fs.length = j then .nx (ρ.set i (.obj k (fs ++ [d]))) else .bad
  | _, _ => .bad
section
variable {X : Cx} {ca : Cl → Addr} {W : WX} {J : Jd} {Γ Γ0 Γ' : List Md} {e : Expr} {f : DFn} {m : Vm} {pos pos' apos cpos p : Pos} {x fn : Str}
/-- self.f = e, a further field of the instance that is made -/
theorem pds_fst (i : Nat) (k : Cl) (j : Nat) (hk : ClsOk X.K ca k) (he : PDE X ca Γ e .s f) (hm : Γ[i]? = some .x := by rfl) (hf : (flds k)[j]? = some fn := by rfl) (hnd : (flds k).Nodup := by decide +kernel) (hi : X.N[i]? = some x := by rfl) (hv : Vis X.env.scope x := by first | exact Or.inl rfl | exact Or.inr (Or.inl rfl) | exact Or.inr (Or.inr rfl)) (hd : (x == ("__debug__" : Str)) = false := by decide) (hcd : (x == ("__classdict__" : Str)) = false := by decide)
    (hs : swapsWith e (some (.Attribute (.Name x p) fn pos')) pos.line X.env = pure false := by rfl) : PDS X ca W J Γ (.Assign [.Attribute (.Name x p) fn pos'] e pos) Γ (dFst i k j f) := by
  obtain ⟨t, pe, q⟩ := he
  refine ⟨_, ps_fld (pe_var (i := i) hi hv hd hcd) pe hs, fun B S0 M L σ H ρ N E pp => ?_⟩
  obtain ⟨d, h1, h2, h3, h4⟩ := slot_x E hm
  unfold dFst at pp
  rw [h3] at pp
  cases hf0 : f ρ with
  | none => rw [hf0] at pp; exact pp.elim
  | some d0 =>
    rw [hf0] at pp
    cases d with
    | obj k' fs =>
      have pp' : Post ⟨X.K, ca⟩ B S0 M J W Γ N (if k' = k ∧ fs.length = j then .nx (ρ.set i (.obj k (fs ++ [d0]))) else .bad) := pp
      split at pp'
      · rename_i hc
        obtain ⟨ek, ej⟩ := hc
        subst ek
        obtain ⟨dx, vs, g1, g2⟩ := h4.flat_obj
        refine q B S0 M L σ H ρ E d0 hf0 _ fun v H1 x1 rv => ?_
        have E1 := E.ext x1
        have hz : (flds k')[vs.length]? = some fn := by
          rw [g2.length, ej]
          exact hf
        refine ⟨_, h2, M.z, _, dx, _, rfl, x1 _ _ g1, hk.cls, hk.no fn (List.mem_of_getElem? hf), ?_, ?_⟩
        · rw [List.length_zip]
          exact Nat.lt_of_le_of_lt (Nat.min_le_left _ _) (by cases k' <;> decide)
        · rw [putF_zip hnd hz]
          exact pp' L σ _ (E1.remake hm h1 h2 True.intro fun S eS => .obj upd_same (Owns.sh (((g2.mono (hide_mono x1)).snoc rv).mono eS)))
      · exact pp'.elim
    | _ => exact pp.elim
end
/-- an __init__'s promise -/
def SpI (c : Ct) (k : Cl) (Γ0 : List Md) (F : List D → Rs) : Sp := fun vs H Q E =>
  ∃ (x : Addr) (as : List V) (B S0 : Hp) (M : Mz) (L : List (List Addr)) (ds : List D), vs = .ref x :: as ∧ M.z = x ∧ EnvR c B S0 M (.x :: Γ0) ([x] :: L) (vs.map some) H (.obj k [] :: ds) ∧
    match F ds with
    | .ok d => ∀ H', Ex B H' → Own c (hide (fun a => M a ∨ a = x) H') H' [x] (.ref x) d → Q .non H'
    | .exc e d => ∀ dx v H', Ex B H' → H' dx = some (.xd [("at", v)]) → B dx = none → Rep c (hide M H') v d → E (.ref (c.ca e)) (some dx) H'
    | .bad => False
def runI (k : Cl) (n : Nat) (F : SFn) : List D → Rs := fun ds => match F (.obj k [] :: (ds ++ List.replicate n .non)) with
  | .nx ρ => (match ρ[0]? with
    | some d => .ok d
    | none => .bad)
  | .exc e d _ => .exc e d
  | _ => .bad
section
variable {P : Program} {w : World} {K : PySem.W.Frag} {mg : Str → Option Value} {base : Heap} {x qual : Str} {params : Arguments} {body : List Stmt} {scope : Scope} {dvs : List V} {kws : List (Str × V)} {f : Addr} {fd : FuncData}
/-- THE RULE for an __init__ -/
theorem fn_I {ca : Cl → Addr} {cl : Cl} {N ps : List Str} {k n : Nat} {Γ0 Γ' : List Md} {Fb : SFn} (F : FunD K x qual params body scope dvs kws f fd) (S : FnScope N ps scope) (hl : Γ0.length + 1 = ps.length) (hn : N.length = Γ0.length + 1 + n) (hΓ : Γ'[0]? = some .x)
    (hb : ∀ (cdv : Value) (A : Around) (outer : List Env) (s : Shared) (H : Hp) (E : XK), Room k (A.deeper (envOfC qual scope s.heap.objs.size f cdv)) →
      PDSs (cxOf (L2.CX P w) P w K mg base N qual scope f cdv A outer s H E) ca (fun cls d _ H => E cls d H) ⟨false, [], [], none⟩ (.x :: Γ0 ++ List.replicate n .n) body Γ' Fb) :
    FnOk P w K mg base (L2.CX P w) (k + 1) f fd ps (SpI ⟨K, ca⟩ cl Γ0 (runI cl n Fb)) := by
  refine F.ok S (fun vs H Q E h => ?_) (fun cdv A outer s H vs Q E hr h => ?_)
  · obtain ⟨x, as, B, S0, M, L, ds, ev, ez, E0, _⟩ := h
    have e := E0.sl.len.2.1
    rw [List.length_map, List.length_cons] at e
    rw [e, hl]
  · obtain ⟨x, as, B, S0, M, L, ds, ev, ez, E0, post⟩ := h
    obtain ⟨t, p, q⟩ := hb cdv A outer s H E hr
    refine ⟨t, p, ?_⟩
    have e0 := E0.sl.len.2.1
    rw [List.length_map, List.length_cons] at e0
    have es : L2.start N vs = vs.map some ++ List.replicate n none := by
      unfold L2.start
      rw [hn, e0, Nat.add_sub_cancel_left]
    rw [es]
    refine q B S0 M _ _ H _ _ (E0.more n) ?_
    unfold runI at post
    have eρ : (D.obj cl [] :: ds) ++ List.replicate n D.non = .obj cl [] :: (ds ++ List.replicate n .non) := rfl
    rw [eρ]
    cases h : Fb (.obj cl [] :: (ds ++ List.replicate n .non)) with
    | nx ρ' =>
      rw [h] at post
      intro L' σ' H' E'
      obtain ⟨d, h1, h2, h3, h4⟩ := slot_x E' hΓ
      have post' : (match (match ρ'[0]? with | some d => Rs.ok d | none => Rs.bad) with
        | .ok d => ∀ H', Ex B H' → Own ⟨K, ca⟩ (hide (fun a => M a ∨ a = x) H') H' [x] (.ref x) d → Q .non H'
        | .exc e d => ∀ dx v H', Ex B H' → H' dx = some (.xd [("at", v)]) → B dx = none → Rep ⟨K, ca⟩ (hide M H') v d → E (.ref (ca e)) (some dx) H'
        | .bad => False) := post
      rw [h3] at post'
      rw [ez] at h4
      exact post' H' E'.eb (h4.mono (hide_le fun a o h q => ⟨fun z => h (by
        rcases z with z | z
        · exact .inl z
        · exact .inr ⟨[M.z], List.mem_of_getElem? h1, by rw [z, ez]; exact .head _⟩), q⟩) fun _ _ _ h => h)
    | ret d => rw [h] at post; exact post.elim
    | exc e d ρ' =>
      rw [h] at post
      intro dx v L' σ' H' h1 h2 h3 h4 _
      exact post dx v H' h1 h2 h3 (res_s (B := B) h4)
    | brk ρ' => rw [h] at post; exact post.elim
    | cont ρ' => rw [h] at post; exact post.elim
    | bad => rw [h] at post; exact post.elim
end
section
variable {c : Ct} {B S0 H H1 : Hp} {M : Mz} {L : List (List Addr)} {Γ : List Md} {σ : L2.St} {ρ : List D}
/-- the state at an __init__'s entry -/
theorem make_env (E : EnvR c B S0 M Γ L σ H ρ) {x dx C : Addr} {k : Cl} (hx : H x = none) (hdx : H dx = none) (hne : dx ≠ x) (hC : C = c.ca k) {ms : List Vm} {Γ0 : List Md} {vs : List V} {ds : List D} (hc : cmps ms Γ0 = true) (r : VRs c B M L H ms vs ds) :
    EnvR c (upd H dx (.own x)) (fun _ => none) ⟨Msk M L, x⟩ (.x :: Γ0) ([x] :: noAdr Γ0) ((V.ref x :: vs).map some) (upd (upd H dx (.own x)) x (.ins C dx [])) (.obj k [] :: ds) := by
  subst hC
  have e1 : Ex H (upd H dx (.own x)) := Ex.new hdx
  have hx1 : upd H dx (.own x) x = none := by rw [upd_ne (Ne.symm hne)]; exact hx
  have e2 : Ex (upd H dx (.own x)) (upd (upd H dx (.own x)) x (.ins (c.ca k) dx [])) := Ex.new hx1
  have inx : ∀ a, In ([x] :: noAdr Γ0) a → a = x := fun a h => by
    rcases h.inv with h | h
    · simpa using h
    · exact (noAdr_in h).elim
  have nox : ¬ Msk M L x := fun z => by
    rcases z with z | z
    · exact E.noM hx z
    · exact E.noL hx z
  have hh : Ex (hide (Msk M L) H) (hide (Msk ⟨Msk M L, x⟩ ([x] :: noAdr Γ0)) (upd (upd H dx (.own x)) x (.ins (c.ca k) dx []))) := hide_le fun a o h q => ⟨fun z => by
    rcases z with z | z
    · exact h z
    · rw [inx a z, hx] at q
      exact (nomatch q), e2 _ _ (e1 _ _ q)⟩
  refine ⟨e2, fun a h => ⟨?_, fun z => ?_⟩, fun _ _ h => (nomatch h), ⟨fun a _ h => (noAdr_in h).elim, noAdr_apart _⟩, fun a h => ?_, ?_⟩
  · rcases h with h | h
    · exact mut_ex e2 (mut_ex e1 (E.hm a h).1)
    · exact mut_ex e2 (mut_ex e1 (E.hl a h).1)
  · rw [inx a z] at h
    exact nox h
  · rw [inx a h, upd_same]
    exact ⟨True.intro, hx1⟩
  · refine .cons ⟨rfl, rfl, .obj (dx := dx) (vs := []) (by rw [upd_same, List.zip_nil_right]) .nil⟩ ?_
    have s := r.slots (z := x) E.eb hc
    have go : ∀ {Γ0 : List Md} {vs : List (Option V)} {ds : List D} {LL : List (List Addr)}, (∀ a, In LL a → False) → Slots c H x (hide (Msk M L) H) H Γ0 LL vs ds → ∀ {S' H' B' : Hp}, Ex (hide (Msk M L) H) S' → Ex H B' → Slots c B' x S' H' Γ0 LL vs ds := by
      intro Γ0 vs ds LL hL s
      induction s with
      | nil => intro S' H' B' _ _; exact .nil
      | @cons m ms l ls x' σ' d' ρ' h r ih =>
        intro S' H' B' eS eB
        have el : ∀ a, a ∉ l := fun a ha => hL a (.head ha)
        refine .cons ?_ (ih (fun a h => hL a h.cons) eS eB)
        cases m with
        | n => exact h
        | b => exact ⟨h.1, let ⟨v, e, q⟩ := h.2; ⟨v, e, q.mono eB⟩⟩
        | s => exact ⟨h.1, let ⟨v, e, q⟩ := h.2; ⟨v, e, q.mono eS⟩⟩
        | f => obtain ⟨p, e, _⟩ := h; subst e; exact (el p (.head _)).elim
        | x => obtain ⟨e, _⟩ := h; subst e; exact (el _ (.head _)).elim
        | o => obtain ⟨nd, v, e, q⟩ := h; exact ⟨nd, v, e, q.mono eS fun a ha => (el a ha).elim⟩
        | e => obtain ⟨h1, h2, v, d', h3, h4, h5⟩ := h; exact ⟨h1, h2, v, d', h3, eS _ _ h4, h5.mono eS⟩
    exact go (fun a h => noAdr_in h) s hh e1
end
section
variable {X : Cx} {ca : Cl → Addr} {Γ Γ0 : List Md} {k : Nat} {f : Addr} {fd : FuncData} {ps : List Str} {G : List D → Rs} {dvs : List V} {ds : List Value} {dfl : List D} {x m : Str} {p pos apos : Pos} {e o : Expr} {es : List Expr} {ms : List Vm} {fs : List D → Option (List D)} {mo : Vm} {fo : DFn}
/-- C(e, ..) -/
theorem pd_make (cl : Cl) (Mk0 : Mk X.K (ca cl) f) (F : FnOk X.prog X.w X.K X.mg X.base (L2.CX X.prog X.w) k f fd ps (SpI ⟨X.K, ca⟩ cl Γ0 G)) (hr : Room (k + 1) X.A) (hm : X.mg x = some (.ref (ca cl))) (hb : Binds X.K fd ps ds) (hd : Vals dvs ds) (hi : Ims dvs dfl)
    (ha : PDA X ca Γ (e :: es) ms fs) (hc : cmps (ms ++ List.replicate dfl.length .s) Γ0 = true := by decide) (hg : Gl X x := by rfl) (hdb : (x == ("__debug__" : Str)) = false := by decide) (he : starEach (e :: es) X.env = (false, eval e X.env) :: starEach es X.env := by rfl) (hpl : (backTo pos (starEach es X.env)).any (·.1) = false := by rfl) :
    PDN X ca Γ (.Call (.Name x p) (e :: es) [] pos) (dFun G fs dfl) := by
  obtain ⟨t, pa, q⟩ := ha
  refine ⟨_, pe_make Mk0 F hr hg hm hb hd passL pa hdb he hpl, fun B S0 M L σ H ρ E d hd Q kk => ?_⟩
  obtain ⟨as, e1, hd⟩ := bind_some hd
  refine q B S0 M L σ H ρ E as e1 _ fun vs H1 x1 r => fun a dx ha hdx hne => ?_
  have E1 := E.ext x1
  refine ⟨a, _, _, _, ⟨Msk M L, a⟩, _, _, rfl, rfl, make_env (k := cl) E1 ha hdx hne rfl hc (r.app hi.vrs), ?_⟩
  cases h : G (as ++ dfl) with
  | ok d' =>
    rw [h] at hd
    cases hd
    exact fun H' x2 ho => ⟨rfl, kk a H' ((x1.trans (Ex.new hdx)).trans x2) (x1.free ha) ho⟩
  | exc e d' => rw [h] at hd; cases hd
  | bad => rw [h] at hd; cases hd
end

/-! ### raise -/
/-- what the text says of a class of errors -/
structure ExcOk (K : PySem.W.Frag) (ca : Cl → Addr) (fI : Addr) (k : Cl) : Prop where
  oex : OexC K (ca k)
  no : PySem.W.findIn K (.ref (ca k)) "at" = some none
  init : PySem.W.findIn K (.ref (ca k)) "__init__" = some (some (.ref fI))
/-- SwapError.__init__ -/
def spX (K : PySem.W.Frag) : Sp := fun vs H Q _ => ∃ (a C : Addr) (v : V), vs = [.ref a, v] ∧ OexC K C ∧ PySem.W.findIn K (.ref C) "at" = some none ∧ H a = some (exo a C none) ∧ ∀ dx, H dx = none → dx ≠ a → Q .non (upd (upd H dx (exd dx [("at", v)])) a (exo a C (some dx)))
def dRaise (e : Cl) (f : DFn) : SFn := fun ρ => match f ρ with
  | some d => .exc e d ρ
  | none => .bad
section
variable {X : Cx} {ca : Cl → Addr} {W : WX} {J : Jd} {Γ Γ' : List Md} {e : Expr} {f : DFn} {pos cpos p : Pos} {x : Str} {fI : Addr} {fd : FuncData} {k : Nat}
theorem raise_heap {H : Hp} {a d : Addr} {v : V} {o1 o2 o3 : HO} (ha : H a = none) (hd : H d = none) (hne : d ≠ a) : upd (del (upd (upd (upd H a o1) d o2) a o3) a) d (.xd [("at", v)]) = upd H d (.xd [("at", v)]) := by
  funext b
  by_cases h1 : b = d
  · subst h1
    rw [upd_same, upd_same]
  · rw [upd_ne h1, upd_ne h1]
    by_cases h2 : b = a
    · subst h2
      rw [del_same, ha]
    · rw [del_ne h2, upd_ne h2, upd_ne h1, upd_ne h2]
theorem pds_raise (ec : Cl) (tk : Takes X W) (T : ExcOk X.K ca fI ec) (tI : PySem.W.typeIn X.K (.ref fI) = some (.type "function")) (F : FnOk X.prog X.w X.K X.mg X.base (L2.CX X.prog X.w) k fI fd ["self", "at"] (spX X.K)) (hr : Room (k + 1) X.A) (hb : Binds X.K fd ["self", "at"] []) (hm : X.mg x = some (.ref (ca ec)))
    (he : PDE X ca Γ e .s f) (hx : ∀ Γx, J.Γx = some Γx → wks Γ Γx = true := by intro _ h; first | (cases h; done) | (cases h; first | decide | rfl)) (hc : X.calm = true := by rfl) (hg : Gl X x := by rfl) (hdb : (x == ("__debug__" : Str)) = false := by decide) (hst : starEach (e :: []) X.env = (false, eval e X.env) :: starEach [] X.env := by rfl) (hpl : (backTo cpos (starEach [] X.env)).any (·.1) = false := by rfl) :
    PDS X ca W J Γ (.Raise (some (.Call (.Name x p) (e :: []) [] cpos)) none pos) Γ' (dRaise ec f) := by
  obtain ⟨t, pe, q⟩ := he
  refine ⟨_, ps_raise hc tk (pmk_oex T.oex T.init tI F hr hb .nil passL hg hm (pa_cons pe pa_nil hst) hdb hst hpl), fun B S0 M L σ H ρ N E pp => ?_⟩
  unfold dRaise at pp
  cases hd : f ρ with
  | none => rw [hd] at pp; exact pp.elim
  | some d =>
    rw [hd] at pp
    refine q B S0 M L σ H ρ E d hd _ fun v H1 x1 rv => ⟨by show 1 ≤ 1000; decide, fun a ha => ?_⟩
    refine ⟨a, ca ec, v, rfl, T.oex, T.no, upd_same, fun dx hdx hne => ⟨rfl, dx, [("at", v)], upd_same, by rw [upd_ne hne, upd_same], ?_, ?_⟩⟩
    · rw [upd_ne hne] at hdx
      exact hdx
    · have hd1 : H1 dx = none := by
        rw [upd_ne hne] at hdx
        exact hdx
      rw [raise_heap ha hd1 hne]
      have x2 : Ex H1 (upd H1 dx (.xd [("at", v)])) := Ex.new hd1
      have E2 := (E.ext x1).ext x2
      have rv2 : Rep ⟨X.K, ca⟩ (hide (Msk M L) (upd H1 dx (.xd [("at", v)]))) v d := VR.mono (m := .s) (B := B) (M := M) (L := L) x2 rv
      have hB := (E.ext x1).eb.free hd1
      cases hΓ : J.Γx with
      | none => exact pp dx v L σ _ E2.eb upd_same hB rv2 fun Γx h => by rw [hΓ] at h; cases h
      | some Γx =>
        obtain ⟨L', sub, E3⟩ := E2.weak (hx Γx hΓ)
        exact pp dx v L' σ _ E2.eb upd_same hB (rv2.mono (hide_le fun a o h q => ⟨fun z => h (by
          rcases z with z | z
          · exact .inl z
          · exact .inr (sub a z)), q⟩)) fun Γy h => by
            rw [hΓ] at h
            cases h
            exact E3
end
end DL

/-! DL: built-ins by data; unpacking; enumerate. -/
namespace DL
open PySem PySem.Spec PyProof.Rows L2
/-! ### len, list, sorted, max, min, any, all, isinstance -/
def gLen : List D → Option D
  | [a] => (seqOf a).map fun ds => .int ds.length
  | _ => none
def gMax2 : List D → Option D
  | [.int i, .int j] => some (.int (if j > i then j else i))
  | _ => none
def gMin2 : List D → Option D
  | [.int i, .int j] => some (.int (if j < i then j else i))
  | _ => none
def asInts : List D → Option (List Int)
  | [] => some []
  | .int i :: ds => (asInts ds).map (i :: ·)
  | _ :: _ => none
def asBools : List D → Option (List Bool)
  | [] => some []
  | .bl b :: ds => (asBools ds).map (b :: ·)
  | _ :: _ => none
def maxI : Int → List Int → Int
  | m, [] => m
  | m, n :: ns => maxI (if n > m then n else m) ns
def minI : Int → List Int → Int
  | m, [] => m
  | m, n :: ns => minI (if n < m then n else m) ns
def gMax : List D → Option D
  | [a] => ((seqOf a).bind asInts).bind fun ns => match ns with
    | [] => none
    | n :: ns => some (.int (maxI n ns))
  | _ => none
def gMin : List D → Option D
  | [a] => ((seqOf a).bind asInts).bind fun ns => match ns with
    | [] => none
    | n :: ns => some (.int (minI n ns))
  | _ => none
def gAny : List D → Option D
  | [a] => ((lstOf a).bind asBools).map fun bs => .bl (bs.any id)
  | _ => none
def gAll : List D → Option D
  | [a] => ((lstOf a).bind asBools).map fun bs => .bl (bs.all id)
  | _ => none
theorem asInts_some : ∀ {ds : List D} {ns : List Int}, asInts ds = some ns → ds = ns.map .int
  | [], _, h => by cases h; rfl
  | .int i :: ds, ns, h => by
    obtain ⟨ms, e1, e2⟩ := Option.map_eq_some_iff.mp (show (asInts ds).map (i :: ·) = some ns from h)
    subst e2
    rw [asInts_some e1]
    rfl
  | .non :: _, _, h => nomatch h
  | .bl _ :: _, _, h => nomatch h
  | .str _ :: _, _, h => nomatch h
  | .tup _ :: _, _, h => nomatch h
  | .lst _ :: _, _, h => nomatch h
  | .scr _ :: _, _, h => nomatch h
  | .dI _ :: _, _, h => nomatch h
  | .dT _ :: _, _, h => nomatch h
  | .obj _ _ :: _, _, h => nomatch h
  | .cls _ :: _, _, h => nomatch h
theorem asInts_map : ∀ ns : List Int, asInts (ns.map .int) = some ns
  | [] => rfl
  | n :: ns => by
    show (asInts (ns.map .int)).map (n :: ·) = _
    rw [asInts_map ns]
    rfl
theorem asBools_some : ∀ {ds : List D} {bs : List Bool}, asBools ds = some bs → ds = bs.map .bl
  | [], _, h => by cases h; rfl
  | .bl i :: ds, ns, h => by
    obtain ⟨ms, e1, e2⟩ := Option.map_eq_some_iff.mp (show (asBools ds).map (i :: ·) = some ns from h)
    subst e2
    rw [asBools_some e1]
    rfl
  | .non :: _, _, h => nomatch h
  | .int _ :: _, _, h => nomatch h
  | .str _ :: _, _, h => nomatch h
  | .tup _ :: _, _, h => nomatch h
  | .lst _ :: _, _, h => nomatch h
  | .scr _ :: _, _, h => nomatch h
  | .dI _ :: _, _, h => nomatch h
  | .dT _ :: _, _, h => nomatch h
  | .obj _ _ :: _, _, h => nomatch h
  | .cls _ :: _, _, h => nomatch h
theorem asBools_map : ∀ bs : List Bool, asBools (bs.map .bl) = some bs
  | [] => rfl
  | n :: ns => by
    show (asBools (ns.map .bl)).map (n :: ·) = _
    rw [asBools_map ns]
    rfl
theorem maxI_is : ∀ (ns : List Int) (m x : Int), (x = m ∨ x ∈ ns) → m ≤ x → (∀ y ∈ ns, y ≤ x) → x = maxI m ns
  | [], m, x, h, _, _ => by
    rcases h with h | h
    · exact h
    · cases h
  | n :: ns, m, x, h, hm, hn => by
    have h1 := hn n (.head _)
    unfold maxI
    refine maxI_is ns _ x ?_ ?_ fun y hy => hn y (.tail _ hy)
    · rcases h with h | h
      · subst h
        left
        split <;> omega
      · rcases List.mem_cons.mp h with h | h
        · subst h
          left
          split <;> omega
        · exact .inr h
    · split <;> omega
theorem minI_is : ∀ (ns : List Int) (m x : Int), (x = m ∨ x ∈ ns) → x ≤ m → (∀ y ∈ ns, x ≤ y) → x = minI m ns
  | [], m, x, h, _, _ => by
    rcases h with h | h
    · exact h
    · cases h
  | n :: ns, m, x, h, hm, hn => by
    have h1 := hn n (.head _)
    unfold minI
    refine minI_is ns _ x ?_ ?_ fun y hy => hn y (.tail _ hy)
    · rcases h with h | h
      · subst h
        left
        split <;> omega
      · rcases List.mem_cons.mp h with h | h
        · subst h
          left
          split <;> omega
        · exact .inr h
    · split <;> omega
section
variable {X : Cx} {ca : Cl → Addr}
theorem reps1 {c : Ct} {H : Hp} {xs : List V} {a : D} (r : Reps c H xs [a]) : ∃ x, xs = [x] ∧ Rep c H x a := by
  cases r with
  | cons h r => cases r; exact ⟨_, rfl, h⟩
theorem reps2 {c : Ct} {H : Hp} {xs : List V} {a b : D} (r : Reps c H xs [a, b]) : ∃ x y, xs = [x, y] ∧ Rep c H x a ∧ Rep c H y b := by
  cases r with
  | cons h r =>
    cases r with
    | cons h2 r => cases r; exact ⟨_, _, rfl, h, h2⟩
theorem reps_ints {c : Ct} {H : Hp} {xs : List V} {ns : List Int} (r : Reps c H xs (ns.map .int)) : xs = ns.map V.int := r.ints
theorem reps_bools {c : Ct} {H : Hp} : ∀ {bs : List Bool} {xs : List V}, Reps c H xs (bs.map .bl) → xs = bs.map V.bl
  | [], _, r => by cases r; rfl
  | b :: bs, _, r => by
    cases r with
    | cons h r => cases h; rw [reps_bools r]; rfl
theorem cg_len : CG X ca (.builtin "len") gLen := ⟨_, call_len_seq, fun H xs ds d r h => by
  match ds, h with
  | [a], h =>
    obtain ⟨es, e1, e2⟩ := Option.map_eq_some_iff.mp (show (seqOf a).map (fun ds => D.int ds.length) = some d from h)
    subst e2
    obtain ⟨x, rfl, rx⟩ := reps1 r
    obtain ⟨p, ys, rfl, hq, rs⟩ := seq_rep (Ex.refl H) (.inl rx) e1
    rw [← rs.length]
    exact ⟨_, .int _, fun Q q => ⟨p, ys, rfl, hq, q⟩⟩⟩
theorem cg_max2 (hc : X.calm = true := by rfl) : CG X ca (.builtin "max") gMax2 := ⟨_, call_max2 hc, fun H xs ds d r h => by
  match ds, h with
  | [.int i, .int j], h =>
    cases h
    obtain ⟨x, y, rfl, rx, ry⟩ := reps2 r
    cases rx
    cases ry
    exact ⟨_, .int _, fun Q q => ⟨i, j, rfl, q⟩⟩⟩
theorem cg_min2 (hc : X.calm = true := by rfl) : CG X ca (.builtin "min") gMin2 := ⟨_, call_min2 hc, fun H xs ds d r h => by
  match ds, h with
  | [.int i, .int j], h =>
    cases h
    obtain ⟨x, y, rfl, rx, ry⟩ := reps2 r
    cases rx
    cases ry
    exact ⟨_, .int _, fun Q q => ⟨i, j, rfl, q⟩⟩⟩
theorem lst_rep {c : Ct} {S H : Hp} {x : V} {a : D} {ds : List D} (e : Ex S H) (h : Rep c S x a) (hd : lstOf a = some ds) : ∃ p xs, x = .ref p ∧ SqL c.K H p xs ∧ Reps c S xs ds := by
  obtain ⟨p, xs, e1, h1, h2⟩ := lst_in h hd
  exact ⟨p, xs, e1, h1 H e, h2⟩
theorem cg_any (hc : X.calm = true := by rfl) : CG X ca (.builtin "any") gAny := ⟨_, cr_any hc, fun H xs ds d r h => by
  match ds, h with
  | [a], h =>
    obtain ⟨bs, e1, e2⟩ := Option.map_eq_some_iff.mp (show ((lstOf a).bind asBools).map (fun bs => D.bl (bs.any id)) = some d from h)
    subst e2
    obtain ⟨es, e1, e3⟩ := bind_some e1
    rw [asBools_some e3] at e1
    obtain ⟨x, rfl, rx⟩ := reps1 r
    obtain ⟨p, ys, rfl, hq, rs⟩ := lst_rep (Ex.refl H) rx e1
    rw [reps_bools rs] at hq
    exact ⟨_, .bl _, fun Q q => ⟨p, bs, rfl, hq, q⟩⟩⟩
theorem cg_all (hc : X.calm = true := by rfl) : CG X ca (.builtin "all") gAll := ⟨_, cr_all hc, fun H xs ds d r h => by
  match ds, h with
  | [a], h =>
    obtain ⟨bs, e1, e2⟩ := Option.map_eq_some_iff.mp (show ((lstOf a).bind asBools).map (fun bs => D.bl (bs.all id)) = some d from h)
    subst e2
    obtain ⟨es, e1, e3⟩ := bind_some e1
    rw [asBools_some e3] at e1
    obtain ⟨x, rfl, rx⟩ := reps1 r
    obtain ⟨p, ys, rfl, hq, rs⟩ := lst_rep (Ex.refl H) rx e1
    rw [reps_bools rs] at hq
    exact ⟨_, .bl _, fun Q q => ⟨p, bs, rfl, hq, q⟩⟩⟩
/-- list(x) -/
theorem cn_list : CN X ca (.type "list") seqOf := ⟨_, call_list_of, fun S H x a es e r h => by
  obtain ⟨p, xs, rfl, hq, rs⟩ := seq_rep e r h
  exact ⟨xs, rs, fun Q q => ⟨p, xs, rfl, hq, fun l hl => q l hl⟩⟩⟩
/-! sorted -/
def isTupC : PyData → Bool
  | .tuple (_ :: _) => true
  | _ => false
def isOther : PyData → Bool
  | .none => false
  | .tuple _ => false
  | _ => true
/-- all alike, tuples with an item, or others -/
def okSort (ds : List D) : Bool := (ds.all fun a => ds.all fun b => PySem.W.alike (toP a) (toP b)) && ((ds.all fun a => isTupC (toP a)) || (ds.all fun a => isOther (toP a))) && (ds.all fun a => decide ((toP a).depth ≤ 60)) && (ds.all fun a => (toP a).plain) && decide (ds.length ≤ 100000)
def leD (a b : D) : Bool := PySem.W.dataLe false toP a b
def sortD (ds : List D) : List D := ds.mergeSort leD
def gSort (a : D) : Option (List D) := (lstOf a).bind fun ds => if okSort ds = true then some (sortD ds) else none
def rSortR (c : Ct) : List V → Hp → VK → Prop := fun vs H Q => ∃ (p : Addr) (zs : List (V × D)), vs = [.ref p] ∧ SqL c.K H p (zs.map (·.1)) ∧ Reps c H (zs.map (·.1)) (zs.map (·.2)) ∧ okSort (zs.map (·.2)) = true ∧
  ∀ q, H q = none → Q (.ref q) (upd H q (.lst ((zs.mergeSort fun a b => leD a.2 b.2).map (·.1))))
theorem each_of_vals {h : Heap} : ∀ {zs : List (V × D)} {us : List Value}, Vals (zs.map (·.1)) us → (∀ z ∈ zs, ∀ u, RelV z.1 u → ∃ as, Reads h u (toP z.2) as) →
    PySem.W.EachIs (fun (v : Value) (z : V × D) => RelV z.1 v) us zs ∧ PySem.W.EachIs (fun (v : Value) (z : V × D) => ∃ as, Reads h v (toP z.2) as) us zs
  | [], _, r, _ => by cases r; exact ⟨.nil, .nil⟩
  | z :: zs, _, r, k => by
    cases r with
    | cons h r =>
      obtain ⟨a, b⟩ := each_of_vals r fun z hz => k z (.tail _ hz)
      exact ⟨.cons h a, .cons (k z (.head _) _ h) b⟩
theorem vals_of_each : ∀ {zs : List (V × D)} {us : List Value}, PySem.W.EachIs (fun (v : Value) (z : V × D) => RelV z.1 v) us zs → Vals (zs.map (·.1)) us
  | [], _, h => by cases h; exact .nil
  | z :: zs, _, h => by
    cases h with
    | cons h r => exact .cons h (vals_of_each r)
theorem okSort_inv {ds : List D} (h : okSort ds = true) : PySem.W.AllAlike (ds.map toP) ∧ PySem.W.Sortable (ds.map toP) ∧ (∀ a ∈ ds, (toP a).depth ≤ 60) ∧ (∀ a ∈ ds, (toP a).plain = true) ∧ ds.length ≤ 100000 := by
  unfold okSort at h
  simp only [Bool.and_eq_true, Bool.or_eq_true, List.all_eq_true, decide_eq_true_eq] at h
  obtain ⟨⟨⟨⟨h1, h2⟩, h3⟩, h4⟩, h5⟩ := h
  refine ⟨fun x hx y hy => ?_, ?_, h3, h4, h5⟩
  · obtain ⟨a, ha, rfl⟩ := List.mem_map.mp hx
    obtain ⟨b, hb, rfl⟩ := List.mem_map.mp hy
    exact h1 a ha b hb
  · rcases h2 with h2 | h2
    · refine .inl fun x hx => ?_
      obtain ⟨a, ha, rfl⟩ := List.mem_map.mp hx
      have q := h2 a ha
      cases e : toP a with
      | tuple xs =>
        rw [e] at q
        cases xs with
        | nil => exact nomatch q
        | cons y r => exact ⟨y, r, rfl⟩
      | _ => rw [e] at q; exact nomatch q
    · refine .inr fun x hx => ?_
      obtain ⟨a, ha, rfl⟩ := List.mem_map.mp hx
      have q := h2 a ha
      exact ⟨fun e => by rw [e] at q; exact (Bool.noConfusion q), fun xs e => by rw [e] at q; exact Bool.noConfusion q⟩
theorem cr_sortR {k : Nat} (hr : Room k X.A) : CallR X (.builtin "sorted") (rSortR ⟨X.K, ca⟩) := by
  intro pins s σ H vs us Q I r h
  obtain ⟨p, zs, rfl, hs, rs, ok, q⟩ := h
  obtain ⟨h1, h2, h3, h4, h5⟩ := okSort_inv ok
  obtain ⟨its, rv, hl, hz⟩ := I.list hs
  rw [Vals.ref1 r]
  have rd : ∀ z ∈ zs, ∀ u, RelV z.1 u → ∃ as, Reads s.heap u (toP z.2) as := fun z hz u ru => by
    obtain ⟨i, hi, e⟩ := List.mem_iff_getElem.mp hz
    obtain ⟨d, e1, e2⟩ := rs.get (i := i) (v := z.1) (by rw [List.getElem?_map, List.getElem?_eq_getElem hi, e]; rfl)
    rw [List.getElem?_map, List.getElem?_eq_getElem hi, e] at e1
    cases e1
    exact e2.reads I rfl (h4 _ (List.mem_map.mpr ⟨z, hz, rfl⟩)) ru
  obtain ⟨a1, a2⟩ := each_of_vals rv rd
  have em : zs.map (fun z => toP z.2) = (zs.map (·.2)).map toP := by rw [List.map_map]; rfl
  refine PySem.W.sorted_data (bs := zs) (enc := fun z => toP z.2) hl.isList a1 a2 (by rw [em]; exact h1) (by rw [em]; exact h2) (by rw [List.length_map] at h5; exact sz5 h5) (fun z hz => ?_) fun out ho eo => ?_
  · have := h3 _ (List.mem_map.mpr ⟨z, hz, rfl⟩)
    have := hr.units
    omega
  · obtain ⟨ep, he'⟩ := PyProof.Rows.sortedAll_at s.heap its out.toArray
    have rr : Vals ((zs.mergeSort fun a b => leD a.2 b.2).map (·.1)) out := vals_of_each eo
    refine ⟨.ref _, upd H (s.heap.objs.size + 1) (.lst ((zs.mergeSort fun a b => leD a.2 b.2).map (·.1))), I.laid (t' := s.toks) (fun _ _ => PyProof.Rows.sortedAll_old) (Nat.le_succ _) ⟨?_, out, ep, rr, he'⟩, rfl, q _ (I.hok.fresh (Nat.le_succ _))⟩
    rw [List.length_map, List.length_mergeSort]
    rw [List.length_map] at h5
    exact sz5 h5
theorem reps_sort {c : Ct} {S : Hp} {xs : List V} {ds : List D} (r : Reps c S xs ds) : Reps c S (((xs.zip ds).mergeSort fun a b => leD a.2 b.2).map (·.1)) (sortD ds) := by
  have e1 : ((xs.zip ds).mergeSort fun a b => leD a.2 b.2).map (·.2) = sortD ds := by
    have e : (xs.zip ds).map (·.2) = ds := by
      rw [List.map_snd_zip]
      rw [r.length]
      exact Nat.le_refl _
    have q := List.map_mergeSort (r := fun a b : V × D => leD a.2 b.2) (s := leD) (f := fun z : V × D => z.2) (l := xs.zip ds) fun _ _ _ _ => rfl
    have q2 : (xs.zip ds).map (fun z : V × D => z.2) = ds := e
    rw [q2] at q
    exact q
  rw [← e1]
  have all : ∀ (ys : List (V × D)), (∀ z ∈ ys, Rep c S z.1 z.2) → Reps c S (ys.map (·.1)) (ys.map (·.2)) := by
    intro ys
    induction ys with
    | nil => intro _; exact .nil
    | cons y ys ih => intro h; exact .cons (h y (.head _)) (ih fun z hz => h z (.tail _ hz))
  refine all _ fun z hz => ?_
  have hz' : z ∈ xs.zip ds := (List.mergeSort_perm _ _).mem_iff.mp hz
  obtain ⟨i, hi, e⟩ := List.mem_iff_getElem.mp hz'
  have e2 : (xs.zip ds)[i]? = some z := by rw [List.getElem?_eq_getElem hi, e]
  obtain ⟨g1, g2⟩ := List.getElem?_zip_eq_some.mp e2
  obtain ⟨d, g3, g4⟩ := r.get g1
  rw [g2] at g3
  cases g3
  exact g4
/-- sorted(x), a list of data -/
theorem cn_sorted {k : Nat} (hr : Room k X.A) : CN X ca (.builtin "sorted") gSort := ⟨_, cr_sortR (ca := ca) hr, fun S H x a es e r h => by
  obtain ⟨ds, e1, h⟩ := bind_some h
  obtain ⟨ok, h⟩ := ite_some' h
  cases h
  obtain ⟨p, xs, rfl, hq, rs⟩ : ∃ p xs, x = .ref p ∧ SqL X.K H p xs ∧ Reps ⟨X.K, ca⟩ S xs ds := by
    rcases r with r | ⟨p, rfl, ho⟩
    · exact lst_rep (c := ⟨X.K, ca⟩) e r e1
    · cases a with
      | lst ds' =>
        cases e1
        obtain ⟨xs, g1, g2⟩ := ho.flat_lst
        exact ⟨p, xs, rfl, SqL.of g1, g2⟩
      | scr ns => cases ho
      | _ => cases e1
  have ez1 : (xs.zip ds).map (·.1) = xs := by
    rw [List.map_fst_zip]
    rw [rs.length]
    exact Nat.le_refl _
  have ez2 : (xs.zip ds).map (·.2) = ds := by
    rw [List.map_snd_zip]
    rw [rs.length]
    exact Nat.le_refl _
  exact ⟨_, reps_sort rs, fun Q q => ⟨p, xs.zip ds, rfl, by rw [ez1]; exact hq, by rw [ez1, ez2]; exact rs.mono e, by rw [ez2]; exact ok, fun q' hq' => q q' hq'⟩⟩⟩
end

/-! ### isinstance against a built-in type -/
def tyName : D → Option String
  | .non => some "NoneType"
  | .bl _ => some "bool"
  | .int _ => some "int"
  | .str _ => some "str"
  | .tup _ => some "tuple"
  | .lst _ => some "list"
  | .dI _ => some "dict"
  | .dT _ => some "dict"
  | _ => none
def gIsi (T : String) (d : D) : Option D := (tyName d).bind fun n => (kitB n T).map .bl
section
variable {X : Cx} {ca : Cl → Addr} {Γ : List Md} {pos p p2 : Pos} {e : Expr} {m : Vm} {f : DFn} {T : Str} {n : String}
theorem ty_of {c : Ct} {H : Hp} {v : V} {d : D} {n : String} (r : Rep c H v d) (h : tyName d = some n) : TyX c.K H v (.type n) := by
  cases r with
  | non => cases h; exact .base .non
  | bl b => cases h; exact .base (.bl b)
  | int i => cases h; exact .base (.int i)
  | str x => cases h; exact .base (.str x)
  | tup h' _ => cases h; exact .base (.tup h')
  | lst h' _ => cases h; exact .base (.lst h')
  | dI _ h' _ => cases h; exact .base (.dK h')
  | dT _ h' _ => cases h; exact .base (.dT h')
  | scr => cases h
  | obj => cases h
  | cls => cases h
theorem pd_isi (he : PDE X ca Γ e m f) (h1 : X.mg "isinstance" = none) (h2 : X.mg T = none) (hT : bootBuiltins T = some (.type n) := by decide +kernel) (hb : bootBuiltins "isinstance" = some (.builtin "isinstance") := by decide +kernel) (hg : Gl X "isinstance" := by rfl) (hg2 : Gl X T := by rfl) (hn2 : T ≠ "__name__" := by decide) (hd2 : (T == ("__debug__" : Str)) = false := by decide)
    (hs : starEach (e :: [.Name T p2]) X.env = (false, eval e X.env) :: starEach [.Name T p2] X.env := by rfl) (hs2 : starEach [.Name T p2] X.env = (false, eval (.Name T p2) X.env) :: starEach [] X.env := by rfl) (hpl : (backTo pos (starEach [.Name T p2] X.env)).any (·.1) = false := by rfl) :
    PDE X ca Γ (.Call (.Name "isinstance" p) [e, .Name T p2] [] pos) .s (d1 (gIsi n) f) := by
  obtain ⟨t, pe, q⟩ := he
  refine ⟨_, pe_callB call_isi hg h1 hb (pa_cons pe (pa_cons (pe_bltn (v := .ty n) hg2 h2 hT rfl hn2 hd2) pa_nil hs2) hs) (by decide) (by decide) hs hpl, fun B S0 M L σ H ρ E d hd Q k => ?_⟩
  obtain ⟨a, e1, hd⟩ := bind_some hd
  obtain ⟨nm, e2, hd⟩ := bind_some hd
  obtain ⟨b, e3, hd⟩ := Option.map_eq_some_iff.mp hd
  subst hd
  refine q B S0 M L σ H ρ E a e1 _ fun v H1 x1 r => ?_
  exact ⟨v, .ty n, .type nm, .type n, b, rfl, .ty n, ty_of (c := ⟨X.K, ca⟩) (r.rep (E.eb.trans x1)) e2, kit_ty e3, k _ H1 x1 (.bl b)⟩
end

/-! ### chained comparisons, unpacking, enumerate -/
def dChain (g g' : D → D → Option D) (fa fb fc : DFn) : DFn := fun ρ => (fa ρ).bind fun a => (fb ρ).bind fun b => (g a b).bind fun x => (asB x).bind fun k => if k = true then (fc ρ).bind fun c => g' b c else some (.bl false)
def dUnpk (f : DFn) (u : D → List D → Option (List D)) : SFn := fun ρ => match (f ρ).bind fun d => u d ρ with
  | some ρ' => .nx ρ'
  | none => .bad
section
variable {X : Cx} {ca : Cl → Addr} {W : WX} {J : Jd} {Γ Γ' : List Md} {pos p tpos : Pos} {a b c e tg : Expr} {ma mb mc m : Vm} {fa fb fc f : DFn} {op op' : CmpOp} {g g' : D → D → Option D} {sh : Bool} {is : List Nat} {u : D → List D → Option (List D)}
theorem DE.chain {ct : Ct} {ta tb tc : TE} {r r' : R2} (qa : DE ct Γ ta ma fa) (qb : DE ct Γ tb mb fb) (qc : DE ct Γ tc mc fc)
    (h2 : ∀ H x y a b d, Rep ct H x a → Rep ct H y b → g a b = some d → ∃ v, Im v d ∧ ∀ Q : VK, Q v H → r x y H Q) (h2' : ∀ H x y a b d, Rep ct H x a → Rep ct H y b → g' a b = some d → ∃ v, Im v d ∧ ∀ Q : VK, Q v H → r' x y H Q) :
    DE ct Γ (tChain r r' ta tb tc) .s (dChain g g' fa fb fc) := by
  intro B S0 M L σ H ρ E d hd Q k
  obtain ⟨a, e1, hd⟩ := bind_some hd
  obtain ⟨b, e2, hd⟩ := bind_some hd
  obtain ⟨x, e3, hd⟩ := bind_some hd
  obtain ⟨kk, e4, hd⟩ := bind_some hd
  refine qa B S0 M L σ H ρ E a e1 _ fun v1 H1 x1 r1 => ?_
  refine qb B S0 M L σ H1 ρ (E.ext x1) b e2 _ fun v2 H2 x2 r2 => ?_
  have E2 := (E.ext x1).ext x2
  obtain ⟨v, iv, go⟩ := h2 H2 v1 v2 a b x ((r1.mono x2).rep E2.eb) (r2.rep E2.eb) e3
  refine go _ ?_
  cases x with
  | bl z =>
    have e4' : z = kk := Option.some.inj e4
    subst e4'
    have ev : v = .bl z := by
      have := iv ct H2
      cases this
      rfl
    subst ev
    refine ⟨z, rfl, ?_⟩
    cases z with
    | false =>
      refine iteF ?_
      cases hd
      exact k _ H2 (x1.trans x2) (.bl _)
    | true =>
      refine iteT ?_
      obtain ⟨cc, e5, hd⟩ := bind_some hd
      refine qc B S0 M L σ H2 ρ E2 cc e5 _ fun v3 H3 x3 r3 => ?_
      have E3 := E2.ext x3
      obtain ⟨v', iv', go'⟩ := h2' H3 v2 v3 b cc d ((r2.mono x3).rep E3.eb) (r3.rep E3.eb) hd
      exact go' Q (k v' H3 ((x1.trans x2).trans x3) (iv'.vr (by intro z; cases z)))
  | _ => cases e4
theorem pd_chain (h : OG X ca op g) (h' : OG X ca op' g') (ha : PDE X ca Γ a ma fa) (hb : PDE X ca Γ b mb fb) (hc : PDE X ca Γ c mc fc) (hl : lastMarks [op, op'] [b, c] = false := by rfl) (hm : behindInMarks op b = false := by first | exact nomark _ | rfl) (hm' : behindInMarks op' c = false := by first | exact nomark _ | rfl) : PDE X ca Γ (.Compare a [op, op'] [b, c] pos) .s (dChain g g' fa fb fc) := by
  obtain ⟨r, h1, h2⟩ := h
  obtain ⟨r', h1', h2'⟩ := h'
  obtain ⟨ta, pa, qa⟩ := ha
  obtain ⟨tb, pb, qb⟩ := hb
  obtain ⟨tc, pc, qc⟩ := hc
  exact ⟨_, pe_chain h1 h1' pa pb pc hl, qa.chain qb qc h2 h2'⟩
theorem pdt_chain (h : OG X ca op g) (h' : OG X ca op' g') (ha : PDE X ca Γ a ma fa) (hb : PDE X ca Γ b mb fb) (hc : PDE X ca Γ c mc fc) (hl : lastMarks [op, op'] [b, c] = false := by rfl) (hm : behindInMarks op b = false := by first | exact nomark _ | rfl) (hm' : behindInMarks op' c = false := by first | exact nomark _ | rfl) : PDT X ca Γ (.Compare a [op, op'] [b, c] pos) (DL.tB (dChain g g' fa fb fc)) := by
  obtain ⟨r, h1, h2⟩ := h
  obtain ⟨r', h1', h2'⟩ := h'
  obtain ⟨ta, pa, qa⟩ := ha
  obtain ⟨tb, pb, qb⟩ := hb
  obtain ⟨tc, pc, qc⟩ := hc
  exact ⟨_, pt_chain h1 h1' pa pb pc hl, (qa.chain qb qc h2 h2').tt⟩
/-- a, b = e -/
theorem pds_unpk (he : PDE X ca Γ e (vm sh) f) (hg : PDG X ca sh Γ tg Γ' is u) (hs : swapsWithSole [tg] e pos.line X.env = pure false := by rfl) (hw : swappedStores [tg] e X.env = pure none := by rfl) (h1 : (assignEach [tg] X.env).map (·.2) = [assign tg X.env] := by rfl) : PDS X ca W J Γ (.Assign [tg] e pos) Γ' (dUnpk f u) := by
  obtain ⟨t, p1, q1⟩ := he
  obtain ⟨gt, p2, q2⟩ := hg
  refine ⟨_, ps_asg p1 p2 hs hw h1, fun B S0 M L σ H ρ N E pp => ?_⟩
  unfold dUnpk at pp
  cases hd : f ρ with
  | none => rw [hd] at pp; exact pp.elim
  | some d =>
    rw [hd] at pp
    have pp' : Post ⟨X.K, ca⟩ B S0 M J W Γ' N (match u d ρ with | some ρ' => .nx ρ' | none => .bad) := pp
    cases hu : u d ρ with
    | none => rw [hu] at pp'; exact pp'.elim
    | some ρ' =>
      rw [hu] at pp'
      refine q1 B S0 M L σ H ρ E d hd _ fun v H1 x1 r => ?_
      exact q2 B S0 M L σ H1 ρ (E.ext x1) v d ρ' r hu N.nx fun σ' _ E' => pp' L σ' H1 E'
end
end DL

/-! DL: enumerate; arguments of one's own. -/
namespace DL
open PySem PySem.Spec PyProof.Rows L2
/-- i, d in a pair -/
def enumFrom (i : Nat) : List D → List D
  | [] => []
  | d :: ds => .tup [.int (i : Int), d] :: enumFrom (i + 1) ds
theorem enumFrom_length : ∀ (ds : List D) (i : Nat), (enumFrom i ds).length = ds.length
  | [], _ => rfl
  | _ :: ds, i => congrArg Nat.succ (enumFrom_length ds (i + 1))
theorem enumFrom_get : ∀ (ds : List D) (i j : Nat) (d : D), ds[j]? = some d → (enumFrom i ds)[j]? = some (.tup [.int ((i + j : Nat) : Int), d])
  | [], _, _, _, h => by simp at h
  | d :: ds, i, 0, _, h => by
    simp at h
    subst h
    rfl
  | d :: ds, i, j + 1, x, h => by
    have := enumFrom_get ds (i + 1) j x (by simpa using h)
    show (enumFrom (i + 1) ds)[j]? = _
    rw [this]
    congr 5
    omega
/-- the items ds, each new or known in S -/
def WalksN (c : Ct) (B S : Hp) (J : It) (ds : List D) : Prop := ∃ (n : Nat) (G : Hp → Prop) (Y : Nat → Hp → V → Hp → Prop), n = ds.length ∧ Walk J n G Y ∧ (∀ H, Ex B H → Ex S H → G H) ∧
  ∀ i H v H', i < n → Ex B H → Ex S H → Y i H v H' → Ex H H' ∧ ∃ d, ds[i]? = some d ∧ ∀ m : Addr → Prop, (∀ a, m a → Mut (H a)) → Ex S (hide m H) → Rep c (hide m H') v d
def PDIN (X : Cx) (ca : Cl → Addr) (Γ : List Md) (tg iter : Expr) (f : List D → Option (List D)) : Prop := ∃ wi, PI X tg iter wi ∧
  ∀ (B S0 : Hp) (M : Mz) (L : List (List Addr)) (σ : L2.St) (H : Hp) (ρ : List D), EnvR ⟨X.K, ca⟩ B S0 M Γ L σ H ρ → ∀ ds, f ρ = some ds → ∀ R : It → Hp → Prop,
    (∀ J H', Ex H H' → WalksN ⟨X.K, ca⟩ B (hide (Msk M L) H') J ds → R J H') → wi σ H R
def iEnum (f : DFn) : List D → Option (List D) := fun ρ => ((f ρ).bind lstOf).map (enumFrom 0)
section
variable {X : Cx} {ca : Cl → Addr} {W : WX} {J : Jd} {Γ Γ1 Γ2 Γ' : List Md} {st : Stmt} {sts rest : List Stmt} {F G : SFn} {e : Expr} {f : DFn} {m : Vm} {pos pos' p : Pos} {x : Str} {is : List Nat}
theorem walks_enum {c : Ct} {B S : Hp} {a : Addr} {xs : List V} {ds : List D} (h : ∀ H, Ex S H → SqL c.K H a xs) (r : Reps c S xs ds) : WalksN c B S (Ite c.K a) (enumFrom 0 ds) :=
  ⟨xs.length, _, _, by rw [enumFrom_length]; exact r.length, walk_enum (K := c.K) (a := a) (xs := xs), fun H _ e => h H e, fun i H v H' hi _ eS y => by
    obtain ⟨T, x, z, rfl, h2, rfl, h4, h5⟩ := y
    cases h4
    obtain ⟨d, g1, g2⟩ := r.get h5
    refine ⟨Ex.new h2, _, enumFrom_get ds 0 i d g1, fun m hm eS' => ?_⟩
    have nm : ¬ m T := fun z => by
      have q := hm T z
      rw [h2] at q
      exact q
    refine .tup (hide_in nm upd_same) (.cons ?_ (.cons ((g2.mono eS').mono (hide_mono (Ex.new h2))) .nil))
    rw [Nat.zero_add]
    exact .int _⟩
theorem pdin_enum {l : Expr} {elts : List Expr} {kk : Nat} {tpos : Pos} (hl : PDE X ca Γ l .s f) (hm : X.mg "enumerate" = none) (hg : Gl X "enumerate" := by rfl) (hs : starEach [l] X.env = [(false, eval l X.env)] := by rfl) : PDIN X ca Γ (.Tuple elts kk tpos) (.Call (.Name "enumerate" p) [l] [] pos) (DL.iEnum f) := by
  obtain ⟨t, pl, q⟩ := hl
  refine ⟨_, pi_enum hg hm (pa_cons pl pa_nil hs) hs, fun B S0 M L σ H ρ E ds hd R k => ?_⟩
  obtain ⟨ds0, e1, hd⟩ := Option.map_eq_some_iff.mp hd
  subst hd
  obtain ⟨a, e2, e1⟩ := bind_some e1
  refine q B S0 M L σ H ρ E a e2 _ fun v H1 x1 r => ?_
  obtain ⟨p', xs, rfl, hs, rs⟩ := lst_in r e1
  exact ⟨p', xs, rfl, hs H1 hide_ex, k _ H1 x1 (walks_enum (c := ⟨X.K, ca⟩) hs rs)⟩
theorem pds_forN {tg iter : Expr} {body : List Stmt} {fi : List D → Option (List D)} {u : D → List D → Option (List D)} (hp : PassesOwn (model X.prog X.w) X.A X.env X.xe) (hi : PDIN X ca Γ tg iter fi) (hg : PDG X ca true Γ tg Γ1 is u)
    (hb : PDSs X ca W { J with Γb := Γ, Γc := Γ } Γ1 body Γ F) (hc : X.calm = true := by rfl) (hs : ∀ x, foldedSetIterable iter X.env x = pure x := by intro _; rfl) : PDS X ca W J Γ (.For tg iter body [] pos) Γ (dFor fi u F) := by
  obtain ⟨wi, p1, q1⟩ := hi
  obtain ⟨g, p2, q2⟩ := hg
  obtain ⟨tb, p3, q3⟩ := hb
  refine ⟨_, ps_for hp hc p1 p2 p3 hs, fun B S0 M L σ H ρ N E pp => ?_⟩
  unfold dFor at pp
  cases hd : fi ρ with
  | none => rw [hd] at pp; exact pp.elim
  | some ds =>
    rw [hd] at pp
    refine q1 B S0 M L σ H ρ E ds hd _ fun Jt H1 x1 ⟨n, G, Y, hn, wk, hG, hY⟩ => ?_
    have E1 := E.ext x1
    have hS01 : Ex S0 (hide (Msk M L) H1) := E1.es
    refine for_it (D := N) (n := n) wk (fun i σ H => ∃ L' ρ', EnvR ⟨X.K, ca⟩ B (hide (Msk M L) H1) M Γ L' σ H ρ' ∧ Post ⟨X.K, ca⟩ B S0 M J W Γ N (forD u F (ds.drop i) ρ')) ⟨L, ρ, ⟨E1.eb, E1.hm, Ex.refl _, E1.ap, E1.hl, E1.sl⟩, pp⟩ (fun i σ H _ ⟨L', ρ', E, _⟩ => hG H E.eb (E.es.trans hide_ex)) ?_ ?_
    · rintro i v σ H' H'' hi ⟨L', ρ', E', post⟩ y
      obtain ⟨x2, d, h1, h2⟩ := hY i H' v H'' hi E'.eb (E'.es.trans hide_ex) y
      have hdr : ds.drop i = d :: ds.drop (i + 1) := by
        obtain ⟨hlt, e⟩ := List.getElem?_eq_some_iff.mp h1
        rw [List.drop_eq_getElem_cons hlt, e]
      rw [hdr, forD] at post
      cases hu : u d ρ' with
      | none => rw [hu] at post; exact post.elim
      | some ρ1 =>
        rw [hu] at post
        have rv : VR ⟨X.K, ca⟩ .s B M L' H'' v d := h2 (Msk M L') (fun a z => by
          rcases z with z | z
          · exact (E'.hm a z).1
          · exact (E'.hl a z).1) E'.es
        refine q2 B _ M L' σ H'' ρ' (E'.ext x2) v d ρ1 rv hu _ fun σ2 _ E2 => ?_
        exact q3 B _ M L' σ2 H'' ρ1 _ E2 (Post.turn hS01 post fun ρ2 L3 σ3 H3 E3 p3 => ⟨L3, ρ2, E3, p3⟩)
    · rintro σ H' ⟨L', ρ', E', post⟩
      rw [hn, List.drop_length, forD] at post
      exact post L' σ H' (E'.base hS01)
end

/-! ### a first argument that is new -/
def cmp1s : Vm → Md → Bool
  | .s, .s => true
  | .s, .b => true
  | _, _ => false
def cmpss : List Vm → List Md → Bool
  | [], [] => true
  | m :: ms, g :: gs => cmp1s m g && cmpss ms gs
  | _, _ => false
section
variable {c : Ct} {z : Addr} {B S0 H : Hp} {M : Mz} {L : List (List Addr)}
theorem VRs.slotsS {S T H2 : Hp} (eT : Ex (hide (Msk M L) H) T) (eS : Ex (hide (Msk M L) H) S) : ∀ {ms : List Vm} {Γ0 : List Md} {vs : List V} {ds : List D}, cmpss ms Γ0 = true → VRs c B M L H ms vs ds → Slots c T z S H2 Γ0 (noAdr Γ0) (vs.map some) ds
  | [], [], _, _, _, .nil => .nil
  | [], _ :: _, _, _, h, _ => nomatch h
  | _ :: _, [], _, _, h, _ => nomatch h
  | m :: ms, g :: Γ0, _, _, h, .cons r rs => by
    obtain ⟨h1, h2⟩ := Bool.and_eq_true_iff.mp (show (cmp1s m g && cmpss ms Γ0) = true from h)
    refine .cons ?_ (rs.slotsS eT eS h2)
    cases m with
    | s =>
      have r' : Rep c (hide (Msk M L) H) _ _ := r
      cases g with
      | s => exact ⟨rfl, _, rfl, r'.mono eS⟩
      | b => exact ⟨rfl, _, rfl, r'.mono eT⟩
      | n => exact nomatch h1
      | f => exact nomatch h1
      | x => exact nomatch h1
      | o => exact nomatch h1
      | e => exact nomatch h1
    | t => exact nomatch h1
    | b => exact nomatch h1
    | f => exact nomatch h1
/-- the callee's state where its first argument p is new -/
theorem VRs.envF {Γ : List Md} {σ : L2.St} {ρ : List D} {p : Addr} {d : D} (hnm : ¬ M p) (E : EnvR c B S0 ⟨fun a => M a ∨ a = p, M.z⟩ Γ L σ H ρ) {ms : List Vm} {Γ0 : List Md} {vs : List V} {ds : List D} (hc : cmpss ms Γ0 = true) (hp : Own c (hide (fun a => Msk M L a ∨ a = p) H) H [p] (.ref p) d) (r : VRs c B ⟨fun a => M a ∨ a = p, M.z⟩ L H ms vs ds) :
    EnvR c (hide (fun a => a = p) H) (fun _ => none) ⟨fun a => Msk M L a, M.z⟩ (.f :: Γ0) ([p] :: noAdr Γ0) ((V.ref p :: vs).map some) H (d :: ds) := by
  have mp : Mut (H p) := (E.hm p (.inr rfl)).1
  have npL : ¬ In L p := (E.hm p (.inr rfl)).2
  have inx : ∀ a, In ([p] :: noAdr Γ0) a → a = p := fun a h => by
    rcases h.inv with h | h
    · simpa using h
    · exact (noAdr_in h).elim
  have e0 : Ex (hide (Msk ⟨fun a => M a ∨ a = p, M.z⟩ L) H) (hide (Msk ⟨fun a => Msk M L a, M.z⟩ ([p] :: noAdr Γ0)) H) := hide_le fun a o h q => ⟨fun z => h (by
    rcases z with (z | z) | z
    · exact .inl (.inl z)
    · exact .inr z
    · exact .inl (.inr (inx a z))), q⟩
  have e1 : Ex (hide (Msk ⟨fun a => M a ∨ a = p, M.z⟩ L) H) (hide (fun a => a = p) H) := hide_le fun a o h q => ⟨fun z => h (.inl (.inr z)), q⟩
  have e2 : Ex (hide (fun a => Msk M L a ∨ a = p) H) (hide (Msk ⟨fun a => Msk M L a, M.z⟩ ([p] :: noAdr Γ0)) H) := hide_le fun a o h q => ⟨fun z => h (by
    rcases z with z | z
    · exact .inl z
    · exact .inr (inx a z)), q⟩
  refine ⟨hide_ex, fun a h => ⟨?_, fun z => ?_⟩, fun _ _ h => (nomatch h), ⟨fun a _ h => (noAdr_in h).elim, noAdr_apart _⟩, fun a h => ?_, ?_⟩
  · rcases h with h | h
    · exact (E.hm a (.inl h)).1
    · exact (E.hl a h).1
  · rw [inx a z] at h
    rcases h with h | h
    · exact hnm h
    · exact npL h
  · rw [inx a h]
    refine ⟨mp, ?_⟩
    unfold hide
    rw [if_pos rfl]
  · refine .cons ⟨p, rfl, rfl, hp.mono e2 fun _ _ _ h => h⟩ ?_
    exact r.slotsS e1 e0 hc
end
section
variable {X : Cx} {ca : Cl → Addr} {Γ Γ0 : List Md} {k : Nat} {f : Addr} {fd : FuncData} {ps : List Str} {G : List D → Rs} {dvs : List V} {ds : List Value} {dfl : List D} {x m : Str} {p pos apos : Pos} {e o : Expr} {es : List Expr} {ms : List Vm} {f1 : DFn} {fs : List D → Option (List D)} {mo : Vm} {fo : DFn}
/-- f(new, ..) -/
theorem pd_callF (F : FnOk X.prog X.w X.K X.mg X.base (L2.CX X.prog X.w) k f fd ps (SpD ⟨X.K, ca⟩ (.f :: Γ0) false G)) (hr : Room k X.A) (hm : X.mg x = some (.ref f)) (hk : PySem.W.keepIn X.K (.ref f) = true) (hb : Binds X.K fd ps ds) (hd : Vals dvs ds) (hi : Ims dvs dfl)
    (h1 : PDN X ca Γ e f1) (ha : PDA X ca Γ es ms fs) (hc : cmpss (ms ++ List.replicate dfl.length .s) Γ0 = true := by decide) (hg : Gl X x := by rfl) (hdb : (x == ("__debug__" : Str)) = false := by decide) (he : starEach (e :: es) X.env = (false, eval e X.env) :: starEach es X.env := by rfl) (hpl : (backTo pos (starEach es X.env)).any (·.1) = false := by rfl) :
    PDE X ca Γ (.Call (.Name x p) (e :: es) [] pos) .s (dFun G (dConsA f1 fs) dfl) := by
  obtain ⟨t1, p1, q1⟩ := h1
  obtain ⟨t, pa, q⟩ := ha
  refine ⟨_, pe_call F hr hg hm hk hb hd passL (pa_cons p1 pa he) hdb he hpl, fun B S0 M L σ H ρ E d hd Q kk => ?_⟩
  obtain ⟨as, e1, hd⟩ := bind_some hd
  obtain ⟨d1, e2, e1⟩ := bind_some e1
  obtain ⟨ar, e3, e1⟩ := Option.map_eq_some_iff.mp e1
  subst e1
  refine q1 B S0 M L σ H ρ E d1 e2 _ fun a H1 x1 ha ho => ?_
  have mu : Mut (H1 a) := ho.there a (.head _)
  have E1 := E.guard ha x1 mu
  refine q B S0 _ L σ H1 ρ E1 ar e3 _ fun vs H2 x2 r => ?_
  have E2 := E1.ext x2
  have ho2 : Own ⟨X.K, ca⟩ (hide (fun b => Msk M L b ∨ b = a) H2) H2 [a] (.ref a) d1 := ho.mono (hide_mono x2) fun b _ o h => x2 b o h
  refine ⟨_, _, _, _, _, VRs.envF (E.noM ha) E2 hc ho2 (r.app hi.vrs), ?_⟩
  cases h : G (d1 :: (ar ++ dfl)) with
  | ok d' =>
    have hd' : okR (G (d1 :: (ar ++ dfl))) = some d := hd
    rw [h] at hd'
    cases hd'
    intro v H3 x3 res
    have x4 : Ex H H3 := fun b o q => x3 b o (hide_in (fun z => by rw [z, ha] at q; exact (nomatch q)) (x2 b o (x1 b o q)))
    exact kk v H3 x4 res
  | exc e d' =>
    have hd' : okR (G (d1 :: (ar ++ dfl))) = some d := hd
    rw [h] at hd'
    cases hd'
  | bad =>
    have hd' : okR (G (d1 :: (ar ++ dfl))) = some d := hd
    rw [h] at hd'
    cases hd'
end
end DL

/-! DL: dicts by int keys and by tuples of ints. -/
namespace DL
open PySem PySem.Spec PyProof.Rows L2
/-! ### pairs of keys and values -/
section
variable {κ δ : Type} [DecidableEq κ] [DecidableEq δ]
def valD (kvs : List (δ × D)) (k : δ) : Option D := (kvs.find? fun kv => decide (kv.1 = k)).map (·.2)
def putD (kvs : List (δ × D)) (k : δ) (d : D) : List (δ × D) :=
  if (kvs.any fun kv => decide (kv.1 = k)) = true then kvs.map (fun kv => if kv.1 = k then (kv.1, d) else kv) else kvs ++ [(k, d)]
def dropD (kvs : List (δ × D)) (k : δ) : List (δ × D) := kvs.filter fun kv => decide (kv.1 ≠ k)
inductive KVs (c : Ct) (S : Hp) (e : δ → κ) : List (κ × V) → List (δ × D) → Prop
  | nil : KVs c S e [] []
  | cons {k : δ} {v : V} {d : D} {r : List (κ × V)} {t : List (δ × D)} : Rep c S v d → KVs c S e r t → KVs c S e ((e k, v) :: r) ((k, d) :: t)
variable {c : Ct} {S S' : Hp} {e : δ → κ}
theorem KVs.mono (x : Ex S S') : ∀ {r : List (κ × V)} {t : List (δ × D)}, KVs c S e r t → KVs c S' e r t
  | _, _, .nil => .nil
  | _, _, .cons h r => .cons (h.mono x) (r.mono x)
theorem KVs.length : ∀ {r : List (κ × V)} {t : List (δ × D)}, KVs c S e r t → r.length = t.length
  | _, _, .nil => rfl
  | _, _, .cons _ r => congrArg Nat.succ r.length
theorem KVs.of : ∀ {ks : List δ} {vs : List V} {ds : List D}, ks.length = vs.length → Reps c S vs ds → KVs c S e ((ks.map e).zip vs) (ks.zip ds)
  | [], [], _, _, r => by cases r; exact .nil
  | [], _ :: _, _, h, _ => by simp at h
  | _ :: _, [], _, h, _ => by simp at h
  | k :: ks, v :: vs, _, h, r => by
    cases r with
    | cons h1 r => exact .cons h1 (KVs.of (by simpa using h) r)
theorem KVs.to : ∀ {r : List (κ × V)} {t : List (δ × D)}, KVs c S e r t → ∃ (ks : List δ) (vs : List V) (ds : List D), ks.length = vs.length ∧ r = (ks.map e).zip vs ∧ t = ks.zip ds ∧ Reps c S vs ds
  | _, _, .nil => ⟨[], [], [], rfl, rfl, rfl, .nil⟩
  | _, _, .cons (k := k) (v := v) (d := d) h r => by
    obtain ⟨ks, vs, ds, h1, h2, h3, h4⟩ := r.to
    subst h2 h3
    exact ⟨k :: ks, v :: vs, d :: ds, by simpa using h1, rfl, rfl, .cons h h4⟩
theorem KVs.any (he : ∀ a b, e a = e b → a = b) (k : δ) : ∀ {r : List (κ × V)} {t : List (δ × D)}, KVs c S e r t → (r.any fun kv => decide (kv.1 = e k)) = (t.any fun kv => decide (kv.1 = k))
  | _, _, .nil => rfl
  | _, _, .cons (k := k') h r => by
    rw [List.any_cons, List.any_cons, r.any he k]
    by_cases q : k' = k
    · subst q; simp
    · have q' : ¬ e k' = e k := fun z => q (he _ _ z)
      simp [q, q']
theorem KVs.val (he : ∀ a b, e a = e b → a = b) (k : δ) : ∀ {r : List (κ × V)} {t : List (δ × D)}, KVs c S e r t → (valV r (e k) = none ∧ valD t k = none) ∨ ∃ v d, valV r (e k) = some v ∧ valD t k = some d ∧ Rep c S v d
  | _, _, .nil => .inl ⟨rfl, rfl⟩
  | _, _, .cons (k := k') (v := v) (d := d) h r => by
    by_cases q : k' = k
    · subst q
      exact .inr ⟨v, d, valV_pos rfl, by simp [valD], h⟩
    · have q' : ¬ e k' = e k := fun z => q (he _ _ z)
      rw [valV_neg (p := (e k', v)) q']
      have q2 : ∀ t : List (δ × D), valD ((k', d) :: t) k = valD t k := fun t => by simp [valD, List.find?_cons, q]
      rw [q2]
      exact r.val he k
theorem KVs.snoc (k : δ) {v : V} {d : D} (h : Rep c S v d) : ∀ {r : List (κ × V)} {t : List (δ × D)}, KVs c S e r t → KVs c S e (r ++ [(e k, v)]) (t ++ [(k, d)])
  | _, _, .nil => .cons h .nil
  | _, _, .cons h' r => .cons h' (r.snoc k h)
theorem KVs.set (he : ∀ a b, e a = e b → a = b) (k : δ) {v : V} {d : D} (h : Rep c S v d) : ∀ {r : List (κ × V)} {t : List (δ × D)}, KVs c S e r t → KVs c S e (r.map fun kv => if kv.1 = e k then (kv.1, v) else kv) (t.map fun kv => if kv.1 = k then (kv.1, d) else kv)
  | _, _, .nil => .nil
  | _, _, .cons (k := k') (v := v') (d := d') h' r => by
    rw [List.map_cons, List.map_cons]
    by_cases q : k' = k
    · subst q
      rw [if_pos rfl, if_pos rfl]
      exact .cons h (r.set he k' h)
    · have q' : ¬ e k' = e k := fun z => q (he _ _ z)
      rw [if_neg q, if_neg q']
      exact .cons h' (r.set he k h)
theorem KVs.put (he : ∀ a b, e a = e b → a = b) (k : δ) {v : V} {d : D} (h : Rep c S v d) {r : List (κ × V)} {t : List (δ × D)} (x : KVs c S e r t) : KVs c S e (putK r (e k) v) (putD t k d) := by
  unfold putK putD
  rw [x.any he k]
  split
  · exact x.set he k h
  · exact x.snoc k h
theorem KVs.vals : ∀ {r : List (κ × V)} {t : List (δ × D)}, KVs c S e r t → Reps c S (r.map (·.2)) (t.map (·.2))
  | _, _, .nil => .nil
  | _, _, .cons h r => .cons h r.vals
theorem KVs.keys : ∀ {r : List (κ × V)} {t : List (δ × D)}, KVs c S e r t → r.map (·.1) = (t.map (·.1)).map e
  | _, _, .nil => rfl
  | _, _, .cons h r => by rw [List.map_cons, List.map_cons, List.map_cons, r.keys]
end
def eI : Int → Key := Sum.inl
def eT : List Int → List Key := List.map Sum.inl
theorem eI_inj (a b : Int) (h : eI a = eI b) : a = b := Sum.inl.inj h
theorem eT_inj : ∀ a b : List Int, eT a = eT b → a = b
  | [], [], _ => rfl
  | [], _ :: _, h => by simp [eT] at h
  | _ :: _, [], h => by simp [eT] at h
  | x :: xs, y :: ys, h => by
    simp only [eT, List.map_cons, List.cons.injEq] at h
    rw [Sum.inl.inj h.1, eT_inj xs ys h.2]
section
variable {c : Ct} {S H : Hp} {v : V} {p : Addr}
theorem Rep.dI_inv {kvs : List (Int × D)} (h : Rep c S v (.dI kvs)) : ∃ a es, v = .ref a ∧ S a = some (.dK es) ∧ KVs c S eI es kvs := by
  generalize e : D.dI kvs = d at h
  cases h with
  | dI l h r => cases e; exact ⟨_, _, rfl, h, KVs.of l r⟩
  | _ => cases e
theorem Rep.dT_inv {kvs : List (List Int × D)} (h : Rep c S v (.dT kvs)) : ∃ a es, v = .ref a ∧ S a = some (.dT es) ∧ KVs c S eT es kvs := by
  generalize e : D.dT kvs = d at h
  cases h with
  | dT l h r => cases e; exact ⟨_, _, rfl, h, KVs.of l r⟩
  | _ => cases e
theorem Own.dI_inv {kvs : List (Int × D)} (h : Own c S H [p] (.ref p) (.dI kvs)) : ∃ es, H p = some (.dK es) ∧ KVs c S eI es kvs := by
  generalize e : D.dI kvs = d at h
  cases h with
  | dI l h r => cases e; exact ⟨_, h, KVs.of l (r.flat rfl)⟩
  | _ => cases e
theorem Own.dT_inv {kvs : List (List Int × D)} (h : Own c S H [p] (.ref p) (.dT kvs)) : ∃ es, H p = some (.dT es) ∧ KVs c S eT es kvs := by
  generalize e : D.dT kvs = d at h
  cases h with
  | dT l h r => cases e; exact ⟨_, h, KVs.of l (r.flat rfl)⟩
  | _ => cases e
theorem KVs.ownI {es : List (Key × V)} {kvs : List (Int × D)} (x : KVs c S eI es kvs) (h : H p = some (.dK es)) : Own c S H [p] (.ref p) (.dI kvs) := by
  obtain ⟨ks, vs, ds, h1, h2, h3, h4⟩ := x.to
  subst h2 h3
  exact .dI h1 h (Owns.sh h4)
theorem KVs.ownT {es : List (List Key × V)} {kvs : List (List Int × D)} (x : KVs c S eT es kvs) (h : H p = some (.dT es)) : Own c S H [p] (.ref p) (.dT kvs) := by
  obtain ⟨ks, vs, ds, h1, h2, h3, h4⟩ := x.to
  subst h2 h3
  exact .dT h1 h (Owns.sh h4)
/-- a tuple of ints -/
def asT : D → Option (List Int)
  | .tup ds => asInts ds
  | _ => none
theorem Rep.key {d : D} {ns : List Int} (h : Rep c S v d) (e : asT d = some ns) : ∃ b, v = .ref b ∧ S b = some (.tup ((eT ns).map kV)) := by
  cases d with
  | tup ds =>
    have e' := asInts_some e
    subst e'
    generalize q : D.tup (ns.map D.int) = d at h
    cases h with
    | tup h r =>
      cases q
      rw [r.ints] at h
      refine ⟨_, rfl, ?_⟩
      rw [h]
      unfold eT
      rw [List.map_map]
      rfl
    | _ => cases q
  | _ => cases e
end
/-! ### how a dict is known: its heap and its items' heap -/
def DictR (c : Ct) (S H : Hp) (v : V) (d : D) : Prop := match d with
  | .dI kvs => ∃ a es, v = .ref a ∧ H a = some (.dK es) ∧ KVs c S eI es kvs
  | .dT kvs => ∃ a es, v = .ref a ∧ H a = some (.dT es) ∧ KVs c S eT es kvs
  | _ => False
def isDict : D → Bool
  | .dI _ => true
  | .dT _ => true
  | _ => false
/-- what stands at a key -/
def getD' (a b : D) : Option (Option D) := match a with
  | .dI kvs => (match b with
    | .int k => some (valD kvs k)
    | _ => none)
  | .dT kvs => (asT b).map fun k => valD kvs k
  | _ => none
def putD' (a b d : D) : Option D := match a with
  | .dI kvs => (match b with
    | .int k => if kvs.length < 100000 then some (.dI (putD kvs k d)) else none
    | _ => none)
  | .dT kvs => (asT b).bind fun k => if kvs.length < 100000 then some (.dT (putD kvs k d)) else none
  | _ => none
section
variable {c : Ct} {S H : Hp} {v w : V} {a b d : D}
theorem DictR.get (r : DictR c S H v a) (rk : Rep c H w b) {o : Option D} (h : getD' a b = some o) : ∃ p r, v = .ref p ∧ DGet H p w r ∧ ((r = none ∧ o = none) ∨ ∃ x y, r = some x ∧ o = some y ∧ Rep c S x y) := by
  cases a with
  | dI kvs =>
    cases b with
    | int k =>
      cases h
      cases rk
      obtain ⟨p, es, rfl, h1, h2⟩ := r
      exact ⟨p, _, rfl, DGet.k (k := eI k) h1, h2.val eI_inj k⟩
    | _ => cases h
  | dT kvs =>
    obtain ⟨k, h1, h2⟩ := Option.map_eq_some_iff.mp h
    subst h2
    obtain ⟨q, rfl, h3⟩ := rk.key h1
    obtain ⟨p, es, rfl, h4, h5⟩ := r
    exact ⟨p, _, rfl, DGet.t h4 h3, h5.val eT_inj k⟩
  | _ => cases h
theorem Rep.dictR (r : Rep c S v a) (e : Ex S H) (hd : isDict a = true) : DictR c S H v a := by
  cases a with
  | dI kvs => obtain ⟨p, es, h1, h2, h3⟩ := r.dI_inv; exact ⟨p, es, h1, e _ _ h2, h3⟩
  | dT kvs => obtain ⟨p, es, h1, h2, h3⟩ := r.dT_inv; exact ⟨p, es, h1, e _ _ h2, h3⟩
  | _ => cases hd
theorem Own.dictR {p : Addr} (r : Own c S H [p] (.ref p) a) (hd : isDict a = true) : DictR c S H (.ref p) a := by
  cases a with
  | dI kvs => obtain ⟨es, h1, h2⟩ := r.dI_inv; exact ⟨p, es, rfl, h1, h2⟩
  | dT kvs => obtain ⟨es, h1, h2⟩ := r.dT_inv; exact ⟨p, es, rfl, h1, h2⟩
  | _ => cases hd
theorem getD'_is {o : Option D} (h : getD' a b = some o) : isDict a = true := by
  cases a with
  | dI _ => rfl
  | dT _ => rfl
  | _ => cases h
theorem DictR.isD (r : DictR c S H v a) : ∃ p, v = .ref p ∧ IsD H p := by
  cases a with
  | dI kvs => obtain ⟨p, es, h1, h2, _⟩ := r; exact ⟨p, h1, .inl ⟨es, .inl h2⟩⟩
  | dT kvs => obtain ⟨p, es, h1, h2, _⟩ := r; exact ⟨p, h1, .inr ⟨es, .inl h2⟩⟩
  | _ => exact r.elim
end
/-- the heap in which a value's items are known -/
theorem VR.dictR {c : Ct} {B S0 H : Hp} {M : Mz} {L : List (List Addr)} {Γ : List Md} {σ : L2.St} {ρ : List D} {m : Vm} {v : V} {d : D} (E : EnvR c B S0 M Γ L σ H ρ) (r : VR c m B M L H v d) (hd : isDict d = true) :
    ∃ S, DictR c S H v d ∧ ∀ x y, Rep c S x y → VR c m.item B M L H x y := by
  cases m with
  | t => exact ⟨H, Rep.dictR r (Ex.refl _) hd, fun x y h => h⟩
  | b => exact ⟨B, Rep.dictR r E.eb hd, fun x y h => h⟩
  | s => exact ⟨_, Rep.dictR r hide_ex hd, fun x y h => h⟩
  | f => obtain ⟨p, rfl, ho, _⟩ := r; exact ⟨_, ho.dictR hd, fun x y h => h⟩
def gDIn (b a : D) : Option D := (getD' a b).map fun o => .bl o.isSome
def gDNotIn (b a : D) : Option D := (getD' a b).map fun o => .bl (!o.isSome)
def gDIx (a b : D) : Option D := (getD' a b).bind id
def gDGet1 (a b : D) : Option D := (getD' a b).map fun o => o.getD .non
def dDGet2 (f g h : DFn) : DFn := fun ρ => (f ρ).bind fun a => (g ρ).bind fun b => (h ρ).bind fun x => (getD' a b).map fun o => o.getD x
section
variable {X : Cx} {ca : Cl → Addr} {Γ : List Md} {pos p apos cpos : Pos} {a b e : Expr} {ma mb me : Vm} {fa fb fe : DFn}
theorem dict_get2 {t u : TE} (qa : DE ⟨X.K, ca⟩ Γ t ma fa) (qb : DE ⟨X.K, ca⟩ Γ u mb fb) {B S0 : Hp} {M : Mz} {L : List (List Addr)} {σ : L2.St} {H : Hp} {ρ : List D} (E : EnvR ⟨X.K, ca⟩ B S0 M Γ L σ H ρ) {a b : D} {o : Option D} (ea : fa ρ = some a) (eb : fb ρ = some b) (eo : getD' a b = some o) {Q : Addr → V → Option V → Hp → Prop}
    (k : ∀ H2 p w r, Ex H H2 → DGet H2 p w r → ((r = none ∧ o = none) ∨ ∃ x y, r = some x ∧ o = some y ∧ VR ⟨X.K, ca⟩ ma.item B M L H2 x y) → Q p w r H2) : t σ H fun x H1 => u σ H1 fun y H2 => ∃ a v, x = .ref a ∧ Q a y v H2 := by
  refine qa B S0 M L σ H ρ E a ea _ fun x H1 x1 r1 => ?_
  refine qb B S0 M L σ H1 ρ (E.ext x1) b eb _ fun y H2 x2 r2 => ?_
  have E2 := (E.ext x1).ext x2
  obtain ⟨S, dr, it⟩ := VR.dictR E2 (r1.mono x2) (getD'_is eo)
  obtain ⟨p, r, e1, g, alt⟩ := dr.get (r2.rep E2.eb) eo
  refine ⟨p, r, e1, k H2 p y r (x1.trans x2) g ?_⟩
  rcases alt with alt | ⟨x', y', h1, h2, h3⟩
  · exact .inl alt
  · exact .inr ⟨x', y', h1, h2, it _ _ h3⟩
/-- d[k] -/
theorem pd_dix (hr : X.A.units + 1 < cLine) (ha : PDE X ca Γ a ma fa) (hb : PDE X ca Γ b mb fb) (hs : NoSl b := by exact fun _ _ => rfl) : PDE X ca Γ (.Subscript a b pos) ma.item (d2 gDIx fa fb) := by
  obtain ⟨t, p, qa⟩ := ha
  obtain ⟨u, p2, qb⟩ := hb
  refine ⟨_, pe_dget hr p p2 hs, fun B S0 M L σ H ρ E d hd Q k => ?_⟩
  obtain ⟨x, e1, hd⟩ := bind_some hd
  obtain ⟨y, e2, hd⟩ := bind_some hd
  obtain ⟨o, e3, hd⟩ := bind_some hd
  refine qa B S0 M L σ H ρ E x e1 _ fun v H1 x1 r1 => ?_
  refine qb B S0 M L σ H1 ρ (E.ext x1) y e2 _ fun w H2 x2 r2 => ?_
  have E2 := (E.ext x1).ext x2
  obtain ⟨S, dr, it⟩ := VR.dictR E2 (r1.mono x2) (getD'_is e3)
  obtain ⟨p, r, h1, g, alt⟩ := dr.get (r2.rep E2.eb) e3
  rcases alt with ⟨_, h3⟩ | ⟨x', y', h2, h3, h4⟩
  · subst h3; cases hd
  · subst h2 h3
    cases hd
    exact ⟨p, x', h1, g, k x' H2 (x1.trans x2) (it _ _ h4)⟩
theorem pc_dI {op : CmpOp} {g : Bool → Bool} {gg : D → D → Option D} {t u : TE} (hg : gg = fun b a => (getD' a b).map fun o => .bl (g o.isSome)) {r : TE} (hrr : ∀ σ H Q, (t σ H fun y H1 => u σ H1 fun x H2 => ∃ a o, x = .ref a ∧ DGet H2 a y o ∧ Q (.bl (g o.isSome)) H2) → r σ H Q)
    (qb : DE ⟨X.K, ca⟩ Γ t mb fb) (qa : DE ⟨X.K, ca⟩ Γ u ma fa) : DE ⟨X.K, ca⟩ Γ r .s (d2 gg fb fa) := fun B S0 M L σ H ρ E d hd Q k => by
  subst hg
  obtain ⟨y, e2, hd⟩ := bind_some hd
  obtain ⟨x, e1, hd⟩ := bind_some hd
  obtain ⟨o, e3, hd⟩ := Option.map_eq_some_iff.mp hd
  subst hd
  refine hrr σ H Q ?_
  refine qb B S0 M L σ H ρ E y e2 _ fun w H1 x1 r2 => ?_
  refine qa B S0 M L σ H1 ρ (E.ext x1) x e1 _ fun v H2 x2 r1 => ?_
  have E2 := (E.ext x1).ext x2
  obtain ⟨S, dr, it⟩ := VR.dictR E2 r1 (getD'_is e3)
  obtain ⟨p, r, h1, gg, alt⟩ := dr.get ((r2.mono x2).rep E2.eb) e3
  refine ⟨p, r, h1, gg, ?_⟩
  have e : r.isSome = o.isSome := by
    rcases alt with ⟨h2, h3⟩ | ⟨x', y', h2, h3, _⟩
    · rw [h2, h3]
      rfl
    · rw [h2, h3]
      rfl
  rw [e]
  exact k _ H2 (x1.trans x2) (.bl _)
/-- k in d -/
theorem pd_din (hr : X.A.units + 1 < cLine) (hb : PDE X ca Γ b mb fb) (ha : PDE X ca Γ a ma fa) (hm : behindInMarks .In a = false := by first | exact nomark _ | rfl) : PDE X ca Γ (.Compare b [.In] [a] pos) .s (d2 gDIn fb fa) := by
  obtain ⟨t, p, qa⟩ := ha
  obtain ⟨u, p2, qb⟩ := hb
  exact ⟨_, pe_cmp (pc_din hr p2 p) hm, pc_dI (g := fun b => b) (op := .In) rfl (fun σ H Q h => h) qb qa⟩
theorem pd_dnotin (hr : X.A.units + 1 < cLine) (hb : PDE X ca Γ b mb fb) (ha : PDE X ca Γ a ma fa) (hm : behindInMarks .NotIn a = false := by first | exact nomark _ | rfl) : PDE X ca Γ (.Compare b [.NotIn] [a] pos) .s (d2 gDNotIn fb fa) := by
  obtain ⟨t, p, qa⟩ := ha
  obtain ⟨u, p2, qb⟩ := hb
  exact ⟨_, pe_cmp (pc_dnotin hr p2 p) hm, pc_dI (g := fun b => !b) (op := .NotIn) rfl (fun σ H Q h => h) qb qa⟩
theorem pdt_din (hr : X.A.units + 1 < cLine) (hb : PDE X ca Γ b mb fb) (ha : PDE X ca Γ a ma fa) (hm : behindInMarks .In a = false := by first | exact nomark _ | rfl) : PDT X ca Γ (.Compare b [.In] [a] pos) (DL.tB (d2 gDIn fb fa)) := by
  obtain ⟨t, p, qa⟩ := ha
  obtain ⟨u, p2, qb⟩ := hb
  exact ⟨_, pt_cmp (pc_din hr p2 p) hm, (pc_dI (X := X) (ca := ca) (g := fun b => b) (op := .In) rfl (fun σ H Q h => h) qb qa).tt⟩
theorem pdt_dnotin (hr : X.A.units + 1 < cLine) (hb : PDE X ca Γ b mb fb) (ha : PDE X ca Γ a ma fa) (hm : behindInMarks .NotIn a = false := by first | exact nomark _ | rfl) : PDT X ca Γ (.Compare b [.NotIn] [a] pos) (DL.tB (d2 gDNotIn fb fa)) := by
  obtain ⟨t, p, qa⟩ := ha
  obtain ⟨u, p2, qb⟩ := hb
  exact ⟨_, pt_cmp (pc_dnotin hr p2 p) hm, (pc_dI (X := X) (ca := ca) (g := fun b => !b) (op := .NotIn) rfl (fun σ H Q h => h) qb qa).tt⟩
end
end DL

/-! DL: sets of ints. -/
namespace DL
open PySem PySem.Spec PyProof.Rows L2
/-! ### the members once -/
section
variable {α : Type} [DecidableEq α]
def ded : List α → List α
  | [] => []
  | x :: xs => if x ∈ xs then ded xs else x :: ded xs
theorem mem_ded {a : α} : ∀ {xs : List α}, a ∈ ded xs ↔ a ∈ xs
  | [] => Iff.rfl
  | x :: xs => by
    unfold ded
    split
    · rename_i h
      rw [mem_ded, List.mem_cons]
      exact ⟨.inr, fun q => q.elim (fun e => e ▸ h) id⟩
    · rw [List.mem_cons, List.mem_cons, mem_ded]
theorem nodup_ded : ∀ xs : List α, (ded xs).Nodup
  | [] => List.nodup_nil
  | x :: xs => by
    unfold ded
    split
    · exact nodup_ded xs
    · rename_i h
      exact List.nodup_cons.mpr ⟨fun q => h (mem_ded.mp q), nodup_ded xs⟩
theorem ded_length : ∀ xs : List α, (ded xs).length ≤ xs.length
  | [] => Nat.le_refl _
  | x :: xs => by
    unfold ded
    split
    · exact Nat.le_succ_of_le (ded_length xs)
    · exact Nat.succ_le_succ (ded_length xs)
theorem ded_of_nodup : ∀ {xs : List α}, xs.Nodup → ded xs = xs
  | [], _ => rfl
  | x :: xs, h => by
    obtain ⟨h1, h2⟩ := List.nodup_cons.mp h
    unfold ded
    rw [if_neg h1, ded_of_nodup h2]
theorem ded_length_iff : ∀ {xs : List α}, (ded xs).length = xs.length ↔ xs.Nodup
  | [] => by simp [ded]
  | x :: xs => by
    unfold ded
    rw [List.nodup_cons]
    split
    · rename_i h
      constructor
      · intro q
        have := ded_length xs
        rw [List.length_cons] at q
        omega
      · intro q
        exact absurd h q.1
    · rename_i h
      rw [List.length_cons, List.length_cons, Nat.add_right_cancel_iff, ded_length_iff]
      exact ⟨fun q => ⟨h, q⟩, fun q => q.2⟩
end
/-! ### set(l), l a list of ints -/
section
variable {P : Program} {w : World} {A : Around} {E : Value → Shared → Prop} {s : Shared}
/-- the empty set that the call makes first -/
def set0 (w : World) : Obj := { cls := .type "set", dict := none, data := .set #[] 0 (.fresh 0 0 (!w.params.followText "set-order")) }
set_option maxHeartbeats 3200000 in
theorem call_setL {l : Addr} {items : Array Value} (ns : List Int) {Q : Value → Shared → Prop} (hh : A.handled = none) (hl : s.heap.IsList l items) (hit : IntsAre items.toList ns) (hb : ns.length + 1 < scanBound)
    (h : ∀ (h' : Heap) (tk c : Nat), SetR w h' s.heap.objs.size (fun j => decide (j ∈ ns)) c → (∀ b o, s.heap.get? b = some o → h'.get? b = some o) → Q (.ref s.heap.objs.size) { s with heap := h', toks := tk }) :
    wpAny (model P w) A (call (.type "set") [.ref l]) Q E s := by
  have hisz : items.size = ns.length := by
    have q := IntsAre.length hit
    rwa [Array.length_toList] at q
  obtain ⟨c0, tl, hmro⟩ := F.called_set.mro
  have hmade := F.called_set.made
  have hsub := F.called_set.sub
  refine wpAny_call (codeAny_of_tree ?_)
  show wpAny _ _ (callAny (.type "set") _) _ _ _
  refine wpAny_pure ⟨Code.quiet_builtin _ (by decide +kernel), codeAny_builtin F.entry_type_call ?_⟩
  rw [Around.under_plain (weight_type_call_type "set" [.ref l] []) rfl]
  have h1 := F.called_set.notType
  have h2 := F.called_set.canCreate
  have hct := F.typeCall_set_1 (.ref l)
  repeat (any_goals (first | assumption | wp_step))
  refine codeAny_mono (code_set_led1 (.ref l) (E := E) (Q₁ := fun obj s₁ => obj = .ref s.heap.objs.size ∧ s₁ = { s with heap := s.heap.push (set0 w) }) ⟨rfl, rfl⟩) fun r s₁ hr => ?_
  cases r with
  | error e => exact hr
  | ok fl =>
    cases fl with
    | ret obj =>
      obtain ⟨rfl, rfl⟩ := hr
      have hS : (s.heap.push (set0 w)).get? s.heap.objs.size = some (set0 w) := Heap.get?_push_size _ rfl
      have hT : Shared.TypeIs { s with heap := s.heap.push (set0 w) } (.ref s.heap.objs.size) "set" := ⟨_, hS, rfl⟩
      have hli := F.called_set.init.lookup
      have hbi := F.called_set.init.bind (.ref s.heap.objs.size)
      repeat (any_goals (first | assumption | wp_step))
      refine codeAny_mono (codeAny_call_builtin (R := wants (fun r s₂ => r = .none ∧ ∃ h' tk c, s₂ = { s with heap := h', toks := tk } ∧ SetR w h' s.heap.objs.size (fun j => decide (j ∈ ns)) c ∧
          (∀ b o, s.heap.get? b = some o → h'.get? b = some o)) E) F.called_set.init.plain F.entry_set_init (check_set_init_1 hT ?_)) fun r₂ s₂ hr₂ => ?_
      · obtain ⟨ol, hol, hcl, nl, hdl⟩ := hl
        obtain ⟨ocls, odict, odata, oslots⟩ := ol
        simp only at hcl hdl
        subst hcl; subst hdl
        have hol' : (s.heap.push (set0 w)).get? l = some { cls := .type "list", dict := odict, data := .seq items nl, slots := oslots } := Heap.get?_push_of_some _ hol
        have hsls := F.sub_list_set
        have hslf := F.sub_list_frozenset
        have hne : (Value.type "list" == Value.type "dict") = false := by decide
        have hl1 : (s.heap.push (set0 w)).IsList l items := ⟨_, hol', rfl, nl, rfl⟩
        unfold Builtin.«set.__init__» noKeywords Builtin.Frozenset.updateFrom
        generalize hPI : pyIter = PI
        wp_walk
        subst hPI
        refine wpAny_pyIter_list hl1 ?_
        refine wpAny_bind (wpAny_runValue ?_)
        have hlS : l < s.heap.objs.size := Heap.lt_size hol
        have hh3 : A.in1.in1.in1.handled = none := by simp [hh]
        have hz1 : (s.heap.push (set0 w)).objs.size = s.heap.objs.size + 1 := Heap.size_push ..
        have hneI : l ≠ (s.heap.push (set0 w)).objs.size := by
          rw [hz1]
          exact Nat.ne_of_lt (Nat.lt_succ_of_lt hlS)
        have hSf : s.heap.objs.size ∉ [(s.heap.push (set0 w)).objs.size, l] := by
          rw [hz1]
          simp only [List.mem_cons, List.not_mem_nil, or_false, not_or]
          exact ⟨Nat.ne_of_lt (Nat.lt_succ_self _), Nat.ne_of_gt hlS⟩
        have hval : ∀ (i : Nat) (v : Value), items[i]? = some v → ∃ k t, ns[i]? = some k ∧ v = .int k t := fun i v hv => by
          have hi : i < ns.length := by rw [← hisz]; exact (Array.getElem?_eq_some_iff.mp hv).1
          obtain ⟨t, e⟩ := PyProof.Rows.IntsAre.int_at hit i v (by rw [Array.getElem?_toList]; exact hv)
          refine ⟨ns[i], t, List.getElem?_eq_getElem hi, ?_⟩
          rw [e, List.getD_eq_getElem?_getD, List.getElem?_eq_getElem hi] <;> rfl
        refine set_update_ints ((Walks.list hh3 _ l hneI items).toS) s.heap.objs.size hSf ns hisz hb hval (items.size - 0) 0 _ (by omega) (Nat.zero_le _) ⟨⟨_, Heap.get?_push_size _ rfl, rfl, rfl⟩, (hl1.push _)⟩ ⟨0, Nat.le_refl 0, setR_new_at (Heap.get?_push_of_some _ hS)⟩ ?_
        intro s' c' hm hc' hS'
        obtain ⟨h', g2, d', tk', os'⟩ := s'
        have eg : g2 = s.gens := hm.gens
        have ed : d' = s.drawn := hm.drawn
        have eo : os' = s.os := hm.os
        subst eg; subst ed; subst eo
        show wpAny _ _ _ _ _ _
        refine wpAny_pure ?_
        show wpAny _ _ (ret Value.none) _ _ _
        refine wpAny_pure ⟨rfl, h', tk', c', rfl, hS', fun b o e => ?_⟩
        have hb0 : b < s.heap.objs.size := Heap.lt_size e
        exact hm.heap b o (by rw [hz1]; simp only [List.mem_cons, List.not_mem_nil, or_false, not_or]; exact ⟨Nat.ne_of_lt hb0, Nat.ne_of_lt (Nat.lt_succ_of_lt hb0)⟩) (Heap.get?_push_of_some _ (Heap.get?_push_of_some _ e))
      · cases r₂ with
        | error e => exact hr₂
        | ok fl₂ =>
          cases fl₂ with
          | ret r =>
            obtain ⟨rfl, h', tk, c', rfl, hS', hk'⟩ := hr₂
            repeat (any_goals (first | assumption | wp_step))
            exact h _ _ _ hS' hk'
          | _ => exact hr₂.elim
    | _ => exact hr.elim
theorem setR_count {w : World} {h : Heap} {a : Addr} {ns : List Int} {c : Nat} (R : SetR w h a (fun j => decide (j ∈ ns)) c) : c = (ded ns).length := by
  obtain ⟨o, es, ep, t, _, _, _, _, nd, hm, _, _, hn, _⟩ := R
  have p : (es.toList.map keyOf).Perm (ded ns) := (List.perm_ext_iff_of_nodup nd (nodup_ded ns)).mpr fun k => by
    rw [mem_ded, ← hm k, decide_eq_true_eq]
  rw [← hn, ← p.length_eq, List.length_map, Array.length_toList]
end
def rSetI (K : PySem.W.Frag) (w : World) : List V → Hp → VK → Prop := fun xs H Q => ∃ (l : Addr) (ns : List Int), xs = [.ref l] ∧ (SqL K H l (ns.map V.int) ∨ SqT K H l (ns.map V.int)) ∧ ns.length < 64 ∧ ∀ p, H p = none → Q (.ref p) (upd H p (SetO w p (fun j => decide (j ∈ ns)) (ded ns).length))
section
variable {X : Cx} {ca : Cl → Addr}
theorem cr_setI (hc : X.calm = true := by rfl) : CallR X (.type "set") (rSetI X.K X.w) := by
  intro pins s σ H xs us Q I r h
  obtain ⟨l, ns, rfl, hq, h64, q⟩ := h
  rw [Vals.ref1 r]
  have fin : ∀ (h' : Heap) (tk c : Nat), SetR X.w h' s.heap.objs.size (fun j => decide (j ∈ ns)) c → (∀ b o, s.heap.get? b = some o → h'.get? b = some o) → EP X pins σ Q (.ref s.heap.objs.size) { s with heap := h', toks := tk } := fun h' tk c R k => by
    have e := setR_count R
    subst e
    exact ⟨.ref _, upd H s.heap.objs.size (SetO X.w s.heap.objs.size (fun j => decide (j ∈ ns)) (ded ns).length), I.laid (t' := tk) k (Nat.le_refl _) (setO_new R), rfl, q _ (I.hok.fresh (Nat.le_refl _))⟩
  rcases hq with hq | hq
  · obtain ⟨its, rv, hl, hz⟩ := I.list hq
    exact call_setL (I.ok.hd hc) hl.isList (ns := ns) (by simpa using rv.ints) (by unfold scanBound; omega) fin
  · obtain ⟨its, rv, hl, hz⟩ := I.tuple hq
    exact call_set_tupI ns (I.ok.hd hc) hl (by simpa using rv.ints) (by unfold scanBound; omega) fun h' tk c R _ k => fin h' tk c R k
def rLenSet (w : World) : List V → Hp → VK → Prop := fun xs H Q => ∃ a S n, xs = [.ref a] ∧ H a = some (SetO w a S n) ∧ n < 64 ∧ Q (.int (n : Nat)) H
theorem cr_lenSetO : CallR X (.builtin "len") (rLenSet X.w) := by
  intro pins s σ H xs us Q I r h
  obtain ⟨a, S, n, rfl, ha, h64, q⟩ := h
  rw [Vals.ref1 r]
  obtain ⟨o, es, ep, t, ho, hex, hd, _, _, _, _, hf, hn, _⟩ := setO_get I ha
  exact call_len_set ho hex hd hf (by rw [hn] <;> omega) ⟨.int n, H, I.tok _, ⟨_, by rw [hn]⟩, q⟩
end
theorem map_intD : ∀ {xs ys : List Int}, xs.map D.int = ys.map D.int → xs = ys
  | [], [], _ => rfl
  | [], _ :: _, h => by simp at h
  | _ :: _, [], h => by simp at h
  | x :: xs, y :: ys, h => by
    simp only [List.map_cons, List.cons.injEq, D.int.injEq] at h
    rw [h.1, map_intD h.2]
/-- a list or a tuple of ints, few -/
def intsOf (d : D) : Option (List Int) := ((seqOf d).bind asInts).bind fun ns => if ns.length < 64 then some ns else none
def sortI (ns : List Int) : List Int := ns.mergeSort fun a b => decide (a ≤ b)
def gSortSet (d : D) : Option D := (intsOf d).map fun ns => .lst ((sortI (ded ns)).map .int)
def gLenSet (d : D) : Option D := (intsOf d).map fun ns => .int (ded ns).length
theorem sortI_unique {ns ys : List Int} (h1 : ys.Pairwise (· < ·)) (h2 : ∀ k, k ∈ ys ↔ k ∈ ns) : ys = sortI (ded ns) := by
  have nd : ys.Nodup := List.nodup_iff_pairwise_ne.mpr (h1.imp fun {a b} h => by omega)
  have p : ys.Perm (ded ns) := (List.perm_ext_iff_of_nodup nd (nodup_ded ns)).mpr fun k => by rw [h2, mem_ded]
  refine List.Perm.eq_of_pairwise (le := fun a b : Int => a ≤ b) (fun a b _ _ h1 h2 => by omega) (h1.imp fun {a b} h => by omega) ?_ (p.trans (List.mergeSort_perm _ _).symm)
  have q := List.pairwise_mergeSort (le := fun a b : Int => decide (a ≤ b)) (fun a b c h1 h2 => by
    simp only [decide_eq_true_eq] at h1 h2 ⊢
    omega) (fun a b => by
    simp only [Bool.or_eq_true, decide_eq_true_eq]
    omega) (ded ns)
  exact q.imp fun {a b} h => of_decide_eq_true h
section
variable {X : Cx} {ca : Cl → Addr} {Γ : List Md} {pos p p2 q : Pos} {a : Expr} {ma : Vm} {fa : DFn}
theorem intsOf_rep {c : Ct} {S H : Hp} {v : V} {d : D} {ns : List Int} (e : Ex S H) (r : Rep c S v d) (h : intsOf d = some ns) : ∃ l, v = .ref l ∧ (SqL c.K H l (ns.map V.int) ∨ SqT c.K H l (ns.map V.int)) ∧ ns.length < 64 := by
  obtain ⟨ns', e1, h⟩ := bind_some h
  obtain ⟨h64, h⟩ := ite_some' h
  cases h
  obtain ⟨ds, e2, e1⟩ := bind_some e1
  rw [asInts_some e1] at e2
  cases d with
  | lst ds' =>
    cases e2
    generalize q : D.lst (ns.map D.int) = d at r
    cases r with
    | lst h r => cases q; rw [r.ints] at h; exact ⟨_, rfl, .inl (SqL.of (e _ _ h)), h64⟩
    | _ => cases q
  | tup ds' =>
    cases e2
    generalize q : D.tup (ns.map D.int) = d at r
    cases r with
    | tup h r => cases q; rw [r.ints] at h; exact ⟨_, rfl, .inr (SqT.of (e _ _ h)), h64⟩
    | _ => cases q
  | scr ns' =>
    have e3 := map_intD (Option.some.inj e2)
    subst e3
    cases r with
    | scr h => exact ⟨_, rfl, .inl (e.sq h), h64⟩
  | _ => cases e2
theorem pd_sortSet (ha : PDE X ca Γ a ma fa) (h1 : X.mg "sorted" = none) (h2 : X.mg "set" = none) (hg : Gl X "sorted" := by rfl) (hg2 : Gl X "set" := by rfl) (hc : X.calm = true := by rfl)
    (hs : starEach [a] X.env = (false, eval a X.env) :: starEach [] X.env := by rfl) (hs2 : starEach [.Call (.Name "set" p2) [a] [] q] X.env = (false, eval (.Call (.Name "set" p2) [a] [] q) X.env) :: starEach [] X.env := by rfl) (hpl : (backTo q (starEach [] X.env)).any (·.1) = false := by rfl) (hpl2 : (backTo pos (starEach [] X.env)).any (·.1) = false := by rfl) :
    PDN X ca Γ (.Call (.Name "sorted" p) [.Call (.Name "set" p2) [a] [] q] [] pos) (d1 gSortSet fa) := by
  obtain ⟨t, pa, qa⟩ := ha
  refine ⟨_, pe_callB (cr_sortedSet hc) hg h1 (by decide +kernel) (pa_cons (pe_callTy (cr_setI hc) hg2 h2 (by decide +kernel) (pa_cons pa pa_nil hs) (by decide) (by decide) hs hpl) pa_nil hs2) (by decide) (by decide) hs2 hpl2, fun B S0 M L σ H ρ E d hd Q k => ?_⟩
  obtain ⟨x, e1, hd⟩ := bind_some hd
  obtain ⟨ns, e2, hd⟩ := Option.map_eq_some_iff.mp hd
  subst hd
  refine qa B S0 M L σ H ρ E x e1 _ fun v H1 x1 r1 => ?_
  obtain ⟨l, rfl, hq, h64⟩ := intsOf_rep (c := ⟨X.K, ca⟩) (Ex.refl H1) (r1.rep (E.eb.trans x1)) e2
  refine ⟨l, ns, rfl, hq, h64, fun a ha => ?_⟩
  refine ⟨a, _, _, rfl, upd_same, Nat.lt_of_le_of_lt (ded_length ns) h64, fun ys p' hs hm _ hp => ?_⟩
  have x2 : Ex H1 (upd H1 a (SetO X.w a (fun j => decide (j ∈ ns)) (ded ns).length)) := Ex.new ha
  have e : ys = sortI (ded ns) := sortI_unique hs fun k => by rw [hm k, decide_eq_true_eq]
  rw [e]
  exact k p' _ ((x1.trans x2).trans (Ex.new hp)) (x1.free (x2.free hp)) (.lst upd_same (Owns.sh (Reps.of_ints _)))
theorem pd_lenSet (ha : PDE X ca Γ a ma fa) (h1 : X.mg "len" = none) (h2 : X.mg "set" = none) (hg : Gl X "len" := by rfl) (hg2 : Gl X "set" := by rfl) (hc : X.calm = true := by rfl)
    (hs : starEach [a] X.env = (false, eval a X.env) :: starEach [] X.env := by rfl) (hs2 : starEach [.Call (.Name "set" p2) [a] [] q] X.env = (false, eval (.Call (.Name "set" p2) [a] [] q) X.env) :: starEach [] X.env := by rfl) (hpl : (backTo q (starEach [] X.env)).any (·.1) = false := by rfl) (hpl2 : (backTo pos (starEach [] X.env)).any (·.1) = false := by rfl) :
    PDE X ca Γ (.Call (.Name "len" p) [.Call (.Name "set" p2) [a] [] q] [] pos) .s (d1 gLenSet fa) := by
  obtain ⟨t, pa, qa⟩ := ha
  refine ⟨_, pe_callB cr_lenSetO hg h1 (by decide +kernel) (pa_cons (pe_callTy (cr_setI hc) hg2 h2 (by decide +kernel) (pa_cons pa pa_nil hs) (by decide) (by decide) hs hpl) pa_nil hs2) (by decide) (by decide) hs2 hpl2, fun B S0 M L σ H ρ E d hd Q k => ?_⟩
  obtain ⟨x, e1, hd⟩ := bind_some hd
  obtain ⟨ns, e2, hd⟩ := Option.map_eq_some_iff.mp hd
  subst hd
  refine qa B S0 M L σ H ρ E x e1 _ fun v H1 x1 r1 => ?_
  obtain ⟨l, rfl, hq, h64⟩ := intsOf_rep (c := ⟨X.K, ca⟩) (Ex.refl H1) (r1.rep (E.eb.trans x1)) e2
  refine ⟨l, ns, rfl, hq, h64, fun a ha => ?_⟩
  exact ⟨a, _, _, rfl, upd_same, Nat.lt_of_le_of_lt (ded_length ns) h64, k _ _ (x1.trans (Ex.new ha)) (.int _)⟩
end
end DL

/-! DL: dicts that are written; pop. -/
namespace DL
open PySem PySem.Spec PyProof.Rows L2
theorem _root_.L2.Room.units1 {k : Nat} {A : Around} (r : L2.Room k A) : A.units + 1 < cLine := by
  have := r.units
  omega
section
variable {c : Ct} {B S0 H H' : Hp} {M : Mz} {L : List (List Addr)} {Γ : List Md} {σ : L2.St} {ρ : List D}
/-- one's own object, changed -/
theorem EnvR.reown (E : EnvR c B S0 M Γ L σ H ρ) {i : Nat} {p : Addr} {o : HO} {d : D} (hm : Γ[i]? = some .f) (hl : L[i]? = some [p]) (hs : σ[i]? = some (some (.ref p))) (ho : Mut (some o)) (r : ∀ S, Ex (hide (Msk M L) H) S → Own c S (upd H p o) [p] (.ref p) d) :
    EnvR c B S0 M Γ L σ (upd H p o) (ρ.set i d) := by
  have k : ∀ a u, a ∉ [p] → H a = some u → upd H p o a = some u := fun a u h q => by
    rw [upd_ne (by simpa using h)]
    exact q
  have inL : In L p := ⟨[p], List.mem_of_getElem? hl, .head _⟩
  have e1 : L.set i [p] = L := list_set_self hl
  have hh : Ex (hide (Msk M L) H) (hide (Msk M L) (upd H p o)) := hide_le fun a u h q => ⟨h, k a u (fun z => h (.inr (by
    have e : a = p := by simpa using z
    subst e
    exact inL))) q⟩
  have E' := E.change (m' := .f) (x' := some (.ref p)) (d' := d) i hl k (fun a ha => .inl ha) (fun a ha => by
    have e : a = p := by simpa using ha
    subst e
    rw [upd_same]
    exact ho) (by
    rw [e1]
    exact ⟨p, rfl, rfl, r _ hh⟩)
  rw [e1, list_set_self hm, list_set_self hs] at E'
  exact E'
end
def dDisp (f g : DFn) : DFn := fun ρ => (f ρ).bind fun a => (g ρ).bind fun d => match a with
  | .int k => some (.dI [(k, d)])
  | _ => none
def putK' (i : Nat) (d a b : Option D) (ρ : List D) : Out := match d, a, b with
  | some d, some a, some b => (match putD' a b d with
    | some a' => .nx (ρ.set i a')
    | none => .bad)
  | _, _, _ => .bad
def dPut (i : Nat) (fk fv : DFn) : SFn := fun ρ => putK' i (fv ρ) ρ[i]? (fk ρ) ρ
def gSortKeys (d : D) : Option D := match d with
  | .dI kvs => if kvs.length < 64 then some (.lst (((kvs.map (·.1)).mergeSort fun a b : Int => decide (a ≤ b)).map .int)) else none
  | _ => none
section
variable {X : Cx} {ca : Cl → Addr} {W : WX} {J : Jd} {Γ : List Md} {pos p apos cpos pos' : Pos} {a b e : Expr} {ma mb me : Vm} {fa fb fe : DFn} {x : Str}
/-- {k: v} -/
theorem pd_disp (hk : PDE X ca Γ a ma fa) (hv : PDE X ca Γ b .s fb) : PDN X ca Γ (.Dict [some a] [b] pos) (dDisp fa fb) := by
  obtain ⟨t, p1, q1⟩ := hk
  obtain ⟨u, p2, q2⟩ := hv
  refine ⟨_, pe_disp (pps_cons p1 p2 pps_nil) rfl rfl (by simp) (by show 1 ≤ 15; decide), fun B S0 M L σ H ρ E d hd Q k => ?_⟩
  obtain ⟨x, e1, hd⟩ := bind_some hd
  obtain ⟨y, e2, hd⟩ := bind_some hd
  cases x with
  | int n =>
    cases hd
    intro p hp
    have E1 := E.guard hp (Ex.new (o := .dK []) hp) (by rw [upd_same]; exact True.intro)
    refine q1 B S0 _ L σ _ ρ E1 _ e1 _ fun v H1 x1 r1 => ?_
    refine q2 B S0 _ L σ H1 ρ (E1.ext x1) y e2 _ fun w H2 x2 r2 => ?_
    have E2 := (E1.ext x1).ext x2
    have ev := (r1.rep (E1.ext x1).eb).int_inv
    subst ev
    have hp2 : H2 p = some (.dK []) := x2 _ _ (x1 _ _ upd_same)
    refine ⟨hp2, [(.inl n, w)], rfl, by show 1 ≤ 15; decide, ?_⟩
    have em : mergeK [] [((Sum.inl n : Key), w)] = [(Sum.inl n, w)] := rfl
    rw [em]
    have x3 : Ex H (upd H2 p (.dK [(Sum.inl n, w)])) := fun b o h => by
      have ne : b ≠ p := ne_of_none h hp
      rw [upd_ne ne]
      exact x2 _ _ (x1 _ _ ((upd_ne ne).trans h))
    refine k p _ x3 hp (KVs.ownI (es := [(Sum.inl n, w)]) (.cons ?_ .nil) upd_same)
    have r2' : Rep ⟨X.K, ca⟩ (hide (Msk ⟨fun a => M a ∨ a = p, M.z⟩ L) H2) w y := r2
    refine r2'.mono (hide_le fun b o h q => ⟨fun z => h ?_, (upd_ne fun z => h (.inl (.inr z))).trans q⟩)
    rcases z with (z | z) | z
    · exact .inl (.inl z)
    · exact .inr z
    · exact .inl (.inr z)
  | _ => cases hd
/-- d.get(k) -/
theorem pd_get1 (hr : X.A.units + 1 < cLine) (ha : PDE X ca Γ a ma fa) (hb : PDE X ca Γ b mb fb) (hm : ma = .s ∨ ma = .f := by first | exact .inl rfl | exact .inr rfl) (m : M1 X a "get" apos b cpos := by exact ⟨rfl, rfl, rfl, rfl⟩) : PDE X ca Γ (.Call (.Attribute a "get" apos) [b] [] cpos) .s (d2 gDGet1 fa fb) := by
  obtain ⟨t, p, qa⟩ := ha
  obtain ⟨u, p2, qb⟩ := hb
  refine ⟨_, pe_dget1 hr p p2 m, fun B S0 M L σ H ρ E d hd Q k => ?_⟩
  obtain ⟨x, e1, hd⟩ := bind_some hd
  obtain ⟨y, e2, hd⟩ := bind_some hd
  obtain ⟨o, e3, hd⟩ := Option.map_eq_some_iff.mp hd
  subst hd
  refine qa B S0 M L σ H ρ E x e1 _ fun v H1 x1 r1 => ?_
  obtain ⟨S1, dr1, _⟩ := VR.dictR (E.ext x1) r1 (getD'_is e3)
  obtain ⟨p0, ep, hD⟩ := dr1.isD
  refine ⟨p0, ep, hD, ?_⟩
  refine qb B S0 M L σ H1 ρ (E.ext x1) y e2 _ fun w H2 x2 r2 => ?_
  have E2 := (E.ext x1).ext x2
  obtain ⟨S, dr, it⟩ := VR.dictR E2 (r1.mono x2) (getD'_is e3)
  obtain ⟨p', r, h1, g, alt⟩ := dr.get (r2.rep E2.eb) e3
  rw [ep] at h1
  cases h1
  refine ⟨r, g, ?_⟩
  rcases alt with ⟨h2, h3⟩ | ⟨x', y', h2, h3, h4⟩
  · subst h2 h3
    exact k _ H2 (x1.trans x2) .non
  · subst h2 h3
    refine k x' H2 (x1.trans x2) ?_
    rcases hm with rfl | rfl
    · exact it _ _ h4
    · exact it _ _ h4
/-- d.get(k, x) -/
theorem pd_get2 (hr : X.A.units + 1 < cLine) (ha : PDE X ca Γ a ma fa) (hb : PDE X ca Γ b mb fb) (he : PDE X ca Γ e .s fe) (hm : ma = .s ∨ ma = .f := by first | exact .inl rfl | exact .inr rfl) (m : M2 X a "get" apos b e cpos := by exact ⟨rfl, rfl, rfl, rfl⟩) : PDE X ca Γ (.Call (.Attribute a "get" apos) [b, e] [] cpos) .s (dDGet2 fa fb fe) := by
  obtain ⟨t, p, qa⟩ := ha
  obtain ⟨u, p2, qb⟩ := hb
  obtain ⟨w, p3, qe⟩ := he
  refine ⟨_, pe_dget2 hr p p2 p3 m, fun B S0 M L σ H ρ E d hd Q k => ?_⟩
  obtain ⟨x, e1, hd⟩ := bind_some hd
  obtain ⟨y, e2, hd⟩ := bind_some hd
  obtain ⟨z, e4, hd⟩ := bind_some hd
  obtain ⟨o, e3, hd⟩ := Option.map_eq_some_iff.mp hd
  subst hd
  refine qa B S0 M L σ H ρ E x e1 _ fun v H1 x1 r1 => ?_
  obtain ⟨S1, dr1, _⟩ := VR.dictR (E.ext x1) r1 (getD'_is e3)
  obtain ⟨p0, ep, hD⟩ := dr1.isD
  refine ⟨p0, ep, hD, ?_⟩
  refine qb B S0 M L σ H1 ρ (E.ext x1) y e2 _ fun w H2 x2 r2 => ?_
  refine qe B S0 M L σ H2 ρ ((E.ext x1).ext x2) z e4 _ fun w3 H3 x3 r3 => ?_
  have E3 := ((E.ext x1).ext x2).ext x3
  obtain ⟨S, dr, it⟩ := VR.dictR E3 ((r1.mono x2).mono x3) (getD'_is e3)
  obtain ⟨p', r, h1, g, alt⟩ := dr.get ((r2.mono x3).rep E3.eb) e3
  rw [ep] at h1
  cases h1
  refine ⟨r, g, ?_⟩
  rcases alt with ⟨h2, h3⟩ | ⟨x', y', h2, h3, h4⟩
  · subst h2 h3
    exact k _ H3 ((x1.trans x2).trans x3) r3
  · subst h2 h3
    refine k x' H3 ((x1.trans x2).trans x3) ?_
    rcases hm with rfl | rfl
    · exact it _ _ h4
    · exact it _ _ h4
/-- sorted(d) -/
theorem pd_sortKeys (ha : PDE X ca Γ a ma fa) (h1 : X.mg "sorted" = none) (hg : Gl X "sorted" := by rfl) (hc : X.calm = true := by rfl)
    (hs : starEach [a] X.env = (false, eval a X.env) :: starEach [] X.env := by rfl) (hpl : (backTo pos (starEach [] X.env)).any (·.1) = false := by rfl) :
    PDN X ca Γ (.Call (.Name "sorted" p) [a] [] pos) (d1 gSortKeys fa) := by
  obtain ⟨t, pa, qa⟩ := ha
  refine ⟨_, pe_callB (call_sortedDI hc) hg h1 (by decide +kernel) (pa_cons pa pa_nil hs) (by decide) (by decide) hs hpl, fun B S0 M L σ H ρ E d hd Q k => ?_⟩
  obtain ⟨x, e1, hd⟩ := bind_some hd
  cases x with
  | dI kvs =>
    obtain ⟨h64, hd⟩ := ite_some' (show (if kvs.length < 64 then some (D.lst (((kvs.map (·.1)).mergeSort fun a b : Int => decide (a ≤ b)).map .int)) else none) = some d from hd)
    cases hd
    refine qa B S0 M L σ H ρ E _ e1 _ fun v H1 x1 r1 => ?_
    obtain ⟨S, dr, _⟩ := VR.dictR (E.ext x1) r1 rfl
    obtain ⟨a, es, rfl, ha, kv⟩ := dr
    refine ⟨a, es, kvs.map (fun q : Int × D => q.1), rfl, .inl ha, kv.keys, by rw [List.length_map]; exact h64, fun ys p' hp hw hn => ?_⟩
    have e : ys = (kvs.map (·.1)).mergeSort fun a b : Int => decide (a ≤ b) := by
      refine List.Perm.eq_of_pairwise (le := fun a b : Int => a ≤ b) (fun a b _ _ h1 h2 => by omega) hw ?_ (hp.trans (List.mergeSort_perm _ _).symm)
      have q := List.pairwise_mergeSort (le := fun a b : Int => decide (a ≤ b)) (fun a b c h1 h2 => by
        simp only [decide_eq_true_eq] at h1 h2 ⊢
        omega) (fun a b => by
        simp only [Bool.or_eq_true, decide_eq_true_eq]
        omega) (kvs.map (·.1))
      exact q.imp fun {a b} h => of_decide_eq_true h
    rw [e]
    exact k p' _ (x1.trans (Ex.new hn)) (x1.free hn) (.lst upd_same (Owns.sh (Reps.of_ints _)))
  | _ => cases hd
/-- d[k] = v -/
theorem pds_put (i : Nat) (hr : X.A.units + 1 < cLine) (hb : PDE X ca Γ b mb fb) (he : PDE X ca Γ e .s fe) (hm : Γ[i]? = some .f := by rfl) (hi : X.N[i]? = some x := by rfl) (hv : Vis X.env.scope x := by first | exact Or.inl rfl | exact Or.inr (Or.inl rfl) | exact Or.inr (Or.inr rfl)) (hd : (x == ("__debug__" : Str)) = false := by decide) (hcd : (x == ("__classdict__" : Str)) = false := by decide)
    (hs : swapsWith e (some (.Subscript (.Name x p) b pos')) pos.line X.env = pure false := by rfl) : PDS X ca W J Γ (.Assign [.Subscript (.Name x p) b pos'] e pos) Γ (dPut i fb fe) := by
  obtain ⟨t, p1, q1⟩ := hb
  obtain ⟨u, p2, q2⟩ := he
  refine ⟨_, ps_dput hr (pe_var (i := i) hi hv hd hcd) p1 p2 hs, fun B S0 M L σ H ρ N E pp => ?_⟩
  unfold dPut at pp
  cases h1 : fe ρ with
  | none => rw [h1] at pp; exact pp.elim
  | some d =>
    cases h2 : ρ[i]? with
    | none => rw [h1, h2] at pp; exact pp.elim
    | some a0 =>
      cases h3 : fb ρ with
      | none => rw [h1, h2, h3] at pp; exact pp.elim
      | some k0 =>
        rw [h1, h2, h3] at pp
        have pp' : Post ⟨X.K, ca⟩ B S0 M J W Γ N (match putD' a0 k0 d with | some a' => .nx (ρ.set i a') | none => .bad) := pp
        cases h4 : putD' a0 k0 d with
        | none => rw [h4] at pp'; exact pp'.elim
        | some a' =>
          rw [h4] at pp'
          refine q2 B S0 M L σ H ρ E d h1 _ fun v H1 x1 rv => ?_
          have E1 := E.ext x1
          obtain ⟨q, d0, g1, g2, g3, _⟩ := slot_f E1 hm
          rw [h2] at g3
          cases g3
          refine ⟨_, g2, ?_⟩
          refine q1 B S0 M L σ H1 ρ E1 k0 h3 _ fun w H2 x2 rk => ?_
          have E2 := E1.ext x2
          obtain ⟨q', d1, g1', g2', g3', ho⟩ := slot_f E2 hm
          rw [g2] at g2'
          cases g2'
          rw [h2] at g3'
          cases g3'
          have rv2 : Rep ⟨X.K, ca⟩ (hide (Msk M L) H2) v d := VR.mono (m := .s) (B := B) (M := M) (L := L) x2 rv
          cases a0 with
          | dI kvs =>
            cases k0 with
            | int n =>
              obtain ⟨hlen, e⟩ := ite_some' (show (if kvs.length < 100000 then some (D.dI (putD kvs n d)) else none) = some a' from h4)
              cases e
              obtain ⟨es, j1, j2⟩ := ho.dI_inv
              have ew := (rk.rep E2.eb).int_inv
              subst ew
              refine ⟨q, _, rfl, DPut.k (k := eI n) j1 (Nat.lt_of_lt_of_le (by rw [j2.length]; exact hlen) (by decide : 100000 ≤ sizeLine)), ?_⟩
              exact pp' L σ _ (E2.reown hm g1 g2 True.intro fun S eS => ((j2.put eI_inj n rv2).mono eS).ownI upd_same)
            | _ => cases h4
          | dT kvs =>
            obtain ⟨ns, e1, h4⟩ := bind_some h4
            obtain ⟨hlen, e⟩ := ite_some' h4
            cases e
            obtain ⟨es, j1, j2⟩ := ho.dT_inv
            obtain ⟨bk, rfl, hk⟩ := (rk.rep E2.eb).key e1
            refine ⟨q, _, rfl, DPut.t j1 hk (Nat.lt_of_lt_of_le (by rw [j2.length]; exact hlen) (by decide : 100000 ≤ sizeLine)), ?_⟩
            exact pp' L σ _ (E2.reown hm g1 g2 True.intro fun S eS => ((j2.put eT_inj ns rv2).mono eS).ownT upd_same)
          | _ => cases h4
end
/-! ### for .. in o.m(l.pop()) -/
def PDIE (X : Cx) (ca : Cl → Addr) (Γ : List Md) (tg iter : Expr) (f : List D → Option (List D × List D)) : Prop := ∃ wi, PI X tg iter wi ∧
  ∀ (B S0 : Hp) (M : Mz) (L : List (List Addr)) (σ : L2.St) (H : Hp) (ρ : List D), EnvR ⟨X.K, ca⟩ B S0 M Γ L σ H ρ → ∀ ds ρ', f ρ = some (ds, ρ') → ∀ R : It → Hp → Prop,
    (∀ J H', EnvR ⟨X.K, ca⟩ B S0 M Γ L σ H' ρ' → Walks ⟨X.K, ca⟩ (hide (Msk M L) H') J ds → R J H') → wi σ H R
def forEK (o : Option (List D × List D)) (u : D → List D → Option (List D)) (F : SFn) : Out := match o with
  | some (ds, ρ') => forD u F ds ρ'
  | none => .bad
def dForE (f : List D → Option (List D × List D)) (u : D → List D → Option (List D)) (F : SFn) : SFn := fun ρ => forEK (f ρ) u F
def popK (cl : Cl) (G : List D → Rs) (i : Nat) (o x : Option D) (ρ : List D) : Option (List D × List D) := match o, x with
  | some o, some (.lst ds) => if isObj cl o = true then (ds.getLast?).bind fun d => (okR (G [o, d])).bind fun r => (lstOf r).map fun es => (es, ρ.set i (.lst ds.dropLast)) else none
  | _, _ => none
def dMethPop (cl : Cl) (G : List D → Rs) (i : Nat) (fo : DFn) : List D → Option (List D × List D) := fun ρ => popK cl G i (fo ρ) ρ[i]? ρ
section
variable {X : Cx} {ca : Cl → Addr} {W : WX} {J : Jd} {Γ Γ1 Γ0 : List Md} {pos p apos cpos pos' apos2 cpos2 : Pos} {o e : Expr} {fo : DFn} {x m : Str} {F : SFn} {is : List Nat} {k : Nat} {f : Addr} {fd : FuncData} {ps : List Str} {G : List D → Rs}
theorem Reps.dropLast {c : Ct} {S : Hp} {vs : List V} {ds : List D} (r : Reps c S vs ds) : Reps c S vs.dropLast ds.dropLast := by
  rw [List.dropLast_eq_take, List.dropLast_eq_take, r.length]
  exact r.take _
theorem pds_forE {tg iter : Expr} {body : List Stmt} {fi : List D → Option (List D × List D)} {u : D → List D → Option (List D)} (hp : PassesOwn (model X.prog X.w) X.A X.env X.xe) (hi : PDIE X ca Γ tg iter fi) (hg : PDG X ca true Γ tg Γ1 is u)
    (hb : PDSs X ca W { J with Γb := Γ, Γc := Γ } Γ1 body Γ F) (hc : X.calm = true := by rfl) (hs : ∀ x, foldedSetIterable iter X.env x = pure x := by intro _; rfl) : PDS X ca W J Γ (.For tg iter body [] pos) Γ (dForE fi u F) := by
  obtain ⟨wi, p1, q1⟩ := hi
  obtain ⟨g, p2, q2⟩ := hg
  obtain ⟨tb, p3, q3⟩ := hb
  refine ⟨_, ps_for hp hc p1 p2 p3 hs, fun B S0 M L σ H ρ N E pp => ?_⟩
  unfold dForE at pp
  cases hd : fi ρ with
  | none => rw [hd] at pp; exact pp.elim
  | some q =>
    obtain ⟨ds, ρ1⟩ := q
    rw [hd] at pp
    have pp' : Post ⟨X.K, ca⟩ B S0 M J W Γ N (forD u F ds ρ1) := pp
    refine q1 B S0 M L σ H ρ E ds ρ1 hd _ fun Jt H1 E1 ⟨n, G, Y, hn, wk, hG, hY⟩ => ?_
    have hS01 : Ex S0 (hide (Msk M L) H1) := E1.es
    refine for_it (D := N) (n := n) wk (fun i σ H => ∃ L' ρ', EnvR ⟨X.K, ca⟩ B (hide (Msk M L) H1) M Γ L' σ H ρ' ∧ Post ⟨X.K, ca⟩ B S0 M J W Γ N (forD u F (ds.drop i) ρ')) ⟨L, ρ1, ⟨E1.eb, E1.hm, Ex.refl _, E1.ap, E1.hl, E1.sl⟩, pp'⟩ (fun i σ H _ ⟨L', ρ', E, _⟩ => hG H (E.es.trans hide_ex)) ?_ ?_
    · rintro i v σ H' H'' hi ⟨L', ρ', E', post⟩ y
      obtain ⟨rfl, d, h1, h2⟩ := hY i H' v H'' hi (E'.es.trans hide_ex) y
      have hdr : ds.drop i = d :: ds.drop (i + 1) := by
        obtain ⟨hlt, e⟩ := List.getElem?_eq_some_iff.mp h1
        rw [List.drop_eq_getElem_cons hlt, e]
      rw [hdr, forD] at post
      cases hu : u d ρ' with
      | none => rw [hu] at post; exact post.elim
      | some ρ2 =>
        rw [hu] at post
        have rv : VR ⟨X.K, ca⟩ .s B M L' H'' v d := h2.mono E'.es
        refine q2 B _ M L' σ H'' ρ' E' v d ρ2 rv hu _ fun σ2 _ E2 => ?_
        exact q3 B _ M L' σ2 H'' ρ2 _ E2 (Post.turn hS01 post fun ρ2 L3 σ3 H3 E3 p3 => ⟨L3, ρ2, E3, p3⟩)
    · rintro σ H' ⟨L', ρ', E', post⟩
      rw [hn, List.drop_length, forD] at post
      exact post L' σ H' (E'.base hS01)
theorem pdie_methpop {pl : Sem Bool} {tg : Expr} (i : Nat) (cl : Cl) (F : FnOk X.prog X.w X.K X.mg X.base (L2.CX X.prog X.w) k f fd ps (SpD ⟨X.K, ca⟩ [.s, .s] false G)) (hk : ClsOk X.K ca cl) (hmt : Meth X.K (ca cl) m f) (hr : Room k X.A) (hb : Binds X.K fd ps [])
    (ho : PDE X ca Γ o .s fo) (hno : m ∉ flds cl := by decide +kernel) (hm : Γ[i]? = some .f := by rfl) (hi : X.N[i]? = some x := by rfl) (hv : Vis X.env.scope x := by first | exact Or.inl rfl | exact Or.inr (Or.inl rfl) | exact Or.inr (Or.inr rfl)) (hd : (x == ("__debug__" : Str)) = false := by decide) (hcd : (x == ("__classdict__" : Str)) = false := by decide)
    (hbase : attributeBase (.Name x p) "pop" X.env (eval (.Name x p) X.env) = eval (.Name x p) X.env := by rfl) (hline : (apos2.endLine == cpos2.line) = true := by rfl)
    (hst : starEach [.Call (.Attribute (.Name x p) "pop" apos2) [] [] cpos2] X.env = (false, eval (.Call (.Attribute (.Name x p) "pop" apos2) [] [] cpos2) X.env) :: starEach [] X.env := by rfl) (hpl : (backTo pos (starEach [] X.env)).any (·.1) = false := by rfl)
    (ht : eval (.Call (.Attribute o m apos) [.Call (.Attribute (.Name x p) "pop" apos2) [] [] cpos2] [] pos) X.env = (do
      let ov ← eval o X.env
      standAt apos.atName
      let (f, first) ← holding [ov] (getMethod ov m pl)
      callWith pos f first (backTo pos (starEach [.Call (.Attribute (.Name x p) "pop" apos2) [] [] cpos2] X.env)) (backToKw pos (keywordEach [] X.env))) := by rfl) :
    PDIE X ca Γ tg (.Call (.Attribute o m apos) [.Call (.Attribute (.Name x p) "pop" apos2) [] [] cpos2] [] pos) (dMethPop cl G i fo) := by
  obtain ⟨t0, p0, q0⟩ := ho
  refine ⟨_, pi_list (pe_meth p0 hk.cls hmt F hr hb .nil passL (pa_cons (pe_bm0 PySem.F.plainAttrs_list PySem.F.slot_list_pop PySem.F.type_list_pop mt_pop (pe_var (i := i) hi hv hd hcd) hbase hline) pa_nil hst) hst hpl ht), fun B S0 M L σ H ρ E ds ρ' hd Q kk => ?_⟩
  unfold dMethPop popK at hd
  cases h1 : fo ρ with
  | none => rw [h1] at hd; cases hd
  | some od =>
    cases h2 : ρ[i]? with
    | none => rw [h1, h2] at hd; cases hd
    | some xd =>
      rw [h1, h2] at hd
      cases xd with
      | lst xs =>
        obtain ⟨hob, hd⟩ := ite_some' (show (if isObj cl od = true then (xs.getLast?).bind fun d => (okR (G [od, d])).bind fun r => (lstOf r).map fun es => (es, ρ.set i (.lst xs.dropLast)) else none) = some (ds, ρ') from hd)
        obtain ⟨d, e1, hd⟩ := bind_some hd
        obtain ⟨r, e2, hd⟩ := bind_some hd
        obtain ⟨es, e3, hd⟩ := Option.map_eq_some_iff.mp hd
        cases hd
        refine q0 B S0 M L σ H ρ E od h1 _ fun v H1 x1 r0 => ?_
        have E1 := E.ext x1
        have r0' : Rep ⟨X.K, ca⟩ (hide (Msk M L) H1) v od := r0
        obtain ⟨a, dx, vs, ex, ha⟩ := isObj_rep (r0'.mono hide_ex) hob
        refine ⟨a, dx, _, ex, ha, zip_lookup_none hno, ?_⟩
        obtain ⟨q, d0, g1, g2, g3, g4⟩ := slot_f E1 hm
        rw [h2] at g3
        cases g3
        obtain ⟨ys, j1, j2⟩ := g4.flat_lst
        refine ⟨_, g2, .inl ⟨rfl, ys, SqL.of j1⟩, ?_⟩
        have e1' : xs[ys.length - 1]? = some d := by
          rw [j2.length, ← List.getLast?_eq_getElem?]
          exact e1
        obtain ⟨y, j3, j4⟩ := j2.getD e1'
        refine ⟨q, ys, y, rfl, rfl, j1, j3, ?_⟩
        have E2 := E1.relist hm g1 g2 j2.dropLast
        have hh : Ex (hide (Msk M L) H1) (hide (Msk M L) (upd H1 q (.lst ys.dropLast))) := hide_le fun b u h z => ⟨h, (upd_ne fun e => h (.inr ⟨[q], List.mem_of_getElem? g1, by rw [e]; exact .head _⟩)).trans z⟩
        refine sp_ok E2 (ms := [.s, .s]) rfl (.cons (r0'.mono hh) (.cons (j4.mono hh) .nil)) e2 fun z H' x3 res => ?_
        have E3 := E2.ext x3
        have rz : Rep ⟨X.K, ca⟩ (hide (Msk M L) H') z r   := res_back (B := B) res
        obtain ⟨p', zs, rfl, hs, rs⟩ := lst_in rz e3
        exact ⟨p', rfl, ⟨zs, hs H' hide_ex⟩, kk _ H' E3 (walks_list (c := ⟨X.K, ca⟩) hs rs)⟩
      | _ => cases hd
end
end DL

/-! DL: values that are new or None; list(range(..)). -/
namespace DL
open PySem PySem.Spec PyProof.Rows L2
/-- a new object of one's own, or None -/
def DM (c : Ct) (Γ : List Md) (t : TE) (f : DFn) : Prop :=
  ∀ (B S0 : Hp) (M : Mz) (L : List (List Addr)) (σ : L2.St) (H : Hp) (ρ : List D), EnvR c B S0 M Γ L σ H ρ → ∀ d, f ρ = some d → ∀ Q : VK, (∀ H', Ex H H' → d = .non → Q .non H') →
    (∀ p H', Ex H H' → H p = none → isNon d = false → Own c (hide (fun a => Msk M L a ∨ a = p) H') H' [p] (.ref p) d → Q (.ref p) H') → t σ H Q
def PDM (X : Cx) (ca : Cl → Addr) (Γ : List Md) (e : Expr) (f : DFn) : Prop := ∃ t, PE X e t ∧ DM ⟨X.K, ca⟩ Γ t f
theorem res_may {c : Ct} {H H' : Hp} {M : Mz} {L : List (List Addr)} {v : V} {d : D} {Q : VK} (h : ResR c H ⟨Msk M L, M.z⟩ true H' v d) (q0 : d = .non → Q .non H') (q : ∀ p, H p = none → isNon d = false → Own c (hide (fun a => Msk M L a ∨ a = p) H') H' [p] (.ref p) d → Q (.ref p) H') : Q v H' := by
  rcases h with ⟨rfl, e⟩ | ⟨p, rfl, h1, _, h3⟩
  · exact q0 e
  · exact q p h1 (by cases h3 <;> first | rfl | (rename_i r; cases r)) h3
def setmK (i : Nat) (o : Option D) (F1 F2 : SFn) (ρ : List D) : Out := match o with
  | some d => if isNon d = true then F2 (ρ.set i d) else F1 (ρ.set i d)
  | none => .bad
def dSetM (i : Nat) (f : DFn) (F1 F2 : SFn) : SFn := fun ρ => setmK i (f ρ) F1 F2 ρ
def gListRg (d : D) : Option D := match d with
  | .int n => if 0 ≤ n ∧ n ≤ 100000 then some (.lst (rng 0 n.toNat)) else none
  | _ => none
section
variable {X : Cx} {ca : Cl → Addr} {W : WX} {J : Jd} {Γ Γ' Γ0 : List Md} {k : Nat} {f : Addr} {fd : FuncData} {ps : List Str} {G : List D → Rs} {dvs : List V} {ds : List Value} {dfl : List D} {x m : Str} {p p2 q pos apos pos' spos : Pos} {e o a : Expr} {es : List Expr} {ms : List Vm} {fs : List D → Option (List D)} {mo ma : Vm} {fo fa fe : DFn} {rest : List Stmt} {F1 F2 : SFn}
theorem pdm_call (F : FnOk X.prog X.w X.K X.mg X.base (L2.CX X.prog X.w) k f fd ps (SpD ⟨X.K, ca⟩ Γ0 true G)) (hr : Room k X.A) (hm : X.mg x = some (.ref f)) (hk : PySem.W.keepIn X.K (.ref f) = true) (hb : Binds X.K fd ps ds) (hd : Vals dvs ds) (hi : Ims dvs dfl)
    (ha : PDA X ca Γ (e :: es) ms fs) (hc : cmps (ms ++ List.replicate dfl.length .s) Γ0 = true := by decide) (hg : Gl X x := by rfl) (hdb : (x == ("__debug__" : Str)) = false := by decide) (he : starEach (e :: es) X.env = (false, eval e X.env) :: starEach es X.env := by rfl) (hpl : (backTo pos (starEach es X.env)).any (·.1) = false := by rfl) :
    PDM X ca Γ (.Call (.Name x p) (e :: es) [] pos) (dFun G fs dfl) := by
  obtain ⟨t, pa, qa⟩ := ha
  refine ⟨_, pe_call F hr hg hm hk hb hd passL pa hdb he hpl, fun B S0 M L σ H ρ E d hd Q k0 kk => ?_⟩
  obtain ⟨as, e1, hd⟩ := bind_some hd
  refine qa B S0 M L σ H ρ E as e1 _ fun vs H1 x1 r => ?_
  exact sp_ok (E.ext x1) hc (r.app hi.vrs) hd fun v H' x2 res => res_may res (fun e => k0 H' (x1.trans x2) e) fun a hn hz ho => kk a H' (x1.trans x2) (x1.free hn) hz ho
theorem pdm_meth {pl : Sem Bool} (cl : Cl) (F : FnOk X.prog X.w X.K X.mg X.base (L2.CX X.prog X.w) k f fd ps (SpD ⟨X.K, ca⟩ Γ0 true G)) (hk : ClsOk X.K ca cl) (hmt : Meth X.K (ca cl) m f) (hr : Room k X.A) (hb : Binds X.K fd ps ds) (hd : Vals dvs ds) (hi : Ims dvs dfl)
    (ho : PDE X ca Γ o mo fo) (ha : PDA X ca Γ (e :: es) ms fs) (hc : cmps (mo :: (ms ++ List.replicate dfl.length .s)) Γ0 = true := by decide) (hno : m ∉ flds cl := by decide +kernel)
    (hst : starEach (e :: es) X.env = (false, eval e X.env) :: starEach es X.env := by rfl) (hpl : (backTo pos (starEach es X.env)).any (·.1) = false := by rfl)
    (ht : eval (.Call (.Attribute o m apos) (e :: es) [] pos) X.env = (do
      let ov ← eval o X.env
      standAt apos.atName
      let (f, first) ← holding [ov] (getMethod ov m pl)
      callWith pos f first (backTo pos (starEach (e :: es) X.env)) (backToKw pos (keywordEach [] X.env))) := by rfl) :
    PDM X ca Γ (.Call (.Attribute o m apos) (e :: es) [] pos) (dMeth cl G fo fs dfl) := by
  obtain ⟨t0, p0, q0⟩ := ho
  obtain ⟨t, pa, q⟩ := ha
  exact ⟨_, pe_meth p0 hk.cls hmt F hr hb hd passL pa hst hpl ht, fun B S0 M L σ H ρ E d hd Q k0 kk => DE.meth (c := ⟨X.K, ca⟩) q0 q hno hi hc E hd fun H1 v H' x1 x2 res => res_may res (fun e => k0 H' (x1.trans x2) e) fun a hn hz ho => kk a H' (x1.trans x2) (x1.free hn) hz ho⟩
theorem pdm_meth0 {pl : Sem Bool} (cl : Cl) (F : FnOk X.prog X.w X.K X.mg X.base (L2.CX X.prog X.w) k f fd ps (SpD ⟨X.K, ca⟩ Γ0 true G)) (hk : ClsOk X.K ca cl) (hmt : Meth X.K (ca cl) m f) (hr : Room k X.A) (hb : Binds X.K fd ps ds) (hd : Vals dvs ds) (hi : Ims dvs dfl)
    (ho : PDE X ca Γ o mo fo) (hc : cmps (mo :: ([] ++ List.replicate dfl.length .s)) Γ0 = true := by decide) (hno : m ∉ flds cl := by decide +kernel)
    (ht : eval (.Call (.Attribute o m apos) [] [] pos) X.env = (do
      let ov ← eval o X.env
      standAt apos.atName
      let (f, first) ← holding [ov] (getMethod ov m pl)
      callWith pos f first (backTo pos (starEach [] X.env)) (backToKw pos (keywordEach [] X.env))) := by rfl) :
    PDM X ca Γ (.Call (.Attribute o m apos) [] [] pos) (dMeth cl G fo dNilA dfl) := by
  obtain ⟨t0, p0, q0⟩ := ho
  exact ⟨_, pe_meth0 p0 hk.cls hmt F hr hb hd passL ht, fun B S0 M L σ H ρ E d hd Q k0 kk => DE.meth (c := ⟨X.K, ca⟩) (ms := []) q0 (fun B S0 M L σ H ρ E ds hd Q q => by cases hd; exact q [] H (Ex.refl _) .nil) hno hi hc E hd fun H1 v H' x1 x2 res => res_may res (fun e => k0 H' (x1.trans x2) e) fun a hn hz ho => kk a H' (x1.trans x2) (x1.free hn) hz ho⟩
/-- as a shared value -/
theorem pdm_s (h : PDM X ca Γ e fe) : PDE X ca Γ e .s fe := by
  obtain ⟨t, p, q⟩ := h
  refine ⟨t, p, fun B S0 M L σ H ρ E d hd Q k => q B S0 M L σ H ρ E d hd Q (fun H' x e => ?_) fun p' H' x hn _ ho => ?_⟩
  · subst e
    exact k .non H' x .non
  · refine k _ H' x (ho.rep (hide_le fun a o h q => ⟨fun z => h (.inl z), q⟩) fun a ha o h => hide_in (fun z => ?_) h)
    have e : a = p' := by simpa using ha
    subst e
    rcases z with z | z
    · exact E.noM hn z
    · exact E.noL hn z
/-- x = e, e new or None: the rest in both cases -/
theorem pdss_setm (i : Nat) (he : PDM X ca Γ e fe) (h1 : PDSs X ca W J (Γ.set i .f) rest Γ' F1) (h2 : PDSs X ca W J (Γ.set i .s) rest Γ' F2) (hN : X.N.Nodup) (hi : X.N[i]? = some x := by rfl) (hx : Loc X.env.scope x := by first | exact Or.inl rfl | exact Or.inr rfl) (hs : swapsWith e (some (.Name x pos')) pos.line X.env = pure false := by rfl) (hf : X.fn x = true ∨ X.env.scope.names.lookup x = some .local := by first | exact .inl rfl | exact .inr rfl) :
    PDSs X ca W J Γ (.Assign [.Name x pos'] e pos :: rest) Γ' (dSetM i fe F1 F2) := by
  obtain ⟨t, p, q⟩ := he
  obtain ⟨t1, p1, q1⟩ := h1
  obtain ⟨t2, p2, q2⟩ := h2
  have pj : PSs X rest (fun D σ H => t1 D σ H ∨ t2 D σ H) := ⟨fun pins s σ H D I h => h.elim (p1.run pins s σ H D I) (p2.run pins s σ H D I)⟩
  refine ⟨_, pss_cons (ps_set hN hi hx p hs hf) pj, fun B S0 M L σ H ρ N E pp => ?_⟩
  unfold dSetM at pp
  cases hd : fe ρ with
  | none => rw [hd] at pp; exact pp.elim
  | some d =>
    rw [hd] at pp
    have pp' : Post ⟨X.K, ca⟩ B S0 M J W Γ' N (if isNon d = true then F2 (ρ.set i d) else F1 (ρ.set i d)) := pp
    refine q B S0 M L σ H ρ E d hd _ (fun H' x1 e => ?_) fun p' H' x1 hn hz ho => ?_
    · subst e
      refine .inr (q2 B S0 M _ _ H' _ _ ((E.ext x1).put0 (m' := .s) (d' := .non) (Ex.refl _) i ⟨rfl, .non, rfl, .non⟩) ?_)
      exact pp'
    · rw [hz] at pp'
      refine .inl (q1 B S0 M _ _ H' _ _ (E.put (m' := .f) (x' := some (.ref p')) (d' := d) x1 i (l' := [p']) (fun a ha => ?_) (fun a ha => ho.there a ha) ⟨p', rfl, rfl, ho.mono (hide_le fun a u h q => ⟨fun z => h ?_, q⟩) fun _ _ _ h => h⟩) pp')
      · have e : a = p' := by simpa using ha
        rw [e]
        exact hn
      · rcases z with z | z
        · exact .inl (.inl z)
        · rcases z.set with z | z
          · exact .inl (.inr z)
          · exact .inr (by simpa using z)
/-- list(range(n)) -/
theorem pd_listRg (ha : PDE X ca Γ a ma fa) (h1 : X.mg "list" = none) (h2 : X.mg "range" = none) (hg : Gl X "list" := by rfl) (hg2 : Gl X "range" := by rfl) (hc : X.calm = true := by rfl)
    (hs : starEach [a] X.env = [(false, eval a X.env)] := by rfl) (na : starEach [.Call (.Name "range" p2) [a] [] q] X.env = (false, eval (.Call (.Name "range" p2) [a] [] q) X.env) :: starEach [] X.env := by rfl) :
    PDN X ca Γ (.Call (.Name "list" p) [.Call (.Name "range" p2) [a] [] q] [] pos) (d1 gListRg fa) := by
  obtain ⟨t, pa, qa⟩ := ha
  refine ⟨_, pe_listRg hc hg h1 (prg_1 hg2 h2 pa hs) na, fun B S0 M L σ H ρ E d hd Q k => ?_⟩
  obtain ⟨x, e1, hd⟩ := bind_some hd
  cases x with
  | int n =>
    obtain ⟨hn, hd⟩ := ite_some' (show (if 0 ≤ n ∧ n ≤ 100000 then some (D.lst (rng 0 n.toNat)) else none) = some d from hd)
    cases hd
    refine qa B S0 M L σ H ρ E _ e1 _ fun v H1 x1 r1 => ?_
    have ev := (r1.rep (E.eb.trans x1)).int_inv
    refine ⟨n, ev, RgOk.of_le (Int.le_refl 0) (by omega) (by omega) hn.1, fun q' hq => ?_⟩
    refine k q' _ (x1.trans (Ex.new hq)) (x1.free hq) (.lst upd_same (Owns.sh ?_))
    have e1 : rgV 0 n = ((List.range n.toNat).map fun (i : Nat) => (0 : Int) + i).map V.int := by
      unfold rgV
      rw [Int.sub_zero, List.map_map]
      rfl
    have e2 : rng 0 n.toNat = ((List.range n.toNat).map fun (i : Nat) => (0 : Int) + i).map D.int := by
      unfold rng
      rw [List.map_map]
      rfl
    rw [e1, e2]
    exact Reps.of_ints _
  | _ => cases hd
end
end DL

/-! DL: tuples joined, minus. -/
namespace DL
open PySem PySem.Spec PyProof.Rows L2
def gNeg : D → Option D
  | .int i => some (.int (-i))
  | _ => none
def gCatT (a b : D) : Option D := match a, b with
  | .tup xs, .tup ys => if xs.length + ys.length ≤ 100000 then some (.tup (xs ++ ys)) else none
  | _, _ => none
section
variable {X : Cx} {ca : Cl → Addr} {Γ : List Md} {pos p : Pos} {a b : Expr} {ma mb : Vm} {fa fb : DFn}
theorem pd_neg (ha : PDE X ca Γ a ma fa) : PDE X ca Γ (.UnaryOp .USub a pos) .s (d1 gNeg fa) := by
  obtain ⟨t, pa, qa⟩ := ha
  refine ⟨_, pe_un un_neg pa, fun B S0 M L σ H ρ E d hd Q k => ?_⟩
  obtain ⟨x, e1, hd⟩ := bind_some hd
  cases x with
  | int n =>
    cases hd
    refine qa B S0 M L σ H ρ E _ e1 _ fun v H1 x1 r1 => ?_
    exact ⟨n, (r1.rep (E.eb.trans x1)).int_inv, k _ H1 x1 (.int _)⟩
  | _ => cases hd
theorem Rep.tup_inv {c : Ct} {S : Hp} {v : V} {ds : List D} (h : Rep c S v (.tup ds)) : ∃ a xs, v = .ref a ∧ S a = some (.tup xs) ∧ Reps c S xs ds := by
  generalize e : D.tup ds = d at h
  cases h with
  | tup h r => cases e; exact ⟨_, _, rfl, h, r⟩
  | _ => cases e
theorem pd_catT (ha : PDE X ca Γ a .s fa) (hb : PDE X ca Γ b .s fb) : PDE X ca Γ (.BinOp a .Add b pos) .s (d2 gCatT fa fb) := by
  obtain ⟨t, pa, qa⟩ := ha
  obtain ⟨u, pb, qb⟩ := hb
  refine ⟨_, pe_op op_catA pa pb, fun B S0 M L σ H ρ E d hd Q k => ?_⟩
  obtain ⟨x, e1, hd⟩ := bind_some hd
  obtain ⟨y, e2, hd⟩ := bind_some hd
  cases x with
  | tup xs =>
    cases y with
    | tup ys =>
      obtain ⟨hl, hd⟩ := ite_some' (show (if xs.length + ys.length ≤ 100000 then some (D.tup (xs ++ ys)) else none) = some d from hd)
      cases hd
      refine qa B S0 M L σ H ρ E _ e1 _ fun v H1 x1 r1 => ?_
      refine qb B S0 M L σ H1 ρ (E.ext x1) _ e2 _ fun w H2 x2 r2 => ?_
      have E2 := (E.ext x1).ext x2
      have r1' : Rep ⟨X.K, ca⟩ (hide (Msk M L) H2) v (.tup xs) := VR.mono (m := .s) (B := B) (M := M) (L := L) x2 r1
      have r2' : Rep ⟨X.K, ca⟩ (hide (Msk M L) H2) w (.tup ys) := r2
      obtain ⟨p, vs, e3, h1, s1⟩ := r1'.tup_inv
      obtain ⟨q, ws, e4, h2, s2⟩ := r2'.tup_inv
      refine ⟨p, q, vs, ws, e3, e4, SqT.of (hide_of h1).2, SqT.of (hide_of h2).2, sz5 (by rw [s1.length, s2.length]; exact hl), fun e => ?_, fun _ e => ?_, fun _ _ p' hp => ?_⟩
      · subst e
        cases s1
        exact k _ H2 (x1.trans x2) (e4 ▸ r2')
      · subst e
        cases s2
        have k' := k (.ref p) H2 (x1.trans x2)
        rw [List.append_nil] at k'
        exact k' (e3 ▸ r1')
      · refine k _ _ ((x1.trans x2).trans (Ex.new hp)) ?_
        refine .tup (hide_in (fun z => ?_) upd_same) (reps_upd hp (s1.append s2))
        rcases z with z | z
        · exact E2.noM hp z
        · exact E2.noL hp z
    | _ => cases hd
  | _ => cases hd
end
end DL

/-! DL: list(reversed(l)). -/
namespace DL
open PySem PySem.Spec PyProof.Rows L2
section
variable {prog : Program} {w : World} {A : Around} {E : Value → Shared → Prop} {s : Shared}
theorem list_ext_rev {R : Result → Shared → Prop} {it l S : Addr} {items : Array Value} (hh : A.handled = none) (hit : s.heap.IsRevIter it l ((items.size : Int) - 1)) (hl : s.heap.IsList l items) (hne : l ≠ it) (hSi : S ≠ it) (hSl : S ≠ l) (hn : items.size ≤ sizeLine) (res : Value) (c₀ : Nat)
    (hS : s.heap.get? S = some { cls := .type "list", data := .seq #[] c₀ })
    (hR : ∀ h' tk acc' c', (∀ b o, b ≠ S → b ≠ it → s.heap.get? b = some o → h'.get? b = some o) → h'.get? S = some { cls := .type "list", dict := none, data := .seq acc' c', slots := #[] } →
      ItemsOf (fun i v => items[items.size - 1 - i]? = some v) acc' items.size → R (.ok (.ret res)) { s with heap := h', toks := tk }) :
    wpAny (model prog w) A.in1 (Builtin.List.listExtendWith (.ref S) (.ref it) res)
      (fun fin s' => match fin with | .done f => R (.ok f) s' | .again c' => c'.quiet = true ∧ codeAny (model prog w) A c' R s') (fun e s' => R (.error e) s') s := by
  have W := (Walks.listRev (prog := prog) (w := w) (A := A.in1) hh it l hne items).toS
  have hT : s.TypeIs (.ref it) "list_reverseiterator" := hit.typeIs
  have h1 : Builtin.List.listSameRef (.ref S) (.ref it) = false := by simp [Builtin.List.listSameRef, hSi]
  have hSf : S ∉ [it, l] := by
    simp only [List.mem_cons, List.not_mem_nil, or_false, not_or]
    exact ⟨hSi, hSl⟩
  unfold Builtin.List.listExtendWith
  refine wpAny_bind (wpAny_typeOf hT ?_)
  rw [if_neg (by rw [h1]; decide)]
  refine wpAny_bind (wpAny_pyIter_revIter hit ?_)
  refine wpAny_bind (wpAny_holding ?_)
  unfold Builtin.List.listLengthHint
  refine wpAny_bind (wpAny_specialOf hT RT.nolen_lri ?_)
  show wpAny _ A.in1 (specialOf (Value.ref it) (Str.ofString "__length_hint__") >>= _) _ _ _
  refine wpAny_bind (wpAny_specialOf hT RT.hint_lri ?_)
  generalize hid : ("list_reverseiterator.__length_hint__" : String) = id0
  wp_delta
  rw [show splitId id0 = some ("list_reverseiterator", "__length_hint__") from by subst hid; decide +kernel]
  subst hid
  refine wpAny_bind (wpAny_isInstance (b := true) hT (by rw [isSubtype_type]; kernel_rfl) ?_)
  refine wpAny_pure ?_
  rw [if_neg (by decide)]
  have e0 : ((items.size : Nat) : Int) - 1 - ((0 : Nat) : Int) = (items.size : Int) - 1 := by omega
  refine wpAny_pure ⟨plainId_quiet F.plain_extend_loop _, codeAny_extend_loopS W hn S hSf res items.size 0 _ #[] c₀ rfl (Nat.zero_le _) ⟨Nat.zero_le _, by rw [e0]; exact hit, hl⟩ hS (ItemsOf.nil _) fun s' acc' c' hm hS' hacc => ?_⟩
  rw [Moved.eq_with hm]
  refine hR s'.heap s'.toks acc' c' (fun b o hb1 hb2 e => hm.heap b o (fun hmem => ?_) e) hS' hacc
  rcases List.mem_cons.mp hmem with e' | hmem
  · exact hb1 e'
  · exact hb2 (List.mem_singleton.mp hmem)
theorem call_list_rev {it l : Addr} {items : Array Value} {Q : Value → Shared → Prop} (hh : A.handled = none) (hit : s.heap.IsRevIter it l ((items.size : Int) - 1)) (hl : s.heap.IsList l items) (hne : l ≠ it) (hn : items.size ≤ sizeLine)
    (hQ : ∀ (h' : Heap) (tk : Nat) (acc : Array Value) (c : Nat), (∀ b o, b ≠ it → s.heap.get? b = some o → h'.get? b = some o) → h'.get? s.heap.objs.size = some { cls := .type "list", dict := none, data := .seq acc c, slots := #[] } →
      ItemsOf (fun i v => items[items.size - 1 - i]? = some v) acc items.size → Q (.ref s.heap.objs.size) { s with heap := h', toks := tk }) :
    wpAny (model prog w) A (call (.type "list") [.ref it]) Q E s := by
  refine callType_codes (Q₁ := fun obj s₁ => obj = .ref s.heap.objs.size ∧ s₁ = { s with heap := s.heap.push { cls := .type "list", data := .seq #[] } }) F.called_list (F.typeCall_list_1 _) F.entry_list_init (code_list_new _ ⟨rfl, rfl⟩) fun obj s₁ h₁ => ?_
  obtain ⟨rfl, rfl⟩ := h₁
  obtain ⟨oi, hoi, _⟩ := id hit
  obtain ⟨ol, hol, _⟩ := id hl
  have hSi : s.heap.objs.size ≠ it := Nat.ne_of_gt (Heap.lt_size hoi)
  have hSl : s.heap.objs.size ≠ l := Nat.ne_of_gt (Heap.lt_size hol)
  have hS : (s.heap.push { cls := .type "list", data := .seq #[] }).get? s.heap.objs.size = some { cls := .type "list", data := .seq #[] } := Heap.get?_push_size _ rfl
  refine ⟨⟨_, hS, rfl⟩, F.args_list_init_2 _ _, ?_⟩
  show wpAny _ _ (do let old ← Builtin.List.listItems (.ref s.heap.objs.size); Builtin.List.listUpdate (.ref s.heap.objs.size) (fun _ => #[]); letGo old.toList.reverse; Builtin.List.listExtendWith (.ref s.heap.objs.size) (.ref it) .none) _ _ _
  refine wpAny_bind ?_
  unfold Builtin.List.listItems
  refine wpAny_bind (wpAny_seqItems hS rfl (wpAny_pure ?_))
  show wpAny _ _ (updateSeq s.heap.objs.size (fun _ => #[]) >>= fun _ => letGo (#[] : Array Value).toList.reverse >>= fun _ => Builtin.List.listExtendWith (.ref s.heap.objs.size) (.ref it) .none) _ _ _
  refine wpAny_bind (wpAny_updateSeq hS rfl ?_)
  have hS₂ := Heap.get?_update_self (Obj.mapSeq (fun _ => (#[] : Array Value))) hS rfl
  have oth : ∀ b o, b ≠ s.heap.objs.size → s.heap.get? b = some o → ((s.heap.push { cls := .type "list", data := .seq #[] }).update s.heap.objs.size (Obj.mapSeq (fun _ => (#[] : Array Value)))).get? b = some o :=
    fun b o hb e => (Heap.get?_update_other _ _ (Ne.symm hb)).trans (Heap.get?_push_of_some _ e)
  refine wpAny_bind (wpAny_letGo ?_)
  refine list_ext_rev (A := A.in1) hh (hit.at fun o e => oth it o (Ne.symm hSi) e) (by
    obtain ⟨o, ho, r⟩ := id hl
    exact ⟨o, oth l o (Ne.symm hSl) ho, r⟩) hne hSi hSl hn .none _ hS₂ fun h' tk acc' c' hk hS' hacc => ?_
  exact ⟨rfl, hQ h' tk acc' c' (fun b o hb e => hk b o (Nat.ne_of_lt (Heap.lt_size e)) hb (oth b o (Nat.ne_of_lt (Heap.lt_size e)) e)) hS' hacc⟩
end

def tListRev (K : PySem.W.Frag) (te : TE) : TE := fun σ H Q => te σ H fun v H1 => ∃ (a : Addr) (xs : List V), v = .ref a ∧ SqL K H1 a xs ∧ ∀ q, H1 q = none → Q (.ref q) (upd H1 q (.lst xs.reverse))
def gRevL (a : D) : Option (List D) := (lstOf a).map List.reverse
section
variable {X : Cx} {ca : Cl → Addr} {Γ : List Md} {a e : Expr} {ma : Vm} {fa : DFn} {te : TE} {p p2 pos pos2 : Pos}
theorem pe_listRev (hc : X.calm = true) (hg : Gl X "list") (hm : X.mg "list" = none) (hg2 : Gl X "reversed") (hm2 : X.mg "reversed" = none) (he : PE X e te)
    (hs : starEach [e] X.env = (false, eval e X.env) :: starEach [] X.env := by rfl)
    (hs2 : starEach [.Call (.Name "reversed" p2) [e] [] pos2] X.env = (false, eval (.Call (.Name "reversed" p2) [e] [] pos2) X.env) :: starEach [] X.env := by rfl) :
    PE X (.Call (.Name "list" p) [.Call (.Name "reversed" p2) [e] [] pos2] [] pos) (tListRev X.K te) := by
  refine ⟨fun pins s σ H Q I h => ?_⟩
  refine Call_ (ld_blt I hg hm boot_list (PyProof.Rows.callWith_type1 (args_cons (Call_ (ld_blt I hg2 hm2 PyProof.Rows.boot_reversed (PyProof.Rows.callWith_type1 (args_cons (thn (he.run pins s σ H _ I h) fun u s1 ⟨v, H1, I1, r1, q1⟩ => args_nil ?_) hs) hs rfl))) hs2) hs2 rfl))
  obtain ⟨a, xs, ev, hq, q⟩ := q1
  subst ev
  obtain rfl : u = Value.ref a := r1
  obtain ⟨its, rv, p', hz⟩ := I1.list hq
  refine call_reversed_list p'.isList (args_nil ?_)
  have hl := p'.isList
  obtain ⟨ol, hol, _⟩ := id hl
  have hlt : a < s1.heap.objs.size := Heap.lt_size hol
  have hne : a ≠ s1.heap.objs.size := Nat.ne_of_lt hlt
  have hn : its.toArray.size ≤ sizeLine := by rw [List.size_toArray, ← rv.length]; exact hz
  refine call_list_rev (s := { s1 with heap := s1.heap.push (revObj a ((its.toArray.size : Int) - 1)) }) (I1.ok.hd hc) ⟨_, Heap.get?_push_size _ rfl, rfl, rfl⟩ (hl.push _) hne hn fun h' tk acc c hk hS hi => ?_
  have hsz : s1.heap.objs.size ≤ (s1.heap.push (revObj a ((its.toArray.size : Int) - 1))).objs.size := by
    rw [Heap.size_push]
    exact Nat.le_succ _
  refine ⟨.ref _, upd H1 (s1.heap.push (revObj a ((its.toArray.size : Int) - 1))).objs.size (.lst xs.reverse), I1.laid (t' := tk) (fun b o e => hk b o (Nat.ne_of_lt (Heap.lt_size e)) (Heap.get?_push_of_some _ e)) hsz (show ObjOk X.prog X.w _ _ _ (.lst xs.reverse) from ⟨by rw [List.length_reverse]; exact hz, acc.toList, c, RT.vals_rev rv hi, ?_⟩), rfl, q _ (I1.hok.fresh hsz)⟩
  rw [Array.toArray_toList]
  exact hS
theorem pd_listRev (ha : PDE X ca Γ a ma fa) (h1 : X.mg "list" = none) (h2 : X.mg "reversed" = none) (hm : ma = .s ∨ ma = .f := by first | exact .inl rfl | exact .inr rfl) (hg : Gl X "list" := by rfl) (hg2 : Gl X "reversed" := by rfl) (hc : X.calm = true := by rfl)
    (hs : starEach [a] X.env = (false, eval a X.env) :: starEach [] X.env := by rfl)
    (hs2 : starEach [.Call (.Name "reversed" p2) [a] [] pos2] X.env = (false, eval (.Call (.Name "reversed" p2) [a] [] pos2) X.env) :: starEach [] X.env := by rfl) :
    PDN X ca Γ (.Call (.Name "list" p) [.Call (.Name "reversed" p2) [a] [] pos2] [] pos) (dCallN gRevL fa) := by
  obtain ⟨t, pa, qa⟩ := ha
  refine ⟨_, pe_listRev hc hg h1 hg2 h2 pa hs hs2, fun B S0 M L σ H ρ E d hd Q k => ?_⟩
  obtain ⟨es, e1, hd⟩ := Option.map_eq_some_iff.mp hd
  subst hd
  obtain ⟨x, e2, e1⟩ := bind_some e1
  obtain ⟨ds, e3, e1⟩ := Option.map_eq_some_iff.mp e1
  subst e1
  refine qa B S0 M L σ H ρ E x e2 _ fun v H1 x1 r1 => ?_
  have fin : ∀ (p : Addr) (xs : List V), v = .ref p → SqL X.K H1 p xs → Reps ⟨X.K, ca⟩ (hide (Msk M L) H1) xs ds → ∃ (a : Addr) (xs : List V), v = .ref a ∧ SqL X.K H1 a xs ∧ ∀ q, H1 q = none → Q (.ref q) (upd H1 q (.lst xs.reverse)) := fun p xs e h r =>
    ⟨p, xs, e, h, fun q hq => k q _ (x1.trans (Ex.new hq)) (x1.free hq) (.lst upd_same (Owns.sh (reps_updN hq r.reverse)))⟩
  rcases hm with rfl | rfl
  · obtain ⟨p, xs, rfl, hq, rs⟩ := lst_rep (c := ⟨X.K, ca⟩) hide_ex r1 e3
    exact fin p xs rfl hq rs
  · obtain ⟨p, rfl, ho, _⟩ := r1
    cases x with
    | lst ds' =>
      cases e3
      obtain ⟨xs, g1, g2⟩ := ho.flat_lst
      exact fin p xs rfl (SqL.of g1) g2
    | scr ns => cases ho
    | _ => cases e3
end
/-! ### the least and the greatest -/
def gMaxD (a d : D) : Option D := ((seqOf a).bind asInts).bind fun ns => match ns with
  | [] => some d
  | n :: ns => some (.int (maxI n ns))
def gMinD (a d : D) : Option D := ((seqOf a).bind asInts).bind fun ns => match ns with
  | [] => some d
  | n :: ns => some (.int (minI n ns))
section
variable {X : Cx} {ca : Cl → Addr}
theorem maxI_mem : ∀ (ns : List Int) (m : Int), maxI m ns = m ∨ maxI m ns ∈ ns
  | [], m => .inl rfl
  | n :: ns, m => by
    unfold maxI
    rcases maxI_mem ns (if n > m then n else m) with h | h
    · rw [h]
      split
      · exact .inr (.head _)
      · exact .inl rfl
    · exact .inr (.tail _ h)
theorem maxI_ge : ∀ (ns : List Int) (m : Int), m ≤ maxI m ns ∧ ∀ y ∈ ns, y ≤ maxI m ns
  | [], m => ⟨Int.le_refl _, fun _ h => nomatch h⟩
  | n :: ns, m => by
    unfold maxI
    obtain ⟨h1, h2⟩ := maxI_ge ns (if n > m then n else m)
    refine ⟨Int.le_trans ?_ h1, fun y hy => ?_⟩
    · split <;> omega
    · rcases List.mem_cons.mp hy with rfl | hy
      · refine Int.le_trans ?_ h1
        split <;> omega
      · exact h2 y hy
theorem minI_mem : ∀ (ns : List Int) (m : Int), minI m ns = m ∨ minI m ns ∈ ns
  | [], m => .inl rfl
  | n :: ns, m => by
    unfold minI
    rcases minI_mem ns (if n < m then n else m) with h | h
    · rw [h]
      split
      · exact .inr (.head _)
      · exact .inl rfl
    · exact .inr (.tail _ h)
theorem minI_le : ∀ (ns : List Int) (m : Int), minI m ns ≤ m ∧ ∀ y ∈ ns, minI m ns ≤ y
  | [], m => ⟨Int.le_refl _, fun _ h => nomatch h⟩
  | n :: ns, m => by
    unfold minI
    obtain ⟨h1, h2⟩ := minI_le ns (if n < m then n else m)
    refine ⟨Int.le_trans h1 ?_, fun y hy => ?_⟩
    · split <;> omega
    · rcases List.mem_cons.mp hy with rfl | hy
      · refine Int.le_trans h1 ?_
        split <;> omega
      · exact h2 y hy
/-- the ints of a list -/
theorem lst_ints {c : Ct} {H : Hp} {x : V} {a : D} {ns : List Int} (r : Rep c H x a) (e : (lstOf a).bind asInts = some ns) : ∃ p, x = .ref p ∧ SqL c.K H p (ns.map V.int) := by
  obtain ⟨ds, e1, e2⟩ := bind_some e
  rw [asInts_some e2] at e1
  obtain ⟨p, xs, rfl, hq, rs⟩ := lst_rep (Ex.refl H) r e1
  rw [rs.ints] at hq
  exact ⟨p, rfl, hq⟩
def gMaxL : List D → Option D
  | [a] => ((lstOf a).bind asInts).bind fun ns => match ns with
    | [] => none
    | n :: ns => some (.int (maxI n ns))
  | _ => none
def gMinL : List D → Option D
  | [a] => ((lstOf a).bind asInts).bind fun ns => match ns with
    | [] => none
    | n :: ns => some (.int (minI n ns))
  | _ => none
theorem cg_max (hc : X.calm = true := by rfl) : CG X ca (.builtin "max") gMaxL := ⟨_, cr_max hc, fun H xs ds d r h => by
  match ds, h with
  | [a], h =>
    obtain ⟨ns, e1, e2⟩ := bind_some (show ((lstOf a).bind asInts).bind (fun ns => match ns with | [] => none | n :: ns => some (D.int (maxI n ns))) = some d from h)
    obtain ⟨x, rfl, rx⟩ := reps1 r
    obtain ⟨p, rfl, hq⟩ := lst_ints rx e1
    cases ns with
    | nil => cases e2
    | cons n ns =>
      cases e2
      exact ⟨_, .int _, fun Q q => ⟨p, n :: ns, rfl, hq, by simp, fun m hm hle => by
        have e : m = maxI n ns := maxI_is ns n m (List.mem_cons.mp hm) (hle n (.head _)) fun y hy => hle y (.tail _ hy)
        rw [e]
        exact q⟩⟩⟩
theorem cg_min (hc : X.calm = true := by rfl) : CG X ca (.builtin "min") gMinL := ⟨_, cr_min hc, fun H xs ds d r h => by
  match ds, h with
  | [a], h =>
    obtain ⟨ns, e1, e2⟩ := bind_some (show ((lstOf a).bind asInts).bind (fun ns => match ns with | [] => none | n :: ns => some (D.int (minI n ns))) = some d from h)
    obtain ⟨x, rfl, rx⟩ := reps1 r
    obtain ⟨p, rfl, hq⟩ := lst_ints rx e1
    cases ns with
    | nil => cases e2
    | cons n ns =>
      cases e2
      exact ⟨_, .int _, fun Q q => ⟨p, n :: ns, rfl, hq, by simp, fun m hm hle => by
        have e : m = minI n ns := minI_is ns n m (List.mem_cons.mp hm) (hle n (.head _)) fun y hy => hle y (.tail _ hy)
        rw [e]
        exact q⟩⟩⟩
end
end DL

/-! DL: blocks by a check, index, max and min with default. -/
namespace DL
open PySem PySem.Spec PyProof.Rows L2
def blkB (N : List Str) (sc scope : Scope) (own : List (Str × Nat)) : Bool :=
  decide (scope.kind = .function) && ((scope.names.all fun y => decide (scope.names.lookup y.1 = some y.2)) && ((own.all fun p => decide (N[p.2]? = some p.1)) && ((scope.names.all fun y => decide (y.2 = .free → sc.names.lookup y.1 = some .cell ∨ sc.names.lookup y.1 = some .free)) &&
    (scope.names.all fun y => decide (y.2 = .local ∨ y.2 = .cell → y.1 ∈ own.map (·.1) ∨ y.1 ∉ N)))))
theorem blkB_ok {N : List Str} {sc scope : Scope} {own : List (Str × Nat)} (h : blkB N sc scope own = true) : BlkOk N sc scope own := by
  unfold blkB at h
  simp only [Bool.and_eq_true, List.all_eq_true, decide_eq_true_eq] at h
  obtain ⟨h1, h2, h3, h4, h5⟩ := h
  exact ⟨h1, h2, h3, h4, h5⟩

/-! ### l.index(k) -/
def idxI (k : Int) : List Int → Option Nat
  | [] => none
  | n :: ns => if n = k then some 0 else (idxI k ns).map (· + 1)
theorem idxI_some {k : Int} : ∀ {ns : List Int} {j : Nat}, idxI k ns = some j → ns[j]? = some k ∧ ∀ m, m < j → ns[m]? ≠ some k
  | [], _, h => by cases h
  | n :: ns, j, h => by
    unfold idxI at h
    split at h
    · rename_i e
      cases h
      subst e
      exact ⟨rfl, fun m hm => absurd hm (Nat.not_lt_zero m)⟩
    · rename_i e
      obtain ⟨i, h1, h2⟩ := Option.map_eq_some_iff.mp h
      subst h2
      obtain ⟨g1, g2⟩ := idxI_some h1
      refine ⟨by simpa using g1, fun m hm => ?_⟩
      cases m with
      | zero => simpa using e
      | succ m => simpa using g2 m (by omega)
theorem idxI_mem {k : Int} : ∀ {ns : List Int}, k ∈ ns → ∃ j, idxI k ns = some j
  | [], h => nomatch h
  | n :: ns, h => by
    unfold idxI
    split
    · exact ⟨0, rfl⟩
    · rename_i e
      rcases List.mem_cons.mp h with h | h
      · exact absurd h.symm e
      · obtain ⟨j, hj⟩ := idxI_mem h
        exact ⟨j + 1, by rw [hj]; rfl⟩
def gIdx (a b : D) : Option D := match b with
  | .int k => ((lstOf a).bind asInts).bind fun ns => (idxI k ns).map fun (j : Nat) => .int j
  | _ => none
def rMaxDef (K : PySem.W.Frag) : List V → List V → Hp → VK → Prop := fun vs zs H Q => ∃ (a : Addr) (ns : List Int) (d : V), vs = [.ref a] ∧ zs = [d] ∧ SqL K H a (ns.map V.int) ∧ (ns = [] → Q d H) ∧ ∀ n r, ns = n :: r → Q (.int (maxI n r)) H
def rMinDef (K : PySem.W.Frag) : List V → List V → Hp → VK → Prop := fun vs zs H Q => ∃ (a : Addr) (ns : List Int) (d : V), vs = [.ref a] ∧ zs = [d] ∧ SqL K H a (ns.map V.int) ∧ (ns = [] → Q d H) ∧ ∀ n r, ns = n :: r → Q (.int (minI n r)) H
theorem maxOf_int : ∀ (r : List Int) (n : Int), PySem.W.maxOf n r = maxI n r
  | [], _ => rfl
  | m :: r, n => by
    unfold maxI
    rw [← maxOf_int r]
    unfold PySem.W.maxOf
    rw [List.foldl_cons]
    congr 1
    show (if decide (n < m) = true then m else n) = if m > n then m else n
    by_cases h : n < m
    · rw [if_pos (decide_eq_true h), if_pos h]
    · rw [if_neg (by simpa using h), if_neg h]
theorem minOf_int : ∀ (r : List Int) (n : Int), PySem.W.minOf n r = minI n r
  | [], _ => rfl
  | m :: r, n => by
    unfold minI
    rw [← minOf_int r]
    unfold PySem.W.minOf
    rw [List.foldl_cons]
    congr 1
    show (if decide (m < n) = true then m else n) = if m < n then m else n
    by_cases h : m < n
    · rw [if_pos (decide_eq_true h), if_pos h]
    · rw [if_neg (by simpa using h), if_neg h]
section
variable {X : Cx} {ca : Cl → Addr} {Γ : List Md} {a b e : Expr} {ma mb me : Vm} {fa fb fe : DFn} {p pos apos cpos kp : Pos}
theorem holds_int {h : Heap} {v : Value} {n : Int} (H : PySem.W.Holds h v n) : ∃ t, v = .int n t := by
  obtain ⟨as, r⟩ := H
  obtain ⟨t, e, _⟩ := PyProof.Rows.reads_int_inv (show Reads h v (.int n) as from r)
  exact ⟨t, e⟩
theorem cr_maxDef {k : Nat} (hr : Room k X.A) (hc : X.calm = true := by rfl) : CallRK X (.builtin "max") ["default"] (rMaxDef X.K) := by
  intro pins s σ H xs zs us ws Q I r rz h
  obtain ⟨a, ns, d, rfl, rfl, hq, h0, h1⟩ := h
  rw [Vals.ref1 r]
  obtain ⟨w, rfl, rw'⟩ := vals1 rz
  obtain ⟨its, rv, hl, hz⟩ := I.list hq
  have hI : IntsAre its ns := rv.ints
  refine PySem.W.max_list_datum_default (α := Int) (xs := ns) (d := w) (I.ok.hd hc) hl.isList ⟨[], PySem.W.readsAll_of_ints (by simpa using hI)⟩ (by have := hr.units; show X.A.units + 1 + 0 < cLine; omega) (fun e h' tk kp => ?_) fun y ys i v h' tk e hi hv kp => ?_
  · exact ⟨d, H, I.kept (t' := tk) kp, rw', h0 e⟩
  · obtain ⟨t, rfl⟩ := holds_int hv
    rw [maxOf_int]
    exact ⟨.int (maxI y ys), H, I.kept (t' := tk) kp, ⟨t, rfl⟩, h1 y ys e⟩
theorem cr_minDef {k : Nat} (hr : Room k X.A) (hc : X.calm = true := by rfl) : CallRK X (.builtin "min") ["default"] (rMinDef X.K) := by
  intro pins s σ H xs zs us ws Q I r rz h
  obtain ⟨a, ns, d, rfl, rfl, hq, h0, h1⟩ := h
  rw [Vals.ref1 r]
  obtain ⟨w, rfl, rw'⟩ := vals1 rz
  obtain ⟨its, rv, hl, hz⟩ := I.list hq
  have hI : IntsAre its ns := rv.ints
  refine PySem.W.min_list_datum_default (α := Int) (xs := ns) (d := w) (I.ok.hd hc) hl.isList ⟨[], PySem.W.readsAll_of_ints (by simpa using hI)⟩ (by have := hr.units; show X.A.units + 1 + 0 < cLine; omega) (fun e h' tk kp => ?_) fun y ys i v h' tk e hi hv kp => ?_
  · exact ⟨d, H, I.kept (t' := tk) kp, rw', h0 e⟩
  · obtain ⟨t, rfl⟩ := holds_int hv
    rw [minOf_int]
    exact ⟨.int (minI y ys), H, I.kept (t' := tk) kp, ⟨t, rfl⟩, h1 y ys e⟩
def gMaxDf (a d : D) : Option D := ((lstOf a).bind asInts).bind fun ns => match ns with
  | [] => some d
  | n :: r => some (.int (maxI n r))
def gMinDf (a d : D) : Option D := ((lstOf a).bind asInts).bind fun ns => match ns with
  | [] => some d
  | n :: r => some (.int (minI n r))
/-- max(l, default=d) -/
theorem pd_maxDef {k : Nat} (hr : Room k X.A) (ha : PDE X ca Γ a ma fa) (hb : PDE X ca Γ b .s fb) (hm : X.mg "max" = none) (hg : Gl X "max" := by rfl) (hc : X.calm = true := by rfl)
    (hs : starEach [a] X.env = (false, eval a X.env) :: starEach [] X.env := by rfl) (he : backTo pos (starEach (a :: []) X.env) = (false, eval a X.env) :: backTo pos (starEach [] X.env) := by rfl) (hpl : (backTo pos (starEach (a :: []) X.env)).any (·.1) = false := by rfl)
    (hall : (backToKw pos (keywordEach [⟨some "default", b, kp⟩] X.env)).all (·.1.isSome) = true := by rfl) (hnone : (backToKw pos (keywordEach [⟨some "default", b, kp⟩] X.env)).any (·.1.isNone) = false := by rfl) (hks : (backToKw pos (keywordEach [⟨some "default", b, kp⟩] X.env)).filterMap (·.1) = [("default" : Str)] := by rfl) :
    PDE X ca Γ (.Call (.Name "max" p) [a] [⟨some "default", b, kp⟩] pos) .s (d2 gMaxDf fa fb) := by
  obtain ⟨t, pa, qa⟩ := ha
  obtain ⟨u, pb, qb⟩ := hb
  refine ⟨_, pe_callBK (cr_maxDef hr hc) hg hm (by decide +kernel) (pa_cons pa pa_nil hs) (pk_cons pb pk_nil) (by decide) (by decide) he hpl hall hnone hks, fun B S0 M L σ H ρ E d hd Q k => ?_⟩
  obtain ⟨x, e1, hd⟩ := bind_some hd
  obtain ⟨y, e2, hd⟩ := bind_some hd
  obtain ⟨ns, e3, hd⟩ := bind_some hd
  refine qa B S0 M L σ H ρ E x e1 _ fun v H1 x1 r1 => ?_
  refine qb B S0 M L σ H1 ρ (E.ext x1) y e2 _ fun w H2 x2 r2 => ?_
  have E2 := (E.ext x1).ext x2
  obtain ⟨l, e4, hq⟩ := lst_ints (c := ⟨X.K, ca⟩) ((r1.mono x2).rep E2.eb) e3
  refine ⟨l, ns, w, by rw [e4], rfl, hq, fun e => ?_, fun n r e => ?_⟩
  · subst e
    cases hd
    exact k w H2 (x1.trans x2) r2
  · subst e
    cases hd
    exact k _ H2 (x1.trans x2) (.int _)
theorem pd_minDef {k : Nat} (hr : Room k X.A) (ha : PDE X ca Γ a ma fa) (hb : PDE X ca Γ b .s fb) (hm : X.mg "min" = none) (hg : Gl X "min" := by rfl) (hc : X.calm = true := by rfl)
    (hs : starEach [a] X.env = (false, eval a X.env) :: starEach [] X.env := by rfl) (he : backTo pos (starEach (a :: []) X.env) = (false, eval a X.env) :: backTo pos (starEach [] X.env) := by rfl) (hpl : (backTo pos (starEach (a :: []) X.env)).any (·.1) = false := by rfl)
    (hall : (backToKw pos (keywordEach [⟨some "default", b, kp⟩] X.env)).all (·.1.isSome) = true := by rfl) (hnone : (backToKw pos (keywordEach [⟨some "default", b, kp⟩] X.env)).any (·.1.isNone) = false := by rfl) (hks : (backToKw pos (keywordEach [⟨some "default", b, kp⟩] X.env)).filterMap (·.1) = [("default" : Str)] := by rfl) :
    PDE X ca Γ (.Call (.Name "min" p) [a] [⟨some "default", b, kp⟩] pos) .s (d2 gMinDf fa fb) := by
  obtain ⟨t, pa, qa⟩ := ha
  obtain ⟨u, pb, qb⟩ := hb
  refine ⟨_, pe_callBK (cr_minDef hr hc) hg hm (by decide +kernel) (pa_cons pa pa_nil hs) (pk_cons pb pk_nil) (by decide) (by decide) he hpl hall hnone hks, fun B S0 M L σ H ρ E d hd Q k => ?_⟩
  obtain ⟨x, e1, hd⟩ := bind_some hd
  obtain ⟨y, e2, hd⟩ := bind_some hd
  obtain ⟨ns, e3, hd⟩ := bind_some hd
  refine qa B S0 M L σ H ρ E x e1 _ fun v H1 x1 r1 => ?_
  refine qb B S0 M L σ H1 ρ (E.ext x1) y e2 _ fun w H2 x2 r2 => ?_
  have E2 := (E.ext x1).ext x2
  obtain ⟨l, e4, hq⟩ := lst_ints (c := ⟨X.K, ca⟩) ((r1.mono x2).rep E2.eb) e3
  refine ⟨l, ns, w, by rw [e4], rfl, hq, fun e => ?_, fun n r e => ?_⟩
  · subst e
    cases hd
    exact k w H2 (x1.trans x2) r2
  · subst e
    cases hd
    exact k _ H2 (x1.trans x2) (.int _)
/-- l.index(k) -/
theorem pd_index (ha : PDE X ca Γ a ma fa) (hb : PDE X ca Γ b mb fb)
    (hbase : attributeBase a "index" X.env (eval a X.env) = eval a X.env := by rfl) (hfew : ((backTo cpos (starEach (b :: []) X.env)).all (fun x => !x.1) && (backToKw cpos (keywordEach [] X.env)).all (fun x => x.1.isSome)
      && decide ((b :: []).length + ([] : List Keyword).length + (if ([] : List Keyword).isEmpty then 0 else 1) < 30)) = true := by rfl) (hline : (apos.endLine == cpos.line) = true := by rfl) (hst : starEach (b :: []) X.env = (false, eval b X.env) :: starEach [] X.env := by rfl) (hpl : (backTo cpos (starEach [] X.env)).any (·.1) = false := by rfl) :
    PDE X ca Γ (.Call (.Attribute a "index" apos) [b] [] cpos) .s (d2 gIdx fa fb) := by
  obtain ⟨t, pa, qa⟩ := ha
  obtain ⟨u, pb, qb⟩ := hb
  refine ⟨_, pe_bm PySem.F.plainAttrs_list PySem.F.slot_list_index PySem.F.type_list_index mt_index pa (pa_cons pb pa_nil hst) hbase hfew hline hst hpl, fun B S0 M L σ H ρ E d hd Q k => ?_⟩
  obtain ⟨x, e1, hd⟩ := bind_some hd
  obtain ⟨y, e2, hd⟩ := bind_some hd
  cases y with
  | int n =>
    obtain ⟨ns, e3, hd⟩ := bind_some (show ((lstOf x).bind asInts).bind (fun ns => (idxI n ns).map fun (j : Nat) => D.int j) = some d from hd)
    obtain ⟨j, e4, hd⟩ := Option.map_eq_some_iff.mp hd
    subst hd
    refine qa B S0 M L σ H ρ E x e1 _ fun v H1 x1 r1 => ?_
    obtain ⟨l, e5, hq1⟩ := lst_ints (c := ⟨X.K, ca⟩) (r1.rep (E.eb.trans x1)) e3
    refine ⟨by rw [e5]; exact .inl ⟨rfl, _, hq1⟩, ?_⟩
    refine qb B S0 M L σ H1 ρ (E.ext x1) _ e2 _ fun w H2 x2 r2 => ?_
    have E2 := (E.ext x1).ext x2
    obtain ⟨l', e6, hq⟩ := lst_ints (c := ⟨X.K, ca⟩) ((r1.mono x2).rep E2.eb) e3
    have ew := (r2.rep E2.eb).int_inv
    subst ew
    obtain ⟨g1, g2⟩ := idxI_some e4
    refine ⟨l', ns.map V.int, .int n, j, .int n, e6, rfl, hq, rfl, by simp [flatV], by rw [List.getElem?_map, g1]; rfl, by simp [eqV], fun m z hm hz => ?_, k _ H2 (x1.trans x2) (.int _)⟩
    rw [List.getElem?_map] at hz
    obtain ⟨i, h1, h2⟩ := Option.map_eq_some_iff.mp hz
    subst h2
    have ne : i ≠ n := fun e => g2 m hm (e ▸ h1)
    show (i == n) = false
    simpa using ne
  | _ => cases hd
end
end DL

/-! DL: len of a dict by ints. -/
namespace DL
open PySem PySem.Spec PyProof.Rows L2
def gLenD (d : D) : Option D := match d with
  | .dI kvs => some (.int kvs.length)
  | _ => none
section
variable {X : Cx} {ca : Cl → Addr} {Γ : List Md} {a : Expr} {ma : Vm} {fa : DFn} {p pos : Pos}
theorem pd_lenD (ha : PDE X ca Γ a ma fa) (h1 : X.mg "len" = none) (hg : Gl X "len" := by rfl)
    (hs : starEach [a] X.env = (false, eval a X.env) :: starEach [] X.env := by rfl) (hpl : (backTo pos (starEach [] X.env)).any (·.1) = false := by rfl) :
    PDE X ca Γ (.Call (.Name "len" p) [a] [] pos) .s (d1 gLenD fa) := by
  obtain ⟨t, pa, qa⟩ := ha
  refine ⟨_, pe_callB call_lenD hg h1 (by decide +kernel) (pa_cons pa pa_nil hs) (by decide) (by decide) hs hpl, fun B S0 M L σ H ρ E d hd Q k => ?_⟩
  obtain ⟨x, e1, hd⟩ := bind_some hd
  cases x with
  | dI kvs =>
    cases hd
    refine qa B S0 M L σ H ρ E _ e1 _ fun v H1 x1 r1 => ?_
    obtain ⟨S, dr, _⟩ := VR.dictR (E.ext x1) r1 rfl
    obtain ⟨a, es, rfl, ha, kv⟩ := dr
    refine ⟨a, es, rfl, ha, ?_⟩
    rw [kv.length]
    exact k _ H1 x1 (.int _)
  | _ => cases hd
end
end DL

/-! DL: for an expression, all that is one's own is lent. -/
namespace DL
open PySem PySem.Spec PyProof.Rows L2
def lendM : Md → Md
  | .f => .b
  | .x => .b
  | .o => .b
  | m => m
section
variable {c : Ct} {B S0 S H H' : Hp} {M : Mz} {Γ Γ1 : List Md} {L : List (List Addr)} {σ : L2.St} {ρ : List D} {z : Addr}
theorem In.nils {a : Addr} (h : In (L.map fun _ => []) a) : False := by
  obtain ⟨l, h1, h2⟩ := h
  obtain ⟨_, _, rfl⟩ := List.mem_map.mp h1
  exact nomatch h2
theorem Apart.nils : ∀ L : List (List Addr), Apart (L.map fun _ => [])
  | [] => True.intro
  | _ :: L => ⟨fun _ h => (nomatch h), Apart.nils L⟩
theorem Slots.lend (eS : Ex S H) (eB : Ex B H) : ∀ {Γ : List Md} {L : List (List Addr)} {σ : L2.St} {ρ : List D}, Slots c B z S H Γ L σ ρ → Slots c H z S H (Γ.map lendM) (L.map fun _ => []) σ ρ
  | _, _, _, _, .nil => .nil
  | m :: _, _, _, _, .cons h r => .cons (by
      cases m with
      | n => exact rfl
      | b => obtain ⟨_, v, e, q⟩ := h; exact ⟨rfl, v, e, q.mono eB⟩
      | s => obtain ⟨_, v, e, q⟩ := h; exact ⟨rfl, v, e, q⟩
      | f => obtain ⟨p, _, e, q⟩ := h; exact ⟨rfl, _, e, q.rep eS fun _ _ _ h => h⟩
      | x => obtain ⟨_, e, q⟩ := h; exact ⟨rfl, _, e, q.rep eS fun _ _ _ h => h⟩
      | o => obtain ⟨_, v, e, q⟩ := h; exact ⟨rfl, _, e, q.rep eS fun _ _ _ h => h⟩
      | e a dx k => obtain ⟨_, h2, h3⟩ := h; exact ⟨rfl, h2, h3⟩) (Slots.lend eS eB r)
def Mz.lend (M : Mz) (L : List (List Addr)) : Mz := ⟨Msk M L, M.z⟩
theorem msk_lend {a : Addr} : Msk (M.lend L) (L.map fun _ => []) a ↔ Msk M L a := ⟨fun h => by
  rcases h with h | h
  · exact h
  · exact h.nils.elim, fun h => .inl h⟩
theorem hide_lend : hide (Msk (M.lend L) (L.map fun _ => [])) H = hide (Msk M L) H := by
  funext a
  unfold hide
  by_cases h : Msk M L a
  · rw [if_pos h, if_pos (msk_lend.mpr h)]
  · rw [if_neg h, if_neg fun q => h (msk_lend.mp q)]
theorem EnvR.lend (E : EnvR c B S0 M Γ L σ H ρ) : EnvR c H S0 (M.lend L) (Γ.map lendM) (L.map fun _ => []) σ H ρ :=
  ⟨Ex.refl _, fun a h => ⟨by
    rcases h with h | h
    · exact (E.hm a h).1
    · exact (E.hl a h).1, fun q => q.nils⟩, by rw [hide_lend]; exact E.es, Apart.nils L, fun a h => h.nils.elim, by
    rw [hide_lend]
    exact E.sl.lend hide_ex E.eb⟩
theorem DE.lend {t : TE} {f : DFn} (h : DE c (Γ.map lendM) t .s f) : DE c Γ t .s f := fun B S0 M L σ H ρ E d hd Q q =>
  h H S0 (M.lend L) _ σ H ρ E.lend d hd Q fun v H' e r => q v H' e (by
    have r' : Rep c (hide (Msk (M.lend L) (L.map fun _ => [])) H') v d := r
    rw [hide_lend] at r'
    exact r')
theorem DE.lendB {t : TE} {f : DFn} (h : DE c (Γ.map lendM) t .b f) : DE c Γ t .t f := fun B S0 M L σ H ρ E d hd Q q =>
  h H S0 (M.lend L) _ σ H ρ E.lend d hd Q fun v H' e r => q v H' e (Rep.mono e r)
theorem DE.lendT {t : TE} {f : DFn} (h : DE c (Γ.map lendM) t .t f) : DE c Γ t .t f := fun B S0 M L σ H ρ E d hd Q q =>
  h H S0 (M.lend L) _ σ H ρ E.lend d hd Q fun v H' e r => q v H' e r
theorem DN.lend {t : TE} {f : DFn} (h : DN c (Γ.map lendM) t f) : DN c Γ t f := fun B S0 M L σ H ρ E d hd Q q =>
  h H S0 (M.lend L) _ σ H ρ E.lend d hd Q fun p H' e hn r => q p H' e hn (by
    have eq : (fun a => Msk (M.lend L) (L.map fun _ => []) a ∨ a = p) = fun a => Msk M L a ∨ a = p := funext fun a => propext (or_congr_left msk_lend)
    rw [eq] at r
    exact r)
theorem DT.lend {t : TT} {f : List D → Option Bool} (h : DT c (Γ.map lendM) t f) : DT c Γ t f := fun B S0 M L σ H ρ E b hb Q q =>
  h H S0 (M.lend L) _ σ H ρ E.lend b hb Q q
end
section
variable {X : Cx} {ca : Cl → Addr} {W : WX} {J : Jd} {Γ Γ0 Γ1 Γ2 Γ' : List Md} {e : Expr} {f : DFn} {m : Vm} {pos pos' apos cpos spos py : Pos} {x y : Str} {sh : Bool} {is : List Nat} {elt tg iter : Expr} {ifs : List Expr} {scope : Scope} {fi : List D → Option (List D)} {u : D → List D → Option (List D)} {t : List D → Option Bool}
theorem pd_lend (h : PDE X ca Γ1 e .s f) (hg : Γ.map lendM = Γ1 := by rfl) : PDE X ca Γ e .s f := by
  subst hg
  obtain ⟨t, p, q⟩ := h
  exact ⟨t, p, q.lend⟩
theorem pd_lendB (h : PDE X ca Γ1 e .b f) (hg : Γ.map lendM = Γ1 := by rfl) : PDE X ca Γ e .t f := by
  subst hg
  obtain ⟨t, p, q⟩ := h
  exact ⟨t, p, q.lendB⟩
theorem pd_lendT (h : PDE X ca Γ1 e .t f) (hg : Γ.map lendM = Γ1 := by rfl) : PDE X ca Γ e .t f := by
  subst hg
  obtain ⟨t, p, q⟩ := h
  exact ⟨t, p, q.lendT⟩
theorem pdn_lend (h : PDN X ca Γ1 e f) (hg : Γ.map lendM = Γ1 := by rfl) : PDN X ca Γ e f := by
  subst hg
  obtain ⟨t, p, q⟩ := h
  exact ⟨t, p, q.lend⟩
theorem pdt_lend {f : List D → Option Bool} (h : PDT X ca Γ1 e f) (hg : Γ.map lendM = Γ1 := by rfl) : PDT X ca Γ e f := by
  subst hg
  obtain ⟨t, p, q⟩ := h
  exact ⟨t, p, q.lend⟩
/-- y = [elt for ..] on one line, what is one's own lent -/
theorem pds_setLcL (i : Nat) (own : List (Str × Nat)) (hi : PDI X ca sh Γ0 tg iter fi) (hN : X.N.Nodup) (ok : BlkOk X.N X.env.scope scope own)
    (hg : ∀ (s : Shared) (H : Hp) (C : Addr) (cl : List (Str × Addr)) (fp : List Addr), PDG (X.blk s H scope (compEnvC scope cl C X.env) fp) ca sh (wipeM Γ0 (own.map (·.2))) tg Γ1 is u)
    (ht : ∀ (s : Shared) (H : Hp) (C : Addr) (cl : List (Str × Addr)) (fp : List Addr), PDTs (X.blk s H scope (compEnvC scope cl C X.env) fp) ca Γ1 ifs t)
    (he : ∀ (s : Shared) (H : Hp) (C : Addr) (cl : List (Str × Addr)) (fp : List Addr), PDE (X.blk s H scope (compEnvC scope cl C X.env) fp) ca Γ1 elt .s f)
    (hsw : swapsWith (.ListComp elt [⟨tg, iter, ifs, 0⟩] scope pos) (some (.Name y py)) spos.line X.env = pure true) (hg0 : Γ.map lendM = Γ0 := by rfl)
    (hy : X.N[i]? = some y := by rfl) (hyl : X.env.scope.names.lookup y = some .local := by rfl)
    (hc : X.calm = true := by rfl) (hw : okW Γ0 (own.map (·.2)) = true := by decide) (his : ∀ i ∈ is, i ∈ own.map (·.2) := by decide) (hs : ∀ x, foldedSetIterable iter X.env x = pure x := by intro _; rfl) :
    PDS X ca W J Γ (.Assign [.Name y py] (.ListComp elt [⟨tg, iter, ifs, 0⟩] scope pos) spos) (Γ.set i .f) (dAsg i (dLc fi u t f)) := by
  subst hg0
  obtain ⟨wi, p1, q1⟩ := hi
  exact ⟨_, ps_setLc (tt := rdT ⟨X.K, ca⟩ Γ1 t) hc hN hy hyl hsw p1 ok (fun s H C cl fp => (hg s H C cl fp).rd) (fun s H C cl fp => ht s H C cl fp) (fun s H C cl fp => (he s H C cl fp).rd) hs, DN.set (c := ⟨X.K, ca⟩) (DN.lend (DN.lc (c := ⟨X.K, ca⟩) hw his q1)) i⟩
end
end DL

/-! DL: parts of tuples, tuples turned about, tuples of lists. -/
namespace DL
open PySem PySem.Spec PyProof.Rows L2 HT
open PySem.Calls
section
variable {prog : Program} {w : World} {A : Around} {E : Value → Shared → Prop} {s : Shared}
theorem slicePart_any {v : Value} {o : Option Int} {Q : Option Int → Shared → Prop} (p : IsPart v o) (h : Q o s) : wpAny (model prog w) A (Builtin.Slice.slicePartIndex v) Q E s := by
  cases p with
  | none => exact slicePart_none h
  | int i t => exact slicePart_int h
theorem sliceApplied_rev {sl : Addr} {vl vu vs : Value} {n : Nat} {Q : Int × Int × Nat → Shared → Prop} (hs : s.heap.IsSliceOf sl vl vu vs) (pl : IsPart vl none) (pu : IsPart vu none) (ps : IsPart vs (some (-1)))
    (h : Q ((n : Int) - 1, -1, n) s) : wpAny (model prog w) A (Builtin.Slice.sliceApplied (.ref sl) (pure (n : Int))) Q E s := by
  obtain ⟨os, hos, hcs, hds⟩ := id hs
  unfold Builtin.Slice.sliceApplied Builtin.Slice.sliceFields
  refine wpAny_bind (wpAny_bind (wpAny_field hos hds (x := vl) rfl (wpAny_bind (wpAny_field hos hds (x := vu) rfl (wpAny_bind (wpAny_field hos hds (x := vs) rfl (wpAny_pure ?_)))))))
  refine wpAny_bind (slicePart_any ps ?_)
  show wpAny _ _ (if ((-1 : Int) == 0) = true then _ else _) _ _ s
  rw [if_neg (by decide)]
  refine wpAny_bind (slicePart_any pl (wpAny_bind (slicePart_any pu (wpAny_bind (wpAny_pure ?_)))))
  show wpAny _ _ (match Builtin.Slice.sliceAdjust none none (-1) (n : Int) with | (lo, hi) => pure (lo, (-1 : Int), Builtin.Slice.slicePlaces lo hi (-1))) _ _ s
  have e1 : Builtin.Slice.sliceAdjust none none (-1) (n : Int) = ((n : Int) - 1, -1) := by
    unfold Builtin.Slice.sliceAdjust
    simp
  rw [e1]
  show wpAny _ _ (pure ((n : Int) - 1, (-1 : Int), Builtin.Slice.slicePlaces ((n : Int) - 1) (-1) (-1))) _ _ s
  have e2 : Builtin.Slice.slicePlaces ((n : Int) - 1) (-1) (-1) = n := by
    unfold Builtin.Slice.slicePlaces
    rw [if_neg (by decide)]
    by_cases q : n = 0
    · subst q
      rfl
    · rw [if_pos (by omega), show (n : Int) - 1 - -1 - 1 = (n : Int) - 1 by omega, show -(-1 : Int) = 1 by decide, Int.ediv_one]
      omega
  rw [e2]
  exact wpAny_pure h
theorem pick_rev (xs : Array Value) : ((List.range xs.size).filterMap fun (m : Nat) => xs[((xs.size : Int) - 1 + (m : Int) * -1).toNat]?).toArray = xs.toList.reverse.toArray := by
  congr 1
  refine List.ext_getElem? fun i => ?_
  have e : (List.range xs.size).filterMap (fun (m : Nat) => xs[((xs.size : Int) - 1 + (m : Int) * -1).toNat]?) = (List.range xs.size).map fun m => (xs[xs.size - 1 - m]?).getD .none := by
    have main : ∀ l : List Nat, (∀ m ∈ l, m < xs.size) → l.filterMap (fun (m : Nat) => xs[((xs.size : Int) - 1 + (m : Int) * -1).toNat]?) = l.map fun m => (xs[xs.size - 1 - m]?).getD .none := by
      intro l
      induction l with
      | nil => intro _; rfl
      | cons m l ih =>
        intro h
        have hm := h m (.head _)
        have e1 : ((xs.size : Int) - 1 + (m : Int) * -1).toNat = xs.size - 1 - m := by omega
        rw [List.filterMap_cons, e1, List.map_cons, ih fun y hy => h y (.tail _ hy)]
        rw [Array.getElem?_eq_getElem (show xs.size - 1 - m < xs.size by omega)]
        rfl
    exact main _ fun m hm => List.mem_range.mp hm
  rw [e, List.getElem?_map]
  by_cases q : i < xs.size
  · rw [List.getElem?_range q, List.getElem?_reverse (by rw [Array.length_toList]; exact q), Array.length_toList, Array.getElem?_toList]
    rw [Array.getElem?_eq_getElem (show xs.size - 1 - i < xs.size by omega)]
    show some ((xs[xs.size - 1 - i]?).getD .none) = _
    rw [Array.getElem?_eq_getElem (show xs.size - 1 - i < xs.size by omega)]
    rfl
  · rw [List.getElem?_eq_none (by rw [List.length_range]; omega), List.getElem?_eq_none (by rw [List.length_reverse, Array.length_toList]; omega)]
    rfl
theorem getItem_tuple_rev {t sl : Addr} {items : Array Value} {vl vu vs : Value} {Q : Value → Shared → Prop} (ht : IsTup s.heap t items) (hs : s.heap.IsSliceOf sl vl vu vs) (pl : IsPart vl none) (pu : IsPart vu none) (ps : IsPart vs (some (-1)))
    (h : Q (.ref s.heap.objs.size) { s with heap := s.heap.push { cls := .type "tuple", data := .seq items.toList.reverse.toArray } })
    (hsz : items.size ≤ sizeLine) : wpAny (model prog w) A (getItem (.ref t) (.ref sl)) Q E s := by
  have htake : sizeOk (.seq items.toList.reverse.toArray) := by
    show items.toList.reverse.toArray.size ≤ sizeLine
    rw [List.size_toArray, List.length_reverse, Array.length_toList]
    exact hsz
  obtain ⟨os, hos, hcs, hds⟩ := id hs
  have hTs : s.TypeIs (.ref sl) "slice" := ⟨os, hos, hcs⟩
  unfold getItem
  try with_reducible refine wpAny_holding ?_
  first | refine wpAny_bind (wpAny_pure ?_) | skip
  refine wpAny_bind (wpAny_sequenceKey ht.typeIs (by decide) ?_)
  refine wpAny_bind (wpAny_callSpecial?_slot (name := Str.ofString "__getitem__") ht.typeIs PyProof.Rows.slot_tuple_getitem
    (wpAny_call_entry PyProof.Rows.slot_tuple_getitem ht.typeIs entry_tuple_getitem ?_ (args_tuple_getitem _ _)))
  show wpAny _ _ (Builtin.Tuple.tupleItemsOf (.ref t) >>= _) _ _ s
  refine wpAny_bind (tupleItemsOf_ ht ?_)
  refine wpAny_bind (wpAny_typeOf hTs ?_)
  rw [if_pos (by decide)]
  refine wpAny_bind (sliceApplied_rev hs pl pu ps ?_)
  have hno : ¬ (((((items.size : Int) - 1) == 0 && (-1 : Int) == 1 && items.size == items.size)) = true) := by
    intro q
    rw [Bool.and_eq_true, Bool.and_eq_true] at q
    exact absurd q.1.2 (by decide)
  show wpAny _ _ (if (((items.size : Int) - 1) == 0 && (-1 : Int) == 1 && items.size == items.size) = true then _ else _) _ _ s
  rw [if_neg hno, pick_rev]
  first
    | exact wpAny_bind (m := Builtin.Tuple.tupleExact _) (wpAny_newObj_type (wpAny_pure ⟨_, rfl, wpAny_pure h⟩) htake)
    | exact wpAny_bind (m := Builtin.Tuple.tupleExact _) (wpAny_newObj_type (wpAny_bind (wpAny_pure (wpAny_pure ⟨_, rfl, wpAny_pure h⟩))) htake)
    | exact wpAny_bind (wpAny_bind (m := Builtin.Tuple.tupleExact _) (wpAny_newObj_type (wpAny_pure (wpAny_pure ⟨_, rfl, wpAny_pure h⟩)) htake))
    | exact wpAny_bind (wpAny_bind (m := Builtin.Tuple.tupleExact _) (wpAny_newObj_type (wpAny_pure ⟨_, rfl, wpAny_pure h⟩) htake))
end
def tRevT (K : PySem.W.Frag) (te : TE) : TE := fun σ H Q => te σ H fun x H1 => ∃ a xs, x = .ref a ∧ SqT K H1 a xs ∧ ∀ p, H1 p = none → Q (.ref p) (upd H1 p (.tup xs.reverse))
theorem pe_revT {X : Cx} {e : Expr} {te : TE} {k : Nat} {p1 p2 p3 pos : Pos} (he : PE X e te) : PE X (.Subscript e (.Slice none none (some (.UnaryOp .USub (.Constant (.int 1) k p1) p2)) p3) pos) (tRevT X.K te) := by
  refine ⟨fun pins s σ H Q I h => ?_⟩
  refine Subscript_ (thn (he.run pins s σ H _ I h) fun v s1 ⟨x, H1, I1, r1, q1⟩ => ?_)
  obtain ⟨a, xs, ex, hx, q⟩ := q1
  subst ex
  cases r1
  have hst : PO X (some (.UnaryOp .USub (.Constant (.int 1) k p1) p2)) (tPart (tUn (rU fun i => .int (-i)) (tC (.int 1)))) := po_some (pe_un un_neg pe_int)
  refine wpAny_Slice (thn (po_none.run pins s1 σ H1 (fun o H2 => o = none ∧ H2 = H1) I1 ⟨rfl, rfl⟩) fun vl s2 ⟨l, H2, I2, pl, el, e2⟩ => ?_)
  subst el e2
  refine thn (po_none.run pins s2 σ H2 (fun o H3 => o = none ∧ H3 = H2) I2 ⟨rfl, rfl⟩) fun vu s3 ⟨u, H3, I3, pu, eu, e3⟩ => ?_
  subst eu e3
  refine thn (hst.run pins s3 σ H3 (fun o H4 => o = some (-1) ∧ H4 = H3) I3 ⟨1, rfl, -1, rfl, rfl, rfl⟩) fun vs s4 ⟨o, H4, I4, ps, eo, e4⟩ => ?_
  subst eo e4
  have I5 : Inv X pins σ H4 { s4 with heap := s4.heap.push { cls := .type "slice", data := .fields #[vl, vu, vs] } } := I4.kept (t' := s4.toks) fun b ob q => Heap.get?_push_of_some _ q
  obtain ⟨its, r, ht, hz⟩ := I5.tuple hx
  have hlen := r.length
  show wpAny (model X.prog X.w) X.A (subscriptTail e (.Slice none none (some (.UnaryOp .USub (.Constant (.int 1) k p1) p2)) p3) (.ref a) (.ref s4.heap.objs.size)) (EP X pins σ Q) X.xe { s4 with heap := s4.heap.push { cls := .type "slice", data := .fields #[vl, vu, vs] } }
  refine tail_any (ops := [.ref a, .ref s4.heap.objs.size]) ht.typeIs PyProof.Rows.slot_tuple_getitem.lookup ?_ (by with_unfolding_all rfl)
  refine getItem_tuple_rev ht (Heap.IsSliceOf.new _ vl vu vs) pl pu ps ?_ (by rw [List.size_toArray]; omega)
  refine ⟨.ref _, _, I5.laid (t' := s4.toks) (o := .tup xs.reverse) (fun b ob q => Heap.get?_push_of_some _ q) (Nat.le_refl _) ?_, rfl, q _ (I5.hok.fresh (Nat.le_refl _))⟩
  exact ⟨by rw [List.length_reverse]; exact hz, _, r.reverse, IsTup.new _ _⟩
def gRevT (a : D) : Option D := match a with
  | .tup xs => some (.tup xs.reverse)
  | _ => none
def dCutT (f : DFn) (lo hi : List D → Option (Option Int)) : DFn := fun ρ => (f ρ).bind fun a => (lo ρ).bind fun l => (hi ρ).bind fun u => match a with
  | .tup ds => some (.tup (cutD ds l u))
  | _ => none
def gTupOf (a : D) : Option D := (seqOf a).map .tup
section
variable {X : Cx} {ca : Cl → Addr} {Γ : List Md} {pos p : Pos} {a b : Expr} {ma mb : Vm} {fa fb : DFn}
theorem new_tup {c : Ct} {B S0 H : Hp} {M : Mz} {L : List (List Addr)} {σ : L2.St} {ρ : List D} (E : EnvR c B S0 M Γ L σ H ρ) {p : Addr} {xs : List V} {ds : List D} (hp : H p = none) (r : Reps c (hide (Msk M L) H) xs ds) :
    Rep c (hide (Msk M L) (upd H p (.tup xs))) (.ref p) (.tup ds) := by
  refine .tup (hide_in (fun z => ?_) upd_same) (reps_upd hp r)
  rcases z with z | z
  · exact E.noM hp z
  · exact E.noL hp z
theorem pd_revT {k : Nat} {p1 p2 p3 : Pos} (ha : PDE X ca Γ a .s fa) : PDE X ca Γ (.Subscript a (.Slice none none (some (.UnaryOp .USub (.Constant (.int 1) k p1) p2)) p3) pos) .s (d1 gRevT fa) := by
  obtain ⟨t, pa, qa⟩ := ha
  refine ⟨_, pe_revT pa, fun B S0 M L σ H ρ E d hd Q k => ?_⟩
  obtain ⟨x, e1, hd⟩ := bind_some hd
  cases x with
  | tup xs =>
    cases hd
    refine qa B S0 M L σ H ρ E _ e1 _ fun v H1 x1 r1 => ?_
    obtain ⟨p, vs, e3, h1, s1⟩ := Rep.tup_inv r1
    exact ⟨p, vs, e3, SqT.of (hide_of h1).2, fun p' hp => k _ _ (x1.trans (Ex.new hp)) (new_tup (E.ext x1) hp s1.reverse)⟩
  | _ => cases hd
theorem pd_cutT {lo hi : Option Expr} {fl fu : List D → Option (Option Int)} {p2 : Pos} (ha : PDE X ca Γ a .s fa) (hl : PDO X ca Γ lo fl) (hu : PDO X ca Γ hi fu) : PDE X ca Γ (.Subscript a (.Slice lo hi none p2) pos) .s (dCutT fa fl fu) := by
  obtain ⟨t, p, q⟩ := ha
  obtain ⟨tl, pl, ql⟩ := hl
  obtain ⟨tu, pu, qu⟩ := hu
  refine ⟨_, pe_slice sl_tupA p pl pu, fun B S0 M L σ H ρ E d hd Q k => ?_⟩
  obtain ⟨a, e1, hd⟩ := bind_some hd
  obtain ⟨l, e2, hd⟩ := bind_some hd
  obtain ⟨u, e3, hd⟩ := bind_some hd
  refine q B S0 M L σ H ρ E a e1 _ fun x H1 x1 r1 => ?_
  refine ql B S0 M L σ H1 ρ (E.ext x1) l e2 _ fun H2 x2 => ?_
  refine qu B S0 M L σ H2 ρ ((E.ext x1).ext x2) u e3 _ fun H3 x3 => ?_
  have E3 := ((E.ext x1).ext x2).ext x3
  have ex : Ex H H3 := (x1.trans x2).trans x3
  cases a with
  | tup ds =>
    cases hd
    have r3 : Rep ⟨X.K, ca⟩ (hide (Msk M L) H3) x (.tup ds) := VR.mono (m := .s) (B := B) (M := M) (L := L) x3 (VR.mono (m := .s) (B := B) (M := M) (L := L) x2 r1)
    obtain ⟨pp, vs, e4, h1, s1⟩ := r3.tup_inv
    refine ⟨pp, vs, e4, SqT.of (hide_of h1).2, fun hw => ?_, fun _ p' hp => ?_⟩
    · have ec : cutD ds l u = ds := by
        unfold cutD
        rw [← s1.length, hw.1, hw.2, Nat.sub_zero, List.drop_zero, s1.length, List.take_length]
      rw [ec] at k
      exact k (.ref pp) H3 ex (e4 ▸ r3)
    · exact k _ _ (ex.trans (Ex.new hp)) (new_tup E3 hp (cut_reps s1 l u))
  | _ => cases hd
/-- tuple(x) -/
theorem pd_tupOf (ha : PDE X ca Γ a ma fa) (hm : X.mg "tuple" = none) (hma : ma = .s ∨ ma = .f := by first | exact .inl rfl | exact .inr rfl) (hg : Gl X "tuple" := by rfl)
    (he : starEach (a :: []) X.env = (false, eval a X.env) :: starEach [] X.env := by rfl) (hpl : (backTo pos (starEach [] X.env)).any (·.1) = false := by rfl) : PDE X ca Γ (.Call (.Name "tuple" p) (a :: []) [] pos) .s (d1 gTupOf fa) := by
  obtain ⟨t, pa, qa⟩ := ha
  refine ⟨_, pe_callTy call_tuple_of hg hm (by decide +kernel) (pa_cons pa pa_nil he) (by decide) (by decide) he hpl, fun B S0 M L σ H ρ E d hd Q k => ?_⟩
  obtain ⟨x, e1, hd⟩ := bind_some hd
  obtain ⟨ds, e2, hd⟩ := Option.map_eq_some_iff.mp hd
  subst hd
  refine qa B S0 M L σ H ρ E _ e1 _ fun v H1 x1 rv => ?_
  have rr : Rep ⟨X.K, ca⟩ (hide (Msk M L) H1) v x ∨ ∃ p, v = .ref p ∧ Own ⟨X.K, ca⟩ (hide (Msk M L) H1) H1 [p] v x := by
    rcases hma with rfl | rfl
    · exact .inl rv
    · obtain ⟨p, e, ho, _⟩ := rv
      exact .inr ⟨p, e, ho⟩
  have fin : ∀ pp xs, v = .ref pp → SqL X.K H1 pp xs → Reps ⟨X.K, ca⟩ (hide (Msk M L) H1) xs ds → ∃ p ys, [v] = [.ref p] ∧ ((SqL X.K H1 p ys ∧ ∀ l, H1 l = none → Q (.ref l) (upd H1 l (.tup ys))) ∨ (SqT X.K H1 p ys ∧ Q (.ref p) H1)) := fun pp xs ev hq rs =>
    ⟨pp, xs, by rw [ev], .inl ⟨hq, fun l hl => k _ _ (x1.trans (Ex.new hl)) (new_tup (E.ext x1) hl rs)⟩⟩
  cases x with
  | lst ds' =>
    obtain ⟨pp, xs, ev, hq, rs⟩ := seq_rep hide_ex rr e2
    rcases hq with hq | hq
    · exact fin pp xs ev hq rs
    · rcases rr with rr | ⟨p, e, ho⟩
      · cases rr with
        | lst h r =>
          cases ev
          cases e2
          exact fin _ _ rfl (SqL.of (hide_of h).2) r
      · obtain ⟨xs', g1, g2⟩ := (e ▸ ho : Own _ _ _ _ (.ref p) _).flat_lst
        cases e2
        exact fin p xs' e (SqL.of g1) g2
  | tup ds' =>
    rcases rr with rr | ⟨p, e, ho⟩
    · cases e2
      have rr' : Rep ⟨X.K, ca⟩ (hide (Msk M L) H1) v (.tup ds) := rr
      obtain ⟨pp, vs, e4, h1, s1⟩ := rr'.tup_inv
      exact ⟨pp, vs, by rw [e4], .inr ⟨SqT.of (hide_of h1).2, k _ H1 x1 (e4 ▸ rr')⟩⟩
    · cases ho
  | scr ns =>
    rcases rr with rr | ⟨p, e, ho⟩
    · cases e2
      cases rr with
      | scr h => exact fin _ _ rfl (Ex.sq (K := X.K) hide_ex h) (Reps.of_ints ns)
    · cases ho
  | _ => cases e2
end
/-! ### is, of truths -/
def gIsB (a b : D) : Option D := match a, b with
  | .bl x, .bl y => some (.bl (decide (x = y)))
  | _, _ => none
def gIsnotB (a b : D) : Option D := match a, b with
  | .bl x, .bl y => some (.bl (!decide (x = y)))
  | _, _ => none
section
variable {X : Cx} {ca : Cl → Addr}
theorem op_isB : OpR X (compareOp .Is) (fun x y H Q => ∃ a b, x = .bl a ∧ y = .bl b ∧ Q (.bl (decide (a = b))) H) := by
  intro pins s σ H x y v u Q I rx ry h
  obtain ⟨a, b, rfl, rfl, q⟩ := h
  cases rx
  cases ry
  exact PyProof.Rows.is_bool (fin_bl I q (by cases a <;> cases b <;> rfl))
theorem op_isnotB : OpR X (compareOp .IsNot) (fun x y H Q => ∃ a b, x = .bl a ∧ y = .bl b ∧ Q (.bl (!decide (a = b))) H) := by
  intro pins s σ H x y v u Q I rx ry h
  obtain ⟨a, b, rfl, rfl, q⟩ := h
  cases rx
  cases ry
  exact PyProof.Rows.isnot_bool (fin_bl I q (by cases a <;> cases b <;> rfl))
theorem bl_inv {c : Ct} {H : Hp} {v : V} {b : Bool} (h : Rep c H v (.bl b)) : v = .bl b := by
  cases h
  rfl
theorem og_isB : OG X ca .Is gIsB := ⟨_, op_isB, fun H x y a b d rx ry e => by
  unfold gIsB at e
  split at e
  · cases e
    exact ⟨_, .bl _, fun Q q => ⟨_, _, bl_inv rx, bl_inv ry, q⟩⟩
  · cases e⟩
theorem og_isnotB : OG X ca .IsNot gIsnotB := ⟨_, op_isnotB, fun H x y a b d rx ry e => by
  unfold gIsnotB at e
  split at e
  · cases e
    exact ⟨_, .bl _, fun Q q => ⟨_, _, bl_inv rx, bl_inv ry, q⟩⟩
  · cases e⟩
end
/-! ### max of a tuple of ints -/
def gMaxT : List D → Option D
  | [.tup ds] => (asInts ds).bind fun ns => match ns with
    | [] => none
    | n :: ns => some (.int (maxI n ns))
  | _ => none
section
variable {X : Cx} {ca : Cl → Addr}
theorem cr_maxT {k : Nat} (hr : Room k X.A) (hc : X.calm = true := by rfl) : CallR X (.builtin "max") (fun vs H Q => ∃ (a : Addr) (n : Int) (ns : List Int), vs = [.ref a] ∧ SqT X.K H a ((n :: ns).map V.int) ∧ Q (.int (maxI n ns)) H) := by
  intro pins s σ H xs us Q I r h
  obtain ⟨a, n, ns, rfl, hq, q⟩ := h
  rw [Vals.ref1 r]
  obtain ⟨its, rv, hl, hz⟩ := I.tuple hq
  have hI : IntsAre its (n :: ns) := Vals.ints rv
  refine PySem.W.max_tuple_datum (α := Int) (x := n) (xs := ns) (I.ok.hd hc) (show s.heap.IsTuple a its.toArray from hl) ⟨[], PySem.W.readsAll_of_ints (by simpa using hI)⟩ (by have := hr.units; show X.A.units + 1 + 0 < cLine; omega) fun i v h' tk hi hv kp => ?_
  obtain ⟨t, rfl⟩ := holds_int hv
  rw [maxOf_int]
  exact ⟨.int (maxI n ns), H, I.kept (t' := tk) kp, ⟨t, rfl⟩, q⟩
theorem cg_maxT {k : Nat} (hr : Room k X.A) (hc : X.calm = true := by rfl) : CG X ca (.builtin "max") gMaxT := ⟨_, cr_maxT hr hc, fun H xs ds d r h => by
  match ds, h with
  | [.tup es], h =>
    obtain ⟨ns, e1, e2⟩ := bind_some (show (asInts es).bind (fun ns => match ns with | [] => none | n :: ns => some (D.int (maxI n ns))) = some d from h)
    obtain ⟨x, rfl, rx⟩ := reps1 r
    obtain ⟨p, vs, e3, h1, s1⟩ := rx.tup_inv
    rw [asInts_some e1] at s1
    have s2 := s1.ints
    cases ns with
    | nil => cases e2
    | cons n ns =>
      cases e2
      exact ⟨_, .int _, fun Q q => ⟨p, n, ns, by rw [e3], by rw [← s2]; exact SqT.of h1, q⟩⟩⟩
end
end DL

/-! DL: calls that raise; try. -/
namespace DL
open PySem PySem.Spec PyProof.Rows L2
/-! ### what the text says of its classes of errors -/
/-- under one and the same root -/
def subX (e h : Cl) : Bool := decide (e = h) || decide (h = .SwapError)
structure XOk (K : PySem.W.Frag) (ca : Cl → Addr) (fI : Addr) (ks : List Cl) : Prop where
  rai : ∀ k ∈ ks, ExcOk K ca fI k
  exc : ∀ k ∈ ks, ExcC K (ca k)
  exm : ∀ k ∈ ks, ∀ h ∈ ks, PySem.W.exmOne K (.ref (ca k)) (.ref (ca h)) = some (subX k h)
  kit : ∀ k ∈ ks, ∀ h ∈ ks, PySem.W.kitOne K (.ref (ca k)) (.ref (ca h)) = some (subX k h)
  kitV : ∀ k ∈ ks, PySem.W.kitOne K (.ref (ca k)) (.type "ValueError") = some true
def oexB (K : PySem.W.Frag) (C : Addr) : Bool := (match K.lookup C with
  | some ⟨.type ty, _, .cls cd, sl⟩ => decide (ty = "type") && (match cd.mro, sl.toList with
    | .ref C' :: bm, [_, _, _, _, some (.builtin n), _] => decide (C' = C) && (decide (n = "ValueError.__new__") && (PySem.HandSPX.refsVE bm && (cd.hasDict && !cd.hasDel)))
    | _, _ => false)
  | _ => false) && (decide (PySem.W.findIn K (.ref C) "__setattr__" = some (some (.builtin "object.__setattr__"))) && (decide (PySem.W.subIn K (.ref C) (.type "BaseException") = some true) && (decide (PySem.W.typeIn K (.ref C) = some (.type "type")) && PySem.W.keepIn K (.ref C))))
theorem both {a b : Bool} (h : (a && b) = true) : a = true ∧ b = true := Bool.and_eq_true_iff.mp h
theorem oexB_ok {K : PySem.W.Frag} {C : Addr} (h : oexB K C = true) : OexC K C := by
  obtain ⟨h1, h⟩ := both h
  obtain ⟨h2, h⟩ := both h
  obtain ⟨h3, h⟩ := both h
  obtain ⟨h4, h5⟩ := both h
  refine ⟨?_, of_decide_eq_true h2, of_decide_eq_true h3, of_decide_eq_true h4, h5⟩
  split at h1
  · rename_i ty dd cd sl ho
    obtain ⟨g1, g⟩ := both h1
    have et : ty = "type" := of_decide_eq_true g1
    split at g
    · rename_i C' bm k0 k1 k2 k3 n k5 hm hs
      obtain ⟨g2, g⟩ := both g
      obtain ⟨g3, g⟩ := both g
      obtain ⟨g4, g⟩ := both g
      obtain ⟨g5, g6⟩ := both g
      have eC : C' = C := of_decide_eq_true g2
      have en : n = "ValueError.__new__" := of_decide_eq_true g3
      obtain ⟨nm, bs, mro, ns, qn, hd, sn, sub, ab, col, del⟩ := cd
      obtain ⟨l⟩ := sl
      have hm' : mro = .ref C' :: bm := hm
      have hs' : l = [k0, k1, k2, k3, some (.builtin n), k5] := hs
      have g5' : hd = true := g5
      have g6' : del = false := by simpa using g6
      rw [et, hm', hs', g5', g6', eC, en] at ho
      exact ⟨nm, qn, ns, bs, bm, sn, sub, ab, col, dd, k0, k1, k2, k3, k5, ho, g4⟩
    · exact nomatch g
  · exact nomatch h1
def excB (K : PySem.W.Frag) (C : Addr) : Bool := decide (PySem.W.findIn K (.ref C) "__getattribute__" = some (some (.builtin "BaseException.__getattribute__"))) && (decide (PySem.W.findIn K (.ref C) "__getattr__" = some none) && (decide (PySem.W.subIn K (.ref C) (.type "BaseException") = some true) &&
  (PySem.W.hasDictIn K C && (decide (PySem.W.findIn K (.ref C) "__class__" = some (some (.builtin "object.__class__"))) && (decide (PySem.W.specialIn K (.builtin "object.__class__") "__get__" = some (some (.builtin "getset_descriptor.__get__"))) && (decide (PySem.W.takesIn K (.builtin "object.__class__") = some true) && decide (PySem.W.mroIn K C (.type "object") = some true)))))))
theorem excB_ok {K : PySem.W.Frag} {C : Addr} (h : excB K C = true) : ExcC K C := by
  obtain ⟨h1, h⟩ := both h
  obtain ⟨h2, h⟩ := both h
  obtain ⟨h3, h⟩ := both h
  obtain ⟨h4, h⟩ := both h
  obtain ⟨h5, h⟩ := both h
  obtain ⟨h6, h⟩ := both h
  obtain ⟨h7, h8⟩ := both h
  exact ⟨of_decide_eq_true h1, of_decide_eq_true h2, of_decide_eq_true h3, h4, of_decide_eq_true h5, of_decide_eq_true h6, of_decide_eq_true h7, of_decide_eq_true h8⟩
def xokB (K : PySem.W.Frag) (ca : Cl → Addr) (fI : Addr) (ks : List Cl) : Bool := ks.all fun k => oexB K (ca k) && (decide (PySem.W.findIn K (.ref (ca k)) "at" = some none) && (decide (PySem.W.findIn K (.ref (ca k)) "__init__" = some (some (.ref fI))) && (excB K (ca k) &&
  (decide (PySem.W.kitOne K (.ref (ca k)) (.type "ValueError") = some true) && ks.all fun h => decide (PySem.W.exmOne K (.ref (ca k)) (.ref (ca h)) = some (subX k h)) && decide (PySem.W.kitOne K (.ref (ca k)) (.ref (ca h)) = some (subX k h))))))
theorem xokB_ok {K : PySem.W.Frag} {ca : Cl → Addr} {fI : Addr} {ks : List Cl} (h : xokB K ca fI ks = true) : XOk K ca fI ks := by
  have one : ∀ k ∈ ks, ExcOk K ca fI k ∧ ExcC K (ca k) ∧ PySem.W.kitOne K (.ref (ca k)) (.type "ValueError") = some true ∧ ∀ h ∈ ks, PySem.W.exmOne K (.ref (ca k)) (.ref (ca h)) = some (subX k h) ∧ PySem.W.kitOne K (.ref (ca k)) (.ref (ca h)) = some (subX k h) := fun k hk => by
    obtain ⟨h1, h⟩ := both (List.all_eq_true.mp h k hk)
    obtain ⟨h2, h⟩ := both h
    obtain ⟨h3, h⟩ := both h
    obtain ⟨h4, h⟩ := both h
    obtain ⟨h5, h6⟩ := both h
    refine ⟨⟨oexB_ok h1, of_decide_eq_true h2, of_decide_eq_true h3⟩, excB_ok h4, of_decide_eq_true h5, fun h' hh => ?_⟩
    obtain ⟨g1, g2⟩ := both (List.all_eq_true.mp h6 h' hh)
    exact ⟨of_decide_eq_true g1, of_decide_eq_true g2⟩
  exact ⟨fun k hk => (one k hk).1, fun k hk => (one k hk).2.1, fun k hk h hh => ((one k hk).2.2.2 h hh).1, fun k hk h hh => ((one k hk).2.2.2 h hh).2, fun k hk => (one k hk).2.2.1⟩
theorem xf_of {K : PySem.W.Frag} {C : Addr} (h : ExcC K C) : XfC K C := ⟨h.hg, h.hk, h.hs, h.hd⟩

/-! ### calls that may raise -/
section
variable (X : Cx) (ca : Cl → Addr) (W : WX) (Γ : List Md)
def DEX (c : Ct) (t : TE) (m : Vm) (f : List D → Rs) : Prop :=
  ∀ (B S0 : Hp) (M : Mz) (L : List (List Addr)) (σ : L2.St) (H : Hp) (ρ : List D), EnvR c B S0 M Γ L σ H ρ → ∀ Q : VK, (match f ρ with
    | .ok d => ∀ v H', Ex H H' → VR c m B M L H' v d → Q v H'
    | .exc e d => ∀ dx v H', Ex H H' → H' dx = some (.xd [("at", v)]) → H dx = none → Rep c (hide (Msk M L) H') v d → W (.ref (c.ca e)) (some dx) σ H'
    | .bad => False) → t σ H Q
def PDEX (e : Expr) (m : Vm) (f : List D → Rs) : Prop := ∃ t, PE X e t ∧ DEX W Γ ⟨X.K, ca⟩ t m f
end
def dFunX (G : List D → Rs) (fs : List D → Option (List D)) (dfl : List D) : List D → Rs := fun ρ => match fs ρ with
  | some as => G (as ++ dfl)
  | none => .bad
section
variable {X : Cx} {CX : CXT} {k : Nat} {f C : Addr} {fd : FuncData} {ps : List Str} {sp : Sp} {dvs : List V} {ds : List Value} {E : L2.St → XK} {x m : Str} {p pos apos : Pos} {e o : Expr} {es : List Expr} {ta : TE} {t : TA}
theorem run_makeS {pins : List (Addr × Obj)} {σ : L2.St} {H : Hp} {s : Shared} {Q : VK} {us : List Value} {vs : List V} {E : XK} (M : Mk X.K C f) (F : FnOk X.prog X.w X.K X.mg X.base CX k f fd ps sp) (hr : Room (k + 1) X.A) (hb : Binds X.K fd ps ds) (hd : Vals dvs ds)
    (hx : PassesAt CX X σ E) (I : Inv X pins σ H s) (r : Vals vs us)
    (h : ∀ x dx, H x = none → H dx = none → dx ≠ x → sp (.ref x :: (vs ++ dvs)) (upd (upd H dx (.own x)) x (.ins C dx [])) (fun v H2 => v = .non ∧ Q (.ref x) H2) E) :
    wpAny (model X.prog X.w) X.A (call (.ref C) us) (EP X pins σ Q) X.xe s := by
  have top := h (s.heap.objs.size + 1) s.heap.objs.size (I.hok.fresh (Nat.le_succ _)) (I.hok.fresh (Nat.le_refl _)) (Nat.ne_of_lt (Nat.lt_succ_self _))
  have made := Inv.made (C := C) I
  have rel : Vals (V.ref (s.heap.objs.size + 1) :: (vs ++ dvs)) (Value.ref (s.heap.objs.size + 1) :: (us ++ ds)) := .cons rfl (r.append hd)
  have len : (Value.ref (s.heap.objs.size + 1) :: us ++ ds).length = ps.length := (rel.length.symm.trans (F.len _ _ _ _ top))
  have body := F.run _ X.stack _ _ ⟨Value.ref (s.heap.objs.size + 1) :: us, []⟩ (Value.ref (s.heap.objs.size + 1) :: (us ++ ds)) _ _ E (hr.make C us []) (made.env0.make C us []) (hb _ (Value.ref (s.heap.objs.size + 1) :: us) made.kIn len) rel top
  refine wpAny_call (make_map (f := f) I.kIn M.makes M.init (beq_iff_eq.mp M.fn) (codeAny_mono body fun r s' out => ?_))
  match r, out with
  | .error e, out => exact hx pins _ _ e s' made out
  | .ok (.ret u), out =>
    obtain ⟨v, H', J, rv, ev, q⟩ := made.after out
    subst ev
    exact ⟨rv, V.ref (s.heap.objs.size + 1), H', J, rfl, q⟩
  | .ok .next, out => exact out.elim
  | .ok .brk, out => exact out.elim
  | .ok .cont, out => exact out.elim
def tMakeS (C : Addr) (sp : Sp) (dvs : List V) (E : L2.St → XK) (t : TA) : TE := fun σ H Q => t σ H fun vs H1 => ∀ x dx, H1 x = none → H1 dx = none → dx ≠ x →
  sp (.ref x :: (vs ++ dvs)) (upd (upd H1 dx (.own x)) x (.ins C dx [])) (fun v H2 => v = .non ∧ Q (.ref x) H2) (E σ)
theorem pe_makeS (M : Mk X.K C f) (F : FnOk X.prog X.w X.K X.mg X.base CX k f fd ps sp) (hr : Room (k + 1) X.A) (hg : Gl X x) (hm : X.mg x = some (.ref C)) (hb : Binds X.K fd ps ds) (hd : Vals dvs ds) (hx : ∀ σ, PassesAt CX X σ (E σ))
    (ha : PA X (e :: es) t) (hdb : (x == ("__debug__" : Str)) = false := by decide) (he : starEach (e :: es) X.env = (false, eval e X.env) :: starEach es X.env := by rfl) (hpl : (backTo pos (starEach es X.env)).any (·.1) = false := by rfl) :
    PE X (.Call (.Name x p) (e :: es) [] pos) (tMakeS C sp dvs E t) := ⟨fun pins s σ H Q I h =>
  wpAny_Call_Name_kw (ld_glob I hg hm (PySem.W.callWith_K (h₀ := X.base) I.ok.mod.kin M.kp (thn (ha.run pos pins s σ H _ I h) fun us s1 ⟨vs, H1, I1, r, q⟩ => ⟨I1.kIn, run_makeS M F hr hb hd (hx σ) I1 r q⟩) he hpl) hdb)⟩
end
section
variable {X : Cx} {ca : Cl → Addr} {W : WX} {J : Jd} {Γ Γ0 Γ' : List Md} {k : Nat} {f : Addr} {fd : FuncData} {ps : List Str} {G : List D → Rs} {dvs : List V} {ds : List Value} {dfl : List D} {x m : Str} {p pos pos' apos : Pos} {e o : Expr} {es : List Expr} {ms : List Vm} {fs : List D → Option (List D)} {mo : Vm} {fo : DFn} {F : List D → Rs}
theorem pd_callX (tk : Takes X W) (F : FnOk X.prog X.w X.K X.mg X.base (L2.CX X.prog X.w) k f fd ps (SpD ⟨X.K, ca⟩ Γ0 false G)) (hr : Room k X.A) (hm : X.mg x = some (.ref f)) (hk : PySem.W.keepIn X.K (.ref f) = true) (hb : Binds X.K fd ps ds) (hd : Vals dvs ds) (hi : Ims dvs dfl)
    (ha : PDA X ca Γ (e :: es) ms fs) (hc : cmps (ms ++ List.replicate dfl.length .s) Γ0 = true := by decide) (hg : Gl X x := by rfl) (hdb : (x == ("__debug__" : Str)) = false := by decide) (he : starEach (e :: es) X.env = (false, eval e X.env) :: starEach es X.env := by rfl) (hpl : (backTo pos (starEach es X.env)).any (·.1) = false := by rfl) :
    PDEX X ca W Γ (.Call (.Name x p) (e :: es) [] pos) .s (dFunX G fs dfl) := by
  obtain ⟨t, pa, q⟩ := ha
  refine ⟨_, pe_callSD F hr hg hm hk hb hd (E := WE W) (passAt tk) pa hdb he hpl, fun B S0 M L σ H ρ E Q kk => ?_⟩
  unfold dFunX at kk
  cases e1 : fs ρ with
  | none => rw [e1] at kk; exact kk.elim
  | some as =>
    rw [e1] at kk
    refine q B S0 M L σ H ρ E as e1 _ fun vs H1 x1 r => ?_
    refine ⟨H1, _, ⟨Msk M L, M.z⟩, _, _, VRs.env (E.ext x1) hc (r.app hi.vrs), ?_⟩
    have kk' : (match G (as ++ dfl) with
      | .ok d => ∀ v H', Ex H H' → VR ⟨X.K, ca⟩ .s B M L H' v d → Q v H'
      | .exc e d => ∀ dx v H', Ex H H' → H' dx = some (.xd [("at", v)]) → H dx = none → Rep ⟨X.K, ca⟩ (hide (Msk M L) H') v d → W (.ref (ca e)) (some dx) σ H'
      | .bad => False) := kk
    cases h : G (as ++ dfl) with
    | ok d =>
      rw [h] at kk'
      exact fun v H' x2 res => kk' v H' (x1.trans x2) (res_back res)
    | exc e d =>
      rw [h] at kk'
      exact fun dx v H' x2 h1 h2 h3 => kk' dx v H' (x1.trans x2) h1 (x1.free h2) h3
    | bad => rw [h] at kk'; exact kk'.elim
/-- C(e, ..), where it may be refused -/
theorem pd_makeX (cl : Cl) (tk : Takes X W) (Mk0 : Mk X.K (ca cl) f) (F : FnOk X.prog X.w X.K X.mg X.base (L2.CX X.prog X.w) k f fd ps (SpI ⟨X.K, ca⟩ cl Γ0 G)) (hr : Room (k + 1) X.A) (hm : X.mg x = some (.ref (ca cl))) (hb : Binds X.K fd ps ds) (hd : Vals dvs ds) (hi : Ims dvs dfl)
    (ha : PDA X ca Γ (e :: es) ms fs) (hc : cmps (ms ++ List.replicate dfl.length .s) Γ0 = true := by decide) (hg : Gl X x := by rfl) (hdb : (x == ("__debug__" : Str)) = false := by decide) (he : starEach (e :: es) X.env = (false, eval e X.env) :: starEach es X.env := by rfl) (hpl : (backTo pos (starEach es X.env)).any (·.1) = false := by rfl) :
    PDEX X ca W Γ (.Call (.Name x p) (e :: es) [] pos) .s (dFunX G fs dfl) := by
  obtain ⟨t, pa, q⟩ := ha
  refine ⟨_, pe_makeS Mk0 F hr hg hm hb hd (E := WE W) (passAt tk) pa hdb he hpl, fun B S0 M L σ H ρ E Q kk => ?_⟩
  unfold dFunX at kk
  cases e1 : fs ρ with
  | none => rw [e1] at kk; exact kk.elim
  | some as =>
    rw [e1] at kk
    refine q B S0 M L σ H ρ E as e1 _ fun vs H1 x1 r => fun a dx ha hdx hne => ?_
    have E1 := E.ext x1
    have kk' : (match G (as ++ dfl) with
      | .ok d => ∀ v H', Ex H H' → VR ⟨X.K, ca⟩ .s B M L H' v d → Q v H'
      | .exc e d => ∀ dx v H', Ex H H' → H' dx = some (.xd [("at", v)]) → H dx = none → Rep ⟨X.K, ca⟩ (hide (Msk M L) H') v d → W (.ref (ca e)) (some dx) σ H'
      | .bad => False) := kk
    refine ⟨a, _, _, _, ⟨Msk M L, a⟩, _, _, rfl, rfl, make_env (k := cl) E1 ha hdx hne rfl hc (r.app hi.vrs), ?_⟩
    cases h : G (as ++ dfl) with
    | ok d' =>
      rw [h] at kk'
      exact fun H' x2 ho => ⟨rfl, kk' _ H' ((x1.trans (Ex.new hdx)).trans x2) (own_rep E1 ha ho)⟩
    | exc e d' =>
      rw [h] at kk'
      refine fun dx' v H' x2 h1 h2 h3 => kk' dx' v H' ((x1.trans (Ex.new hdx)).trans x2) h1 ?_ h3
      exact (x1.trans (Ex.new hdx)).free h2
    | bad => rw [h] at kk'; exact kk'.elim
/-- what is raised goes on -/
theorem exc_post {c : Ct} {B S0 H : Hp} {M : Mz} {L : List (List Addr)} {σ : L2.St} {ρ : List D} {N : Ends} (hx : ∀ Γx, J.Γx = some Γx → wks Γ Γx = true) (E : EnvR c B S0 M Γ L σ H ρ) {ec : Cl} {d : D} {dx : Addr} {v : V} (pp : Post c B S0 M J W Γ' N (.exc ec d ρ))
    (h1 : H dx = some (.xd [("at", v)])) (h2 : B dx = none) (h3 : Rep c (hide (Msk M L) H) v d) : W (.ref (c.ca ec)) (some dx) σ H := by
  cases hΓ : J.Γx with
  | none => exact pp dx v L σ H E.eb h1 h2 h3 fun Γx h => by rw [hΓ] at h; cases h
  | some Γx =>
    obtain ⟨L', sub, E3⟩ := E.weak (hx Γx hΓ)
    exact pp dx v L' σ H E3.eb h1 h2 (h3.mono (hide_le fun a o h q => ⟨fun z => h (by
      rcases z with z | z
      · exact .inl z
      · exact .inr (sub a z)), q⟩)) fun Γy h => by
        rw [hΓ] at h
        cases h
        exact E3
def dDropX (f : List D → Rs) : SFn := fun ρ => match f ρ with
  | .ok _ => .nx ρ
  | .exc e d => .exc e d ρ
  | .bad => .bad
def dAsgX (i : Nat) (f : List D → Rs) : SFn := fun ρ => match f ρ with
  | .ok d => .nx (ρ.set i d)
  | .exc e d => .exc e d ρ
  | .bad => .bad
theorem pds_exprX (he : PDEX X ca W Γ e mo F) (hx : ∀ Γx, J.Γx = some Γx → wks Γ Γx = true := by intro _ h; first | (cases h; done) | (cases h; first | decide | rfl)) (hs : swapsWith e none pos.line X.env = pure false := by rfl) : PDS X ca W J Γ (.Expr e pos) Γ (dDropX F) := by
  obtain ⟨t, p, q⟩ := he
  refine ⟨_, ps_expr p hs, fun B S0 M L σ H ρ N E pp => ?_⟩
  refine q B S0 M L σ H ρ E _ ?_
  unfold dDropX at pp
  cases h : F ρ with
  | ok d =>
    rw [h] at pp
    exact fun v H1 x1 _ => pp L σ H1 (E.ext x1)
  | exc e d =>
    rw [h] at pp
    exact fun dx v H1 x1 h1 h2 h3 => exc_post hx (E.ext x1) pp h1 (E.eb.free h2) h3
  | bad => rw [h] at pp; exact pp.elim
theorem pds_setX (i : Nat) (he : PDEX X ca W Γ e .s F) (hN : X.N.Nodup) (hx : ∀ Γx, J.Γx = some Γx → wks Γ Γx = true := by intro _ h; first | (cases h; done) | (cases h; first | decide | rfl)) (hi : X.N[i]? = some x := by rfl) (hl : Loc X.env.scope x := by first | exact Or.inl rfl | exact Or.inr rfl) (hs : swapsWith e (some (.Name x pos')) pos.line X.env = pure false := by rfl) (hf : X.fn x = true ∨ X.env.scope.names.lookup x = some .local := by first | exact .inl rfl | exact .inr rfl) :
    PDS X ca W J Γ (.Assign [.Name x pos'] e pos) (Γ.set i .s) (dAsgX i F) := by
  obtain ⟨t, p, q⟩ := he
  refine ⟨_, ps_set hN hi hl p hs hf, fun B S0 M L σ H ρ N E pp => ?_⟩
  refine q B S0 M L σ H ρ E _ ?_
  unfold dAsgX at pp
  cases h : F ρ with
  | ok d =>
    rw [h] at pp
    exact fun v H1 x1 r => pp _ _ _ (set_s E x1 i r)
  | exc e d =>
    rw [h] at pp
    exact fun dx v H1 x1 h1 h2 h3 => exc_post hx (E.ext x1) pp h1 (E.eb.free h2) h3
  | bad => rw [h] at pp; exact pp.elim
end

/-! ### try -/
/-- one reading for all bodies -/
def rdS (c : Ct) (W : WX) (J : Jd) (Γ Γ' : List Md) (F : SFn) : TS := fun N σ H => ∃ (B S0 : Hp) (M : Mz) (L : List (List Addr)) (ρ : List D), EnvR c B S0 M Γ L σ H ρ ∧ Post c B S0 M J W Γ' N (F ρ)
theorem PDSs.rd {X : Cx} {ca : Cl → Addr} {W : WX} {J : Jd} {Γ Γ' : List Md} {st : List Stmt} {F : SFn} (h : PDSs X ca W J Γ st Γ' F) : PSs X st (rdS ⟨X.K, ca⟩ W J Γ Γ' F) := by
  obtain ⟨t, p, q⟩ := h
  exact ⟨fun pins s σ H N I ⟨B, S0, M, L, ρ, E, pp⟩ => p.run pins s σ H N I (q B S0 M L σ H ρ N E pp)⟩
def dTryAs (ks : List Cl) (h : Cl) (i : Nat) (Fb Fs : SFn) : SFn := fun ρ => match Fb ρ with
  | .exc e d ρx => if e ∈ ks then (if subX e h = true then (match Fs (ρx.set i (.obj e [d])) with
      | .nx ρ' => .nx (ρ'.set i .non)
      | .ret d => .ret d
      | _ => .bad) else .exc e d ρx) else .bad
  | o => o
def dTryOn (ks : List Cl) (h : Cl) (Fb Fs : SFn) : SFn := fun ρ => match Fb ρ with
  | .exc e d ρx => if e ∈ ks then (if subX e h = true then (match Fs ρx with
      | .exc _ _ _ => .bad
      | o => o) else .exc e d ρx) else .bad
  | o => o
theorem xd_free {c : Ct} {B S0 H : Hp} {M : Mz} {Γ : List Md} {L : List (List Addr)} {σ : L2.St} {ρ : List D} (E : EnvR c B S0 M Γ L σ H ρ) {dx : Addr} {fs : List (Str × V)} (h : H dx = some (.xd fs)) : hide (Msk M L) H dx = some (.xd fs) := hide_in (fun z => by
  rcases z with z | z
  · have q := (E.hm dx z).1
    rw [h] at q
    exact q
  · have q := (E.hl dx z).1
    rw [h] at q
    exact q) h
section
variable {X : Cx} {ca : Cl → Addr} {W : WX} {J : Jd} {Γ Γx Γs Γ' : List Md} {x n : Str} {body suite : List Stmt} {b₀ : Stmt} {np pos pos' : Pos} {Fb Fs : SFn}
theorem pds_tryAs (i : Nat) (h : Cl) (ks : List Cl) (tk : Takes X W) (hN : X.N.Nodup) (hmg : X.mg x = some (.ref (ca h))) (hk : ∀ k ∈ ks, PySem.W.exmOne X.K (.ref (ca k)) (.ref (ca h)) = some (subX k h))
    (hb : ∀ (W' : WX) (pn : List (Addr × Obj)) (xe : Value → Shared → Prop), Takes (X.tr pn xe) W' → PassesOwn (model X.prog X.w) X.A X.env xe → PDSs (X.tr pn xe) ca W' ⟨J.rf, J.Γb, J.Γc, some Γx⟩ Γ body Γ' Fb)
    (hsu : ∀ (a : Addr) (oe : Obj) (dx : Addr) (k : Cl) (pn : List (Addr × Obj)), k ∈ ks → Zc (.ref (ca k)) (some dx) oe → (∃ vs, oe.data = .fields vs) → PDSs (X.suite a ((a, oe) :: pn)) ca (fun _ _ _ _ => False) ⟨J.rf, [], [], none⟩ (Γx.set i (.e a dx k)) (b₀ :: suite) Γs Fs)
    (hΓ : Γs.set i .n = Γ' := by rfl) (hx : ∀ Γy, J.Γx = some Γy → wks Γx Γy = true := by intro _ h; first | (cases h; done) | (cases h; first | decide | rfl)) (hs : X.stack = X.env :: X.outer := by rfl) (hf : X.env.frame = some X.env.locals := by rfl) (hi : X.N[i]? = some n := by rfl) (hln : X.env.kindOf n = some .local := by rfl)
    (hg : Gl X x := by rfl) (hdb : (x == ("__debug__" : Str)) = false := by decide) :
    PDS X ca W J Γ (.Try body [.ExceptHandler (some (.Name x np)) (some n) (b₀ :: suite) pos'] [] [] pos) Γ' (dTryAs ks h i Fb Fs) := by
  subst hΓ
  refine ⟨_, ps_try_as (tb := fun W' => rdS ⟨X.K, ca⟩ W' ⟨J.rf, J.Γb, J.Γc, some Γx⟩ Γ (Γs.set i .n) Fb) (ts := fun a cls d N σ H => ∃ (k : Cl) (dx : Addr), k ∈ ks ∧ cls = .ref (ca k) ∧ d = some dx ∧ rdS ⟨X.K, ca⟩ (fun _ _ _ _ => False) ⟨J.rf, [], [], none⟩ (Γx.set i (.e a dx k)) Γs Fs N σ H)
    hs hf hN hi hln ⟨hg, hdb, .inl hmg⟩ tk (fun W' pn xe tk' po => (hb W' pn xe tk' po).rd) (fun a oe cls d pn hz hfl => ⟨fun pins s σ H N I ⟨k, dx, hk', ec, ed, r⟩ => by
      subst ec ed
      exact (hsu a oe dx k pn hk' hz hfl).rd.run pins s σ H N I r⟩), fun B S0 M L σ H ρ N E pp => ?_⟩
  refine ⟨B, S0, M, L, ρ, E, ?_⟩
  unfold dTryAs at pp
  cases hF : Fb ρ with
  | nx ρ' => rw [hF] at pp; exact pp
  | ret d => rw [hF] at pp; exact pp
  | brk ρ' => rw [hF] at pp; exact pp
  | cont ρ' => rw [hF] at pp; exact pp
  | bad => rw [hF] at pp; exact pp.elim
  | exc e d ρx =>
    rw [hF] at pp
    have pp' : Post ⟨X.K, ca⟩ B S0 M J W (Γs.set i .n) N (if e ∈ ks then (if subX e h = true then (match Fs (ρx.set i (.obj e [d])) with
      | .nx ρ' => .nx (ρ'.set i .non)
      | .ret d => .ret d
      | _ => .bad) else .exc e d ρx) else .bad) := pp
    by_cases he : e ∈ ks
    · rw [if_pos he] at pp'
      intro dx v L1 σ1 H1 eB h1 h2 h3 hE
      have E1 := hE Γx rfl
      refine ⟨subX e h, hk e he, fun hb1 a ha => ?_, fun hb0 => ?_⟩
      · rw [if_pos hb1] at pp'
        have E2 : EnvR ⟨X.K, ca⟩ B S0 M (Γx.set i (.e a dx e)) (L1.set i []) (σ1.set i (some (.ref a))) H1 (ρx.set i (.obj e [d])) :=
          E1.put0 (Ex.refl _) i ⟨rfl, rfl, v, d, rfl, hide_set0 _ _ (xd_free E1 h1), h3.mono hide_set0⟩
        refine ⟨e, dx, he, rfl, rfl, B, S0, M, _, _, E2, ?_⟩
        cases hS : Fs (ρx.set i (.obj e [d])) with
        | nx ρ' =>
          rw [hS] at pp'
          intro L3 σ3 H3 E3
          exact pp' _ _ _ (E3.put0 (Ex.refl _) i (m' := .n) (x' := none) (d' := .non) rfl)
        | ret d' => rw [hS] at pp'; exact pp'
        | brk ρ' => rw [hS] at pp'; exact pp'.elim
        | cont ρ' => rw [hS] at pp'; exact pp'.elim
        | exc e' d' ρ' => rw [hS] at pp'; exact pp'.elim
        | bad => rw [hS] at pp'; exact pp'.elim
      · rw [if_neg (by rw [hb0]; decide)] at pp'
        exact exc_post hx E1 pp' h1 h2 h3
    · rw [if_neg he] at pp'
      exact pp'.elim
theorem pds_tryOn (h : Cl) (ks : List Cl) (tk : Takes X W) (hmg : X.mg x = some (.ref (ca h))) (hk : ∀ k ∈ ks, PySem.W.exmOne X.K (.ref (ca k)) (.ref (ca h)) = some (subX k h))
    (hb : ∀ (W' : WX) (pn : List (Addr × Obj)) (xe : Value → Shared → Prop), Takes (X.tr pn xe) W' → PassesOwn (model X.prog X.w) X.A X.env xe → PDSs (X.tr pn xe) ca W' ⟨J.rf, J.Γb, J.Γc, some Γx⟩ Γ body Γ' Fb)
    (hsu : ∀ (a : Addr) (oe : Obj) (pn : List (Addr × Obj)), PDSs (X.suite a ((a, oe) :: pn)) ca (fun _ _ _ _ => False) ⟨J.rf, J.Γb, J.Γc, none⟩ Γx (b₀ :: suite) Γ' Fs)
    (hx : ∀ Γy, J.Γx = some Γy → wks Γx Γy = true := by intro _ h; first | (cases h; done) | (cases h; first | decide | rfl)) (hs : X.stack = X.env :: X.outer := by rfl) (hf : X.env.frame = some X.env.locals := by rfl)
    (hg : Gl X x := by rfl) (hdb : (x == ("__debug__" : Str)) = false := by decide) :
    PDS X ca W J Γ (.Try body [.ExceptHandler (some (.Name x np)) none (b₀ :: suite) pos'] [] [] pos) Γ' (dTryOn ks h Fb Fs) := by
  refine ⟨_, ps_try_only (tb := fun W' => rdS ⟨X.K, ca⟩ W' ⟨J.rf, J.Γb, J.Γc, some Γx⟩ Γ Γ' Fb) (ts := fun a cls d N σ H => rdS ⟨X.K, ca⟩ (fun _ _ _ _ => False) ⟨J.rf, J.Γb, J.Γc, none⟩ Γx Γ' Fs N σ H)
    hs hf ⟨hg, hdb, .inl hmg⟩ tk (fun W' pn xe tk' po => (hb W' pn xe tk' po).rd) (fun a oe cls d pn hz hfl => (hsu a oe pn).rd), fun B S0 M L σ H ρ N E pp => ?_⟩
  refine ⟨B, S0, M, L, ρ, E, ?_⟩
  unfold dTryOn at pp
  cases hF : Fb ρ with
  | nx ρ' => rw [hF] at pp; exact pp
  | ret d => rw [hF] at pp; exact pp
  | brk ρ' => rw [hF] at pp; exact pp
  | cont ρ' => rw [hF] at pp; exact pp
  | bad => rw [hF] at pp; exact pp.elim
  | exc e d ρx =>
    rw [hF] at pp
    have pp' : Post ⟨X.K, ca⟩ B S0 M J W Γ' N (if e ∈ ks then (if subX e h = true then (match Fs ρx with
      | .exc _ _ _ => .bad
      | o => o) else .exc e d ρx) else .bad) := pp
    by_cases he : e ∈ ks
    · rw [if_pos he] at pp'
      intro dx v L1 σ1 H1 eB h1 h2 h3 hE
      have E1 := hE Γx rfl
      refine ⟨subX e h, hk e he, fun hb1 a ha => ?_, fun hb0 => ?_⟩
      · rw [if_pos hb1] at pp'
        refine ⟨B, S0, M, _, _, E1, ?_⟩
        cases hS : Fs ρx with
        | nx ρ' => rw [hS] at pp'; exact pp'
        | ret d' => rw [hS] at pp'; exact pp'
        | brk ρ' => rw [hS] at pp'; exact pp'
        | cont ρ' => rw [hS] at pp'; exact pp'
        | exc e' d' ρ' => rw [hS] at pp'; exact pp'.elim
        | bad => rw [hS] at pp'; exact pp'.elim
      · rw [if_neg (by rw [hb0]; decide)] at pp'
        exact exc_post hx E1 pp' h1 h2 h3
    · rw [if_neg he] at pp'
      exact pp'.elim
end

/-! ### the caught error -/
def dAt (i : Nat) : DFn := fun ρ => match ρ[i]? with
  | some (.obj _ [d]) => some d
  | _ => none
def dIsX (i : Nat) (h : Cl) : DFn := fun ρ => match ρ[i]? with
  | some (.obj k [_]) => some (.bl (subX k h))
  | _ => none
def dIsV (i : Nat) : DFn := fun ρ => match ρ[i]? with
  | some (.obj _ [_]) => some (.bl true)
  | _ => none
theorem slot_e {c : Ct} {B S0 H : Hp} {M : Mz} {Γ : List Md} {L : List (List Addr)} {σ : L2.St} {ρ : List D} (E : EnvR c B S0 M Γ L σ H ρ) {i : Nat} {a dx : Addr} {k : Cl} (hm : Γ[i]? = some (.e a dx k)) : ∃ v d', σ[i]? = some (some (.ref a)) ∧ ρ[i]? = some (.obj k [d']) ∧ hide (Msk M L) H dx = some (.xd [("at", v)]) ∧ Rep c (hide (Msk M L) H) v d' := by
  obtain ⟨l, x, d, h1, h2, h3, e1, e2, v, d', e3, e4, e5⟩ := E.sl.get hm
  subst e2 e3
  exact ⟨v, d', h2, h3, e4, e5⟩
/-- isinstance(e, c), e the error that the suite holds, which has a dict -/
def rIsD (K : PySem.W.Frag) (D a dx : Addr) : List V → Hp → VK → Prop := fun xs H Q => ∃ (c : V) (cv : Value) (b : Bool) (fs : List (Str × V)), xs = [.ref a, c] ∧ (∀ u, RelV c u → u = cv) ∧ PySem.W.kitOne K (.ref D) cv = some b ∧ H dx = some (.xd fs) ∧ Q (.bl b) H
theorem call_isD {X : Cx} {a D dx : Addr} {oe : Obj} {pn : List (Addr × Obj)} (C : ExcC X.K D) (hz : Zc (.ref D) (some dx) oe) (hf : ∃ vs, oe.data = .fields vs) : CallR (X.suite a ((a, oe) :: pn)) (.builtin "isinstance") (rIsD X.K D a dx) := by
  intro pins s σ H xs us Q I r h
  obtain ⟨c, cv, b, fs, rfl, hcv, e, hdx, q⟩ := h
  obtain ⟨u1, u2, rfl, r1, r2⟩ := vals2 r
  cases r1
  have ec := hcv _ r2
  subst ec
  obtain ⟨there, _⟩ := I.pin (a, oe) (List.mem_append.mpr (.inl List.mem_cons_self))
  obtain ⟨mA, hns, _⟩ := (show ObjOk X.prog X.w H s.heap dx (.xd fs) from I.hok dx _ hdx)
  obtain ⟨od, ho, _⟩ := lookIn_ns hns
  have inst : PySem.W.InstAt s.heap a oe D (some od) := by
    obtain ⟨vs, hv⟩ := hf
    exact ⟨there, hz.1, by unfold PySem.W.notCls; rw [hv] <;> rfl, by rw [hz.2]; exact ho⟩
  have hcl : (PySem.W.clsIn X.K D).isSome = true := by
    obtain ⟨cd, hc, _⟩ := PySem.W.any_some C.hd
    rw [hc]
    rfl
  exact PySem.W.kia_one (PySem.W.kitx_exc hcl C.hg C.hk C.hs C.ha C.hn C.ht C.hm) I.kIn inst e (fun z => nomatch z) fun tk => ⟨.bl b, H, I.kept (t' := tk) fun _ _ z => z, rfl, q⟩
section
variable {X : Cx} {ca : Cl → Addr} {Γ : List Md} {a dx : Addr} {oe : Obj} {k : Cl} {pn : List (Addr × Obj)} {x n : Str} {p p2 p3 pos : Pos}
theorem pd_at (i : Nat) (C : ExcC X.K (ca k)) (hno : PySem.W.findIn X.K (.ref (ca k)) "at" = some none) (hz : Zc (.ref (ca k)) (some dx) oe) (hf : ∃ vs, oe.data = .fields vs) (hm : Γ[i]? = some (.e a dx k) := by rfl) (hN : X.N[i]? = some n := by rfl) (hv : Vis X.env.scope n := by first | exact Or.inl rfl | exact Or.inr (Or.inl rfl) | exact Or.inr (Or.inr rfl)) (hd : (n == ("__debug__" : Str)) = false := by decide)
    (hcd : (n == ("__classdict__" : Str)) = false := by decide) : PDE (X.suite a ((a, oe) :: pn)) ca Γ (.Attribute (.Name n p) "at" pos) .s (dAt i) := by
  refine ⟨_, pe_xf (xf_of C) hno hz hf (pe_var (X := X.suite a ((a, oe) :: pn)) (i := i) hN hv hd hcd), fun B S0 M L σ H ρ E d hd Q q => ?_⟩
  obtain ⟨v, d', h1, h2, h3, h4⟩ := slot_e E hm
  unfold dAt at hd
  rw [h2] at hd
  cases hd
  exact ⟨_, h1, rfl, rfl, dx, _, v, rfl, (hide_of h3).2, rfl, q v H (Ex.refl _) h4⟩
theorem pd_isX (i : Nat) (h : Cl) (C : ExcC X.K (ca k)) (hk : PySem.W.kitOne X.K (.ref (ca k)) (.ref (ca h)) = some (subX k h)) (hz : Zc (.ref (ca k)) (some dx) oe) (hf : ∃ vs, oe.data = .fields vs) (h1 : X.mg "isinstance" = none) (h2 : X.mg x = some (.ref (ca h))) (hm : Γ[i]? = some (.e a dx k) := by rfl) (hN : X.N[i]? = some n := by rfl)
    (hv : Vis X.env.scope n := by first | exact Or.inl rfl | exact Or.inr (Or.inl rfl) | exact Or.inr (Or.inr rfl)) (hd : (n == ("__debug__" : Str)) = false := by decide) (hcd : (n == ("__classdict__" : Str)) = false := by decide) (hg : Gl X "isinstance" := by rfl) (hg2 : Gl X x := by rfl) (hd2 : (x == ("__debug__" : Str)) = false := by decide)
    (hs : starEach (.Name n p :: [.Name x p2]) X.env = (false, eval (.Name n p) X.env) :: starEach [.Name x p2] X.env := by rfl) (hs2 : starEach [.Name x p2] X.env = (false, eval (.Name x p2) X.env) :: starEach [] X.env := by rfl) (hpl : (backTo pos (starEach [.Name x p2] X.env)).any (·.1) = false := by rfl) :
    PDE (X.suite a ((a, oe) :: pn)) ca Γ (.Call (.Name "isinstance" p3) [.Name n p, .Name x p2] [] pos) .s (dIsX i h) := by
  refine ⟨_, pe_callB (X := X.suite a ((a, oe) :: pn)) (call_isD C hz hf) hg h1 (by decide +kernel) (pa_cons (pe_var (X := X.suite a ((a, oe) :: pn)) (i := i) hN hv hd hcd) (pa_cons (pe_glob (X := X.suite a ((a, oe) :: pn)) (v := .ref (ca h)) hg2 h2 rfl hd2) pa_nil hs2) hs) (by decide) (by decide) hs hpl, fun B S0 M L σ H ρ E d hd Q q => ?_⟩
  obtain ⟨v, d', g1, g2, g3, g4⟩ := slot_e E hm
  unfold dIsX at hd
  rw [g2] at hd
  cases hd
  exact ⟨_, g1, _, .ref (ca h), _, _, rfl, fun u r => r, hk, (hide_of g3).2, q _ H (Ex.refl _) (.bl _)⟩
theorem pd_isV (i : Nat) (C : ExcC X.K (ca k)) (hk : PySem.W.kitOne X.K (.ref (ca k)) (.type "ValueError") = some true) (hz : Zc (.ref (ca k)) (some dx) oe) (hf : ∃ vs, oe.data = .fields vs) (h1 : X.mg "isinstance" = none) (h2 : X.mg "ValueError" = none) (hm : Γ[i]? = some (.e a dx k) := by rfl) (hN : X.N[i]? = some n := by rfl)
    (hv : Vis X.env.scope n := by first | exact Or.inl rfl | exact Or.inr (Or.inl rfl) | exact Or.inr (Or.inr rfl)) (hd : (n == ("__debug__" : Str)) = false := by decide) (hcd : (n == ("__classdict__" : Str)) = false := by decide) (hg : Gl X "isinstance" := by rfl) (hg2 : Gl X "ValueError" := by rfl)
    (hs : starEach (.Name n p :: [.Name "ValueError" p2]) X.env = (false, eval (.Name n p) X.env) :: starEach [.Name "ValueError" p2] X.env := by rfl) (hs2 : starEach [.Name "ValueError" p2] X.env = (false, eval (.Name "ValueError" p2) X.env) :: starEach [] X.env := by rfl) (hpl : (backTo pos (starEach [.Name "ValueError" p2] X.env)).any (·.1) = false := by rfl) :
    PDE (X.suite a ((a, oe) :: pn)) ca Γ (.Call (.Name "isinstance" p3) [.Name n p, .Name "ValueError" p2] [] pos) .s (dIsV i) := by
  refine ⟨_, pe_callB (X := X.suite a ((a, oe) :: pn)) (call_isD C hz hf) hg h1 (by decide +kernel) (pa_cons (pe_var (X := X.suite a ((a, oe) :: pn)) (i := i) hN hv hd hcd) (pa_cons (pe_bltn (X := X.suite a ((a, oe) :: pn)) (v := .ty "ValueError") hg2 h2 (by decide +kernel) rfl (by decide) (by decide)) pa_nil hs2) hs) (by decide) (by decide) hs hpl, fun B S0 M L σ H ρ E d hd Q q => ?_⟩
  obtain ⟨v, d', g1, g2, g3, g4⟩ := slot_e E hm
  unfold dIsV at hd
  rw [g2] at hd
  cases hd
  exact ⟨_, g1, _, .type "ValueError", _, _, rfl, fun u r => r, hk, (hide_of g3).2, q _ H (Ex.refl _) (.bl _)⟩
end
end DL

/-! DL: a law's end. -/
namespace DL
open PySem PySem.Spec PyProof.Rows L2
theorem walk_ofX {l : PySem.W.OpenLaw} {n k : Nat} {q : Program} {loose : List Str} {XP : (Str → Option Value) → Heap → Prop} {YP : World → Heap → Prop} {d : DefRec} {x : Str}
    (hn : l.most = some n) (hn2 : n ≤ sizeLine) (hdf : d.params.defaults = []) (hr : Room k callerA)
    (F : ∀ (w : World) (mg : Str → Option Value) (fa : Addr) (h : Heap), YP w h → h.Ns mainGlobals mg → mg d.name = some (.ref fa) →
      ∃ (K : PySem.W.Frag) (fd : FuncData) (sp : Sp), K.In h ∧ (∀ (s : Shared) (u : Value), BindsTo s fd ⟨[u], []⟩ [(x, u)]) ∧
        (∀ (H : Hp) (a : Addr) (ns : List Int), ns.length ≤ n → L2.Only H → SqL K H a (ns.map V.int) → sp [.ref a] H (fun v _ => v = .bl true) fun _ _ _ => False) ∧
        ∀ base : Heap, K.In base → base.Ns mainGlobals mg → FnOk l.prog w K mg base (L2.CX l.prog w) k fa fd [x] sp) :
    PySem.W.WalkO q loose XP YP l.row.toRowW d [] (fun f vs => PySem.call f vs) := by
  refine Att.attach_call hn hdf fun w s₀ s₁ mg mb fa o pm cd doc a vs ns G Y ho hd hcd hmg hobj hints hlen hg => ?_
  obtain ⟨K, fd, sp, KX, hb, hsp, hF⟩ := F w mg fa _ Y G.T.g hmg
  exact law_call KX G.T.g G.T.b G.T.builtins G.T.nolimit hg hobj hints (Nat.le_trans hlen hn2) hr hF hb (fun H hO hS => hsp H a ns hlen hO hS) fun H e s' h => by
    obtain ⟨_, _, _, _, _, _, _, _, _, _, _, _, z⟩ := h
    exact z
/-- the law's promise, met -/
theorem spD_law {c : Ct} {H : Hp} {a : Addr} {ns : List Int} {G : List D → Rs} {E : XK} (hS : SqL c.K H a (ns.map V.int)) (hG : G [.scr ns] = .ok (.bl true)) : SpD c [.s] false G [.ref a] H (fun v _ => v = .bl true) E := by
  refine ⟨H, fun _ => none, ⟨fun _ => False, 0⟩, [[]], [.scr ns], ⟨Ex.refl _, fun a h => h.elim, fun _ _ h => (nomatch h), ⟨fun a h => by (exact nomatch h), trivial⟩, fun a h => ?_, ?_⟩, ?_⟩
  · obtain ⟨l, h1, h2⟩ := h
    rcases List.mem_cons.mp h1 with h1 | h1
    · rw [h1] at h2; exact nomatch h2
    · exact nomatch h1
  · refine .cons ⟨rfl, _, rfl, .scr ?_⟩ .nil
    have e : hide (Msk ⟨fun _ => False, 0⟩ [[]]) H = H := by
      funext b
      unfold hide
      rw [if_neg]
      rintro (z | ⟨l, h1, h2⟩)
      · exact z
      · rcases List.mem_cons.mp h1 with h1 | h1
        · rw [h1] at h2; exact nomatch h2
        · exact nomatch h1
    rw [e]
    exact hS
  · rw [hG]
    intro v H' x r
    have r' : Rep c (hide (fun _ => False) H') v (.bl true) := r
    cases r'
    rfl
end DL

/-! DL: the errors' __init__; a hook with facts of one's own. -/
namespace DL
open PySem PySem.Spec PyProof.Rows L2
section
variable {P : Program} {w : World} {K : PySem.W.Frag} {mg : Str → Option Value} {base : Heap} {x qual : Str} {params : Arguments} {scope : Scope} {dvs : List V} {kws : List (Str × V)} {f : Addr} {fd : FuncData} {p1 p2 p3 p4 : Pos}
theorem fn_X (F : FunD K x qual params [.Assign [.Attribute (.Name "self" p1) "at" p2] (.Name "at" p3) p4] scope dvs kws f fd) (S : FnScope ["self", "at"] ["self", "at"] scope) (k : Nat)
    (v0 : Vis scope "self") (v1 : Vis scope "at") : FnOk P w K mg base (L2.CX P w) (k + 1) f fd ["self", "at"] (spX K) := by
  refine F.ok S (fun vs H Q E h => ?_) (fun cdv A outer s H vs Q E hr h => ?_)
  · obtain ⟨a, C, v, rfl, _⟩ := h
    rfl
  · obtain ⟨a, C, v, rfl, T, hno, ha, q⟩ := h
    have hX : ∀ X : Cx, X = cxOf (L2.CX P w) P w K mg base ["self", "at"] qual scope f cdv A outer s H E → PSs X [.Assign [.Attribute (.Name "self" p1) "at" p2] (.Name "at" p3) p4] (tOst X.K "at" (tVar 0) (tVar 1)) := fun X e => by
      subst e
      exact pss_one (ps_ost (pe_var (i := 0) rfl v0 (by decide) (by decide)) (pe_var (i := 1) rfl v1 (by decide) (by decide)) (by rfl))
    exact ⟨_, hX _ rfl, v, rfl, .ref a, rfl, a, C, rfl, T, hno, .inl ⟨ha, q⟩⟩
end
def obsX (n : Nat) (xs : List (PySem.W.Frag → Bool)) (fa : List He.Fa) (fn : List He.DefD) (g : Addr → Option Obj) : Bool × He.AlD := (xs.all fun f => f (He.frG g (He.asD g n)), He.obsD fa fn (He.frG g (He.asD g n)))
def SaysX (xs : List (PySem.W.Frag → Bool)) (fa : List He.Fa) (fn : List He.DefD) (K : PySem.W.Frag) : Prop := (xs.all (fun f => f K), He.obsD fa fn K) = (true, He.valD fn)
def hookX (n : Nat) (xs : List (PySem.W.Frag → Bool)) (fa : List He.Fa) (fn : List He.DefD) : PySem.W.Hook where
  α := Bool × He.AlD
  obs := fun s => obsX n xs fa fn s.heap.get?
  val := fun _ => (true, He.valD fn)
  says := fun _ h => ∃ K : PySem.W.Frag, K.In h ∧ SaysX xs fa fn K
  of := fun _ _ e => ⟨_, He.frG_in, e⟩
  keeps := fun _ _ _ ⟨K, hK, c⟩ k => ⟨K, PySem.W.Frag.In.keeps hK k, c⟩
theorem obsX_eq {n : Nat} {xs : List (PySem.W.Frag → Bool)} {fa : List He.Fa} {fn : List He.DefD} {g : Addr → Option Obj} {s : Shared} (h : ∀ a, g a = s.heap.get? a) : obsX n xs fa fn g = (hookX n xs fa fn).obs s := by
  have e : g = s.heap.get? := funext h
  rw [e] <;> rfl
theorem SaysX.d {xs : List (PySem.W.Frag → Bool)} {fa : List He.Fa} {fn : List He.DefD} {K : PySem.W.Frag} (h : SaysX xs fa fn K) : He.SaysD fa fn K := congrArg (fun z : Bool × He.AlD => z.2) h
theorem SaysX.x {xs : List (PySem.W.Frag → Bool)} {fa : List He.Fa} {fn : List He.DefD} {K : PySem.W.Frag} (h : SaysX xs fa fn K) (i : Nat) {b : PySem.W.Frag → Bool} (hi : xs[i]? = some b := by rfl) : b K = true :=
  List.all_eq_true.mp (congrArg (fun z : Bool × He.AlD => z.1) h) b (List.mem_of_getElem? hi)
/-! ### an error made, its value read -/
theorem pe_mkat {X : Cx} {e : Expr} {t : L2.St → Hp → XK → Prop} {n : Str} {pos : Pos} (he : PMk X e t) (hb : attributeBase e n X.env (eval e X.env) = eval e X.env := by rfl) :
    PE X (.Attribute e n pos) (fun σ H Q => t σ H fun cls d H' => ∃ (C dd : Addr) (fs : List (Str × V)) (v : V), cls = .ref C ∧ d = some dd ∧ XfC X.K C ∧ PySem.W.findIn X.K (.ref C) n = some none ∧ H' dd = some (.xd fs) ∧ fs.lookup n = some v ∧ Q v H') := by
  refine ⟨fun pins s σ H Q I h => attr_of hb (thn (he pins s σ H _ I h) fun u s1 hu => ?_)⟩
  obtain ⟨a, oe, vs, sI, H1, cls, d, rfl, J, keeps, _, there, hz, hdat, _, _, os, ag, _, C, dd, fs, v, ec, ed, T, hno, hx, hl, q⟩ := hu
  subst ec ed
  have K1 := J.kept (t' := s1.toks) keeps
  have K2 : Inv X pins σ H1 s1 := ⟨K1.ok, os.trans J.os, ag, K1.base, K1.loc, K1.cell, K1.free, K1.freeC, K1.pin, K1.hok, K1.len⟩
  obtain ⟨mA, hns, hr⟩ := (show ObjOk X.prog X.w H1 s1.heap dd (.xd fs) from K2.hok dd _ hx)
  obtain ⟨od, ho, hlk⟩ := lookIn_ns hns
  obtain ⟨w, hw, rw⟩ := RelO.some_of (v := v) (o := mA n) (by rw [← hl]; exact hr n)
  have inst : PySem.W.InstAt s1.heap a oe C (some od) := ⟨there, hz.1, by unfold PySem.W.notCls; rw [hdat] <;> rfl, by rw [hz.2]; exact ho⟩
  exact HandSPX.exc_get K2.kIn inst T.ga T.gg T.exC (PySem.W.findObj_own T.hdC hno rfl (by rw [hlk, hw])) (handed_of rw) ⟨v, H1, K2.tok _, rw, q⟩
section
variable {X : Cx} {ca : Cl → Addr} {Γ : List Md} {e : Expr} {f : DFn} {pos cpos p : Pos} {x : Str} {fI : Addr} {fd : FuncData} {k : Nat}
theorem pd_mkat (ec : Cl) (T : ExcOk X.K ca fI ec) (C : ExcC X.K (ca ec)) (tI : PySem.W.typeIn X.K (.ref fI) = some (.type "function")) (F : FnOk X.prog X.w X.K X.mg X.base (L2.CX X.prog X.w) k fI fd ["self", "at"] (spX X.K)) (hr : Room (k + 1) X.A) (hb : Binds X.K fd ["self", "at"] []) (hm : X.mg x = some (.ref (ca ec)))
    (he : PDE X ca Γ e .s f) (hg : Gl X x := by rfl) (hdb : (x == ("__debug__" : Str)) = false := by decide) (hst : starEach (e :: []) X.env = (false, eval e X.env) :: starEach [] X.env := by rfl) (hpl : (backTo cpos (starEach [] X.env)).any (·.1) = false := by rfl)
    (hab : attributeBase (.Call (.Name x p) (e :: []) [] cpos) "at" X.env (eval (.Call (.Name x p) (e :: []) [] cpos) X.env) = eval (.Call (.Name x p) (e :: []) [] cpos) X.env := by rfl) :
    PDE X ca Γ (.Attribute (.Call (.Name x p) (e :: []) [] cpos) "at" pos) .s f := by
  obtain ⟨t, pe, q⟩ := he
  refine ⟨_, pe_mkat (pmk_oex T.oex T.init tI F hr hb .nil passL hg hm (pa_cons pe pa_nil hst) hdb hst hpl) hab, fun B S0 M L σ H ρ E d hd Q kk => ?_⟩
  refine q B S0 M L σ H ρ E d hd _ fun v H1 x1 rv => ⟨by show 1 ≤ 1000; decide, fun a ha => ?_⟩
  refine ⟨a, ca ec, v, rfl, T.oex, T.no, upd_same, fun dx hdx hne => ⟨rfl, dx, [("at", v)], upd_same, by rw [upd_ne hne, upd_same], ?_, ca ec, dx, [("at", v)], v, rfl, rfl, xf_of C, T.no, ?_, rfl, ?_⟩⟩
  · rw [upd_ne hne] at hdx
    exact hdx
  · rw [upd_same]
  · have hd1 : H1 dx = none := by
      rw [upd_ne hne] at hdx
      exact hdx
    rw [raise_heap ha hd1 hne]
    have x2 : Ex H1 (upd H1 dx (.xd [("at", v)])) := Ex.new hd1
    exact kk v _ (x1.trans x2) (VR.mono (m := .s) (B := B) (M := M) (L := L) x2 rv)
end
/-! ### lent lists of flat items -/
def iEnumF (f : DFn) : List D → Option (List D) := fun ρ => ((f ρ).bind lstOf).bind fun ds => if flats ds = true then some (enumFrom 0 ds) else none
def dCutF (f : DFn) (lo hi : List D → Option (Option Int)) : DFn := fun ρ => (dCut f lo hi ρ).bind fun d => match d with
  | .lst ds => if flats ds = true then some (.lst ds) else none
  | _ => none
theorem flats_get : ∀ {ds : List D} {i : Nat} {d : D}, flats ds = true → ds[i]? = some d → flat d = true
  | [], _, _, _, h => by simp at h
  | d :: ds, 0, _, hf, h => by
    simp at h
    subst h
    rw [flats] at hf
    exact (Bool.and_eq_true_iff.mp hf).1
  | d :: ds, i + 1, _, hf, h => by
    rw [flats] at hf
    exact flats_get (Bool.and_eq_true_iff.mp hf).2 (by simpa using h)
theorem walks_enumB {c : Ct} {B S T : Hp} {a : Addr} {xs : List V} {ds : List D} (h : ∀ H, Ex B H → Ex S H → SqL c.K H a xs) (hT : ∀ H, Ex B H → Ex S H → ∀ a xs, T a = some (.tup xs) → H a = some (.tup xs)) (r : Reps c T xs ds) (hf : flats ds = true) : WalksN c B S (Ite c.K a) (enumFrom 0 ds) :=
  ⟨xs.length, _, _, by rw [enumFrom_length]; exact r.length, walk_enum (K := c.K) (a := a) (xs := xs), h, fun i H v H' hi eB eS y => by
    obtain ⟨T', x, z, rfl, h2, rfl, h4, h5⟩ := y
    cases h4
    obtain ⟨d, g1, g2⟩ := r.get h5
    refine ⟨Ex.new h2, _, enumFrom_get ds 0 i d g1, fun m hm eS' => ?_⟩
    have nm : ¬ m T' := fun z => by
      have q := hm T' z
      rw [h2] at q
      exact q
    have g3 : Rep c (hide m H) _ d := Rep.flat_any (fun a xs h => hide_in (fun z => by
      have q := hm a z
      rw [hT H eB eS a xs h] at q
      exact q) (hT H eB eS a xs h)) g2 (flats_get hf g1)
    refine .tup (hide_in nm upd_same) (.cons ?_ (.cons (g3.mono (hide_mono (Ex.new h2))) .nil))
    rw [Nat.zero_add]
    exact .int _⟩
section
variable {X : Cx} {ca : Cl → Addr} {Γ : List Md} {a b : Expr} {ma mb : Vm} {f fa fb : DFn} {p pos : Pos}
theorem pdin_enumB {l : Expr} {elts : List Expr} {kk : Nat} {tpos : Pos} (hl : PDE X ca Γ l .b f) (hm : X.mg "enumerate" = none) (hg : Gl X "enumerate" := by rfl) (hs : starEach [l] X.env = [(false, eval l X.env)] := by rfl) : PDIN X ca Γ (.Tuple elts kk tpos) (.Call (.Name "enumerate" p) [l] [] pos) (iEnumF f) := by
  obtain ⟨t, pl, q⟩ := hl
  refine ⟨_, pi_enum hg hm (pa_cons pl pa_nil hs) hs, fun B S0 M L σ H ρ E ds hd R k => ?_⟩
  obtain ⟨ds0, e1, hd⟩ := bind_some hd
  obtain ⟨hf, hd⟩ := ite_some' hd
  cases hd
  obtain ⟨a, e2, e1⟩ := bind_some e1
  refine q B S0 M L σ H ρ E a e2 _ fun v H1 x1 r => ?_
  have r' : Rep ⟨X.K, ca⟩ B v a := r
  obtain ⟨p', xs, rfl, hs, rs⟩ := lst_in r' e1
  exact ⟨p', xs, rfl, hs H1 (E.eb.trans x1), k _ H1 x1 (walks_enumB (c := ⟨X.K, ca⟩) (T := B) (fun H eB _ => hs H eB) (fun H eB _ a xs h => eB _ _ h) rs hf)⟩
/-- a slice of a list of flat items, however known -/
theorem pd_cutB {lo hi : Option Expr} {fl fu : List D → Option (Option Int)} {p2 : Pos} (ha : PDE X ca Γ a ma fa) (hl : PDO X ca Γ lo fl) (hu : PDO X ca Γ hi fu) : PDN X ca Γ (.Subscript a (.Slice lo hi none p2) pos) (dCutF fa fl fu) := by
  obtain ⟨t, p, q⟩ := ha
  obtain ⟨tl, pl, ql⟩ := hl
  obtain ⟨tu, pu, qu⟩ := hu
  refine ⟨_, pe_slice sl_list p pl pu, fun B S0 M L σ H ρ E d hd Q k => ?_⟩
  obtain ⟨d0, hd0, hd⟩ := bind_some hd
  obtain ⟨x0, e1, hd0⟩ := bind_some hd0
  obtain ⟨l, e2, hd0⟩ := bind_some hd0
  obtain ⟨u, e3, hd0⟩ := bind_some hd0
  refine q B S0 M L σ H ρ E x0 e1 _ fun x H1 x1 r1 => ?_
  refine ql B S0 M L σ H1 ρ (E.ext x1) l e2 _ fun H2 x2 => ?_
  refine qu B S0 M L σ H2 ρ ((E.ext x1).ext x2) u e3 _ fun H3 x3 => ?_
  have E3 := ((E.ext x1).ext x2).ext x3
  have ex : Ex H H3 := (x1.trans x2).trans x3
  have r3 : Rep ⟨X.K, ca⟩ H3 x x0 := Rep.mono (x2.trans x3) (r1.rep ((E.ext x1).eb))
  cases x0 with
  | lst ds =>
    cases hd0
    obtain ⟨hf, hd⟩ := ite_some' (show (if flats (cutD ds l u) = true then some (D.lst (cutD ds l u)) else none) = some d from hd)
    cases hd
    cases r3 with
    | lst h r =>
      refine ⟨_, _, rfl, SqL.of h, fun p' hp => ?_⟩
      have rc : Reps ⟨X.K, ca⟩ (hide (Msk M L) H3) _ (cutD ds l u) := Reps.flat E3 (cut_reps r l u) hf
      exact k p' _ (ex.trans (Ex.new hp)) (ex.free hp) (.lst upd_same (Owns.sh (reps_updN hp rc)))
  | scr ns =>
    cases hd0
    obtain ⟨hf, hd⟩ := ite_some' (show (if flats (cutD (ns.map .int) l u) = true then some (D.lst (cutD (ns.map .int) l u)) else none) = some d from hd)
    cases hd
    cases r3 with
    | scr h =>
      refine ⟨_, _, rfl, h, fun p' hp => ?_⟩
      have rc : Reps ⟨X.K, ca⟩ (hide (Msk M L) H3) _ (cutD (ns.map .int) l u) := Reps.flat E3 (cut_reps (Reps.of_ints ns) l u) hf
      exact k p' _ (ex.trans (Ex.new hp)) (ex.free hp) (.lst upd_same (Owns.sh (reps_updN hp rc)))
  | _ => cases hd0
end
end DL

/-! DL: texts. -/
namespace DL
open PySem PySem.Spec PyProof.Rows L2
/-- a whole number's text -/
def txtI (i : Int) : Str := Str.ofString (toString i)
def gStr : List D → Option D
  | [.int i] => if i.natAbs.log2 < 1920 then some (.str (txtI i)) else none
  | [.str x] => some (.str x)
  | _ => none
def gIntS : List D → Option D
  | [.str x] => if x.length ≤ 640 then (PySem.intText? x).map .int else none
  | [.bl b] => some (.int (if b then 1 else 0))
  | [.int i] => some (.int i)
  | _ => none
def gLenS : List D → Option D
  | [.str x] => if x.length ≤ sizeLine then some (.int x.length) else none
  | _ => none
def gIxS (a b : D) : Option D := match a, b with
  | .str x, .int i => if x.length ≤ sizeLine then (atI x.cps.toList i).map fun c => .str ⟨#[c]⟩ else none
  | _, _ => none
def gAddS (a b : D) : Option D := match a, b with
  | .str x, .str y => if x.length + y.length ≤ sizeLine then some (.str (x ++ y)) else none
  | _, _ => none
def hasS (i j : Str) : Bool := !(Builtin.Str.occurrences j i 0 j.length 1).isEmpty
def gInS (a b : D) : Option D := match a, b with
  | .str x, .str y => some (.bl (hasS x y))
  | _, _ => none
def gNotInS (a b : D) : Option D := match a, b with
  | .str x, .str y => some (.bl (!hasS x y))
  | _, _ => none
def strOf : D → Option Str
  | .str x => some x
  | _ => none
def asStrs : List D → Option (List Str)
  | [] => some []
  | d :: ds => (strOf d).bind fun x => (asStrs ds).map (x :: ·)
def gJoin (a b : D) : Option D := (strOf a).bind fun x => ((lstOf b).bind asStrs).bind fun ys => if (ys.map (·.length)).sum + ys.length * x.length ≤ 16777216 then some (.str (Txt.join x ys)) else none
def gSplit (a b : D) : Option D := (strOf a).bind fun x => (strOf b).bind fun y => if (y.length == 0) = false ∧ x.length + 2 ≤ sizeLine then some (.lst ((Txt.split x y).map .str)) else none
def iStrD (f : DFn) : List D → Option (List D) := fun ρ => ((f ρ).bind strOf).map fun x => x.cps.toList.map fun c => .str ⟨#[c]⟩
section
variable {X : Cx} {ca : Cl → Addr} {Γ : List Md} {pos p apos cpos : Pos} {a b e : Expr} {ma mb : Vm} {fa fb : DFn} {x : Str} {sh : Bool}
theorem Rep.str_inv {c : Ct} {H : Hp} {v : V} {x : Str} (h : Rep c H v (.str x)) : v = .str x := by cases h; rfl
theorem strOf_some {d : D} {x : Str} (h : strOf d = some x) : d = .str x := by
  cases d <;> cases h
  rfl
theorem asStrs_reps {c : Ct} {H : Hp} : ∀ {vs : List V} {ds : List D} {ys : List Str}, Reps c H vs ds → asStrs ds = some ys → vs = ys.map V.str
  | _, _, _, .nil, h => by cases h; rfl
  | _, _, _, .cons r rs, h => by
    obtain ⟨x, e1, h⟩ := bind_some h
    obtain ⟨ys, e2, h⟩ := Option.map_eq_some_iff.mp h
    subst h
    have e3 := strOf_some e1
    subst e3
    rw [r.str_inv, asStrs_reps rs e2]
    rfl
theorem reps_strs {c : Ct} {H : Hp} : ∀ ys : List Str, Reps c H (ys.map V.str) (ys.map D.str)
  | [] => .nil
  | y :: ys => .cons (.str y) (reps_strs ys)
theorem cg_str : CG X ca (.type "str") gStr := ⟨fun xs H Q => (∃ i, xs = [.int i] ∧ i.natAbs.log2 < 1920 ∧ Q (.str (toString i)) H) ∨ (∃ a, xs = [.str a] ∧ Q (.str a) H),
  fun pins s σ H xs us Q I r h => by
    rcases h with h | h
    · exact call_str_int pins s σ H xs us Q I r h
    · exact SkE.call_str_str pins s σ H xs us Q I r h,
  fun H xs ds d r h => by
    unfold gStr at h
    split at h
    · obtain ⟨h1, h⟩ := ite_some h
      cases h
      cases r with
      | cons r1 r2 =>
        cases r2
        have e := r1.int_inv
        subst e
        exact ⟨_, Im.str _, fun Q q => .inl ⟨_, rfl, h1, q⟩⟩
    · cases h
      cases r with
      | cons r1 r2 =>
        cases r2
        have e := r1.str_inv
        subst e
        exact ⟨_, Im.str _, fun Q q => .inr ⟨_, rfl, q⟩⟩
    · cases h⟩
theorem cg_int : CG X ca (.type "int") gIntS := ⟨fun xs H Q => (∃ a n, xs = [.str a] ∧ PySem.intText? a = some n ∧ a.length ≤ 640 ∧ Q (.int n) H) ∨ (∃ k, xs = [.bl k] ∧ Q (.int (if k then 1 else 0)) H) ∨ (∃ i, xs = [.int i] ∧ Q (.int i) H),
  fun pins s σ H xs us Q I r h => by
    rcases h with h | h | h
    · exact call_int_str pins s σ H xs us Q I r h
    · exact call_int1 pins s σ H xs us Q I r (.inr h)
    · exact call_int1 pins s σ H xs us Q I r (.inl h),
  fun H xs ds d r h => by
    unfold gIntS at h
    split at h
    · obtain ⟨h1, h⟩ := ite_some h
      obtain ⟨n, h2, h⟩ := Option.map_eq_some_iff.mp h
      cases h
      cases r with
      | cons r1 r2 =>
        cases r2
        have e := r1.str_inv
        subst e
        exact ⟨_, Im.int _, fun Q q => .inl ⟨_, _, rfl, h2, h1, q⟩⟩
    · cases h
      cases r with
      | cons r1 r2 =>
        cases r2
        cases r1
        refine ⟨_, Im.int _, fun Q q => .inr (.inl ⟨_, rfl, ?_⟩)⟩
        exact q
    · cases h
      cases r with
      | cons r1 r2 =>
        cases r2
        have e := r1.int_inv
        subst e
        exact ⟨_, Im.int _, fun Q q => .inr (.inr ⟨_, rfl, q⟩)⟩
    · cases h⟩
theorem cg_len_str : CG X ca (.builtin "len") gLenS := ⟨_, call_len_str, fun H xs ds d r h => by
    unfold gLenS at h
    split at h
    · obtain ⟨h1, h⟩ := ite_some h
      cases h
      cases r with
      | cons r1 r2 =>
        cases r2
        have e := r1.str_inv
        subst e
        exact ⟨_, Im.int _, fun Q q => ⟨_, rfl, h1, q⟩⟩
    · cases h⟩
/-- x[i] of a text -/
theorem pd_ixS (ha : PDE X ca Γ a ma fa) (hb : PDE X ca Γ b mb fb) (hs : PlainIx b := by exact fun _ _ => rfl) : PDE X ca Γ (.Subscript a b pos) .s (d2 gIxS fa fb) := by
  obtain ⟨t, p, qa⟩ := ha
  obtain ⟨u, p2, qb⟩ := hb
  refine ⟨_, pe_ix ix_str p p2 hs, fun B S0 M L σ H ρ E d hd Q k => ?_⟩
  obtain ⟨x, e1, hd⟩ := bind_some hd
  obtain ⟨y, e2, hd⟩ := bind_some hd
  unfold gIxS at hd
  split at hd
  · obtain ⟨h1, hd⟩ := ite_some' hd
    obtain ⟨c, h2, hd⟩ := Option.map_eq_some_iff.mp hd
    subst hd
    refine qa B S0 M L σ H ρ E _ e1 _ fun v H1 x1 r1 => ?_
    refine qb B S0 M L σ H1 ρ (E.ext x1) _ e2 _ fun w H2 x2 r2 => ?_
    have ev := (r1.rep (E.eb.trans x1)).str_inv
    have ew := (r2.rep ((E.eb.trans x1).trans x2)).int_inv
    subst ev ew
    exact ⟨_, _, c, rfl, rfl, h1, h2, k _ H2 (x1.trans x2) (.str _)⟩
  · cases hd
theorem bg_addS : BG X ca .Add gAddS := ⟨_, op_add_str, fun H x y a b d rx ry e => by
  unfold gAddS at e
  split at e
  · obtain ⟨h1, e⟩ := ite_some e
    cases e
    have ev := rx.str_inv
    have ew := ry.str_inv
    subst ev ew
    exact ⟨_, Im.str _, fun Q q => ⟨_, _, rfl, rfl, h1, q⟩⟩
  · cases e⟩
theorem og_inS : OG X ca .In gInS := ⟨_, op_in_str, fun H x y a b d rx ry e => by
  unfold gInS at e
  split at e
  · cases e
    have ev := rx.str_inv
    have ew := ry.str_inv
    subst ev ew
    exact ⟨_, .bl _, fun Q q => ⟨_, _, rfl, rfl, q⟩⟩
  · cases e⟩
theorem og_notInS : OG X ca .NotIn gNotInS := ⟨_, op_notin_str, fun H x y a b d rx ry e => by
  unfold gNotInS at e
  split at e
  · cases e
    have ev := rx.str_inv
    have ew := ry.str_inv
    subst ev ew
    exact ⟨_, .bl _, fun Q q => ⟨_, _, rfl, rfl, q⟩⟩
  · cases e⟩
/-- sep.join(list of texts) -/
theorem pd_join (ha : PDE X ca Γ a ma fa) (hb : PDE X ca Γ b mb fb) (hs : starEach [b] X.env = [(false, eval b X.env)] := by rfl) (hbase : attributeBase a "join" X.env (eval a X.env) = eval a X.env := by rfl) (hline : (apos.endLine == pos.line) = true := by rfl) :
    PDE X ca Γ (.Call (.Attribute a "join" apos) [b] [] pos) .s (d2 gJoin fa fb) := by
  obtain ⟨t, p, qa⟩ := ha
  obtain ⟨u, p2, qb⟩ := hb
  refine ⟨_, pe_join p p2 hs hbase hline, fun B S0 M L σ H ρ E d hd Q k => ?_⟩
  obtain ⟨x, e1, hd⟩ := bind_some hd
  obtain ⟨y, e2, hd⟩ := bind_some hd
  obtain ⟨sx, e3, hd⟩ := bind_some hd
  obtain ⟨ys, e4, hd⟩ := bind_some hd
  obtain ⟨h1, hd⟩ := ite_some hd
  obtain ⟨ds, e5, e4⟩ := bind_some e4
  cases hd
  have ex := strOf_some e3
  subst ex
  refine qa B S0 M L σ H ρ E _ e1 _ fun v H1 x1 r1 => ?_
  have ev := (r1.rep (E.eb.trans x1)).str_inv
  subst ev
  refine ⟨⟨_, rfl⟩, ?_⟩
  refine qb B S0 M L σ H1 ρ (E.ext x1) _ e2 _ fun w H2 x2 r2 => ?_
  obtain ⟨p', xs, rfl, hsq, rs⟩ := lst_in (S := H2) (r2.rep ((E.eb.trans x1).trans x2)) e5
  have es := asStrs_reps rs e4
  subst es
  exact ⟨_, _, ys, rfl, rfl, .inl (hsq H2 (Ex.refl _)), h1, k _ H2 (x1.trans x2) (.str _)⟩
/-- x.split(sep) -/
theorem pd_split (ha : PDE X ca Γ a ma fa) (hb : PDE X ca Γ b mb fb) (hs : starEach [b] X.env = [(false, eval b X.env)] := by rfl) (hbase : attributeBase a "split" X.env (eval a X.env) = eval a X.env := by rfl) (hline : (apos.endLine == pos.line) = true := by rfl) :
    PDN X ca Γ (.Call (.Attribute a "split" apos) [b] [] pos) (d2 gSplit fa fb) := by
  obtain ⟨t, p, qa⟩ := ha
  obtain ⟨u, p2, qb⟩ := hb
  refine ⟨_, pe_split p p2 hs hbase hline, fun B S0 M L σ H ρ E d hd Q k => ?_⟩
  obtain ⟨x, e1, hd⟩ := bind_some hd
  obtain ⟨y, e2, hd⟩ := bind_some hd
  obtain ⟨sx, e3, hd⟩ := bind_some hd
  obtain ⟨sy, e4, hd⟩ := bind_some hd
  obtain ⟨⟨h1, h2⟩, hd⟩ := ite_some hd
  cases hd
  have ex := strOf_some e3
  have ey := strOf_some e4
  subst ex ey
  refine qa B S0 M L σ H ρ E _ e1 _ fun v H1 x1 r1 => ?_
  have ev := (r1.rep (E.eb.trans x1)).str_inv
  subst ev
  refine ⟨⟨_, rfl⟩, ?_⟩
  refine qb B S0 M L σ H1 ρ (E.ext x1) _ e2 _ fun w H2 x2 r2 => ?_
  have ew := (r2.rep ((E.eb.trans x1).trans x2)).str_inv
  subst ew
  refine ⟨_, _, rfl, rfl, h1, h2, fun q hq => ?_⟩
  exact k q _ ((x1.trans x2).trans (Ex.new hq)) ((x1.trans x2).free hq) (.lst upd_same (Owns.sh (reps_strs _)))
/-- for c in text -/
theorem pdi_str {tg l : Expr} (hl : PDE X ca Γ l ma fa) : PDI X ca sh Γ tg l (iStrD fa) := by
  obtain ⟨t, p, q⟩ := hl
  refine ⟨_, pi_str p, fun B S0 M L σ H ρ E ds hd R k => ?_⟩
  obtain ⟨x, e1, hd⟩ := Option.map_eq_some_iff.mp hd
  obtain ⟨d, e2, e1⟩ := bind_some e1
  subst hd
  have ex := strOf_some e1
  subst ex
  refine q B S0 M L σ H ρ E _ e2 _ fun v H1 x1 r => ?_
  have ev := (r.rep (E.eb.trans x1)).str_inv
  subst ev
  refine ⟨x, rfl, k _ H1 x1 ⟨x.cps.size, _, _, by simp, walk_str, fun _ _ => True.intro, fun i H v H' hi _ y => ?_⟩⟩
  obtain ⟨y1, c, y2, y3⟩ := y
  subst y3
  refine ⟨y1, .str ⟨#[c]⟩, ?_, .str _⟩
  rw [List.getElem?_map]
  have : x.cps.toList[i]? = some c := by rw [Array.getElem?_toList]; exact y2
  rw [this] <;> rfl
end
end DL

/-! DL: xs[i] = v; text.replace(' ', '  ', 1) behind a test. -/
namespace DL
open PySem PySem.Spec PyProof.Rows L2
open PySem.Builtin PySem.Builtin.Str in
/-- the first y of x, put z in its place -/
def repl1 (x y z : Str) : Str := if (occurrences x y 0 x.length 1).isEmpty = true then x else glued z (partsBetween x (occurrences x y 0 x.length 1) y.length)
open PySem.Builtin PySem.Builtin.Str in
theorem gives_repl1 (x y z : Str) (t u v k : Tok) (hy : (y.length == 0) = false) (h0 : (u == 0 || v == 0) = false) (huv : (u == v) = false) (hyz : (y == z) = false) (hl : x.length + z.length ≤ sizeLine) :
    Gives (PySem.Builtin.«str.replace» ⟨[.str x t, .str y u, .str z v, .int 1 k], []⟩) (if (occurrences x y 0 x.length 1).isEmpty = true then .val (.str x t) else .str (glued z (partsBetween x (occurrences x y 0 x.length 1) y.length))) := by
  show Gives (if ((occurrences x y 0 x.length 1).isEmpty || (y.length == 0 && z.length == 0)) = true then (do rule "str.replace.nothing"; ret (.str x t)) else
          (do let same ← isSame (.str y u) (.str z v)
              if same = true then (do rule "str.replace.old-is-new"; ret (.str x t)) else
              if tooLong (x.length + (occurrences x y 0 x.length 1).length * z.length) = true then unsupported "str.replace:memory" else
              retStr (glued z (partsBetween x (occurrences x y 0 x.length 1) y.length)))) _
  rw [hy, Bool.false_and, Bool.or_false]
  cases hc : (occurrences x y 0 x.length 1).isEmpty
  · have h1 : (occurrences x y 0 x.length 1).length ≤ 1 := StrLaws.occ_length_le x y 0 x.length 1
    have h2 : (occurrences x y 0 x.length 1).length * z.length ≤ 1 * z.length := Nat.mul_le_mul_right _ h1
    have hlt : tooLong (x.length + (occurrences x y 0 x.length 1).length * z.length) = false := by
      unfold tooLong
      exact decide_eq_false (by omega)
    rw [isSame_str_other y z u v h0 huv hyz, hlt]
    exact .of_eq rfl
  · exact .rule (.of_eq rfl)
def sp1 : Str := " "
def sp2 : Str := "  "
def tRepl1 (to : TE) : TE := fun σ H Q => to σ H fun v H1 => ∃ x, v = .str x ∧ x.length + 2 ≤ sizeLine ∧ (repl1 x sp1 sp2).length ≤ sizeLine ∧ Q (.str (repl1 x sp1 sp2)) H1
def gRepl1 (d : D) : Option D := (strOf d).bind fun x => if x.length + 2 ≤ sizeLine ∧ (repl1 x sp1 sp2).length ≤ sizeLine then some (.str (repl1 x sp1 sp2)) else none
section
variable {X : Cx} {ca : Cl → Addr} {W : WX} {J : Jd} {Γ : List Md} {a o e b : Expr} {ta to : TE} {r : R2} {i : Int} {j0 j1 j2 j3 : Nat} {c0 c1 c2 c3 p1 apos cpos rp ip pos pos' p : Pos} {ma mo mb : Vm} {fa fo fb fe : DFn} {x : Str}
theorem repl_run {s1 : Shared} {pins : List (Addr × Obj)} {σ : L2.St} {H : Hp} {Q : VK} (hk : 1 ≤ s1.toks) (I : Inv X pins σ H s1) (ho : PE X o to) (h : tRepl1 to σ H Q)
    (hbase : attributeBase o "replace" X.env (eval o X.env) = eval o X.env) (hline : (apos.endLine == cpos.line) = true)
    (hst : starEach [.Constant (.str " ") j1 c1, .Constant (.str "  ") j2 c2, .Constant (.int 1) j3 c3] X.env = [(false, eval (.Constant (.str " ") j1 c1) X.env), (false, eval (.Constant (.str "  ") j2 c2) X.env), (false, eval (.Constant (.int 1) j3 c3) X.env)]) :
    wpAny (model X.prog X.w) X.A (eval (.Call (.Attribute o "replace" apos) [.Constant (.str " ") j1 c1, .Constant (.str "  ") j2 c2, .Constant (.int 1) j3 c3] [] cpos) X.env) (EP X pins σ Q) X.xe s1 := by
  refine wpAny_Call_method_lateS hbase (by rw [hst]; rfl) hline ?_
  rw [hst]
  refine wpAny_mono (PySem.wpAny_toks (ho.run pins s1 σ H _ I h)) (fun v s2 q => ?_) fun _ _ z => z.2
  obtain ⟨hk2, v', H1, I1, r1, x, e1, hb, hb2, q⟩ := q
  subst e1
  obtain ⟨tx, e2⟩ := r1
  subst e2
  have hz : s2.toks ≠ 0 := by omega
  refine ⟨"str", _, PySem.F.plainAttrs_str, PySem.F.slot_str_replace, PySem.F.type_str_replace, typeIs_str _ _ _, (fun _ e => nomatch e), Calls.callWith_builtin rfl (Calls.evalArgs_plain (Calls.spliced_cons ?_))⟩
  refine Calls.Constant_str (k := j1) (pos := c1) (Calls.spliced_cons (Calls.Constant_str (k := j2) (pos := c2) (Calls.spliced_cons (wpAny_Constant_int (k := j3) (pos := c3) (Calls.spliced_nil ?_)))))
  refine call_gives PySem.F.slot_str_replace (typeIs_str _ _ _) PySem.F.entry_str_replace (PySem.F.args_str_replace_4 _ _ _ _)
    (gives_repl1 x " " "  " tx s2.toks (s2.toks + 1) (s2.toks + 1 + 1) rfl (by simp [hz]) (by simp) (by decide) hb) ?_
  have hb2' := hb2
  have q' := q
  unfold repl1 at hb2' q'
  cases hc : (PySem.Builtin.Str.occurrences x " " 0 x.length 1).isEmpty with
  | true =>
    rw [show (PySem.Builtin.Str.occurrences x sp1 0 x.length 1).isEmpty = true from hc] at q'
    exact ⟨.str x, H1, I1.tok _, ⟨tx, rfl⟩, q'⟩
  | false =>
    rw [show (PySem.Builtin.Str.occurrences x sp1 0 x.length 1).isEmpty = false from hc] at q' hb2'
    exact ⟨hb2', .str _, H1, I1.tok _, ⟨_, rfl⟩, q'⟩
theorem ps_ifRep (hop : OpR X (compareOp .Eq) r) (ha : PE X a ta) (ho : PE X o to)
    (hbase : attributeBase o "replace" X.env (eval o X.env) = eval o X.env := by rfl) (hline : (apos.endLine == cpos.line) = true := by rfl)
    (hst : starEach [.Constant (.str " ") j1 c1, .Constant (.str "  ") j2 c2, .Constant (.int 1) j3 c3] X.env = [(false, eval (.Constant (.str " ") j1 c1) X.env), (false, eval (.Constant (.str "  ") j2 c2) X.env), (false, eval (.Constant (.int 1) j3 c3) X.env)] := by rfl)
    (hm : behindInMarks .Eq (.Constant (.int i) j0 c0) = false := by first | exact nomark _ | rfl) :
    PS X (.If (.Compare a [.Eq] [.Constant (.int i) j0 c0] p1) [.Return (some (.Call (.Attribute o "replace" apos) [.Constant (.str " ") j1 c1, .Constant (.str "  ") j2 c2, .Constant (.int 1) j3 c3] [] cpos)) rp] [] ip)
      (tIfS (L2.tB (tOp r ta (tC (.int i)))) (tRet (tRepl1 to)) tNext) := by
  refine ⟨fun pins s σ H D I h => ?_⟩
  refine wpAny_If (wpAny_isTrue_Compare1 (thn (ha.run pins s σ H _ I h) fun v s1 ⟨x, H1, I1, r1, q1⟩ => wpAny_Constant_int ?_) hm)
  refine wpAny_mono (PySem.wpAny_toks (hop pins { s1 with toks := s1.toks + 1 } σ H1 x (.int i) v _ _ (I1.tok _) r1 ⟨_, rfl⟩ q1)) (fun c s3 q => ?_) fun _ _ z => z.2
  obtain ⟨hk, c', H3, I3, r3, q3⟩ := q
  have hk' : 1 ≤ s3.toks := Nat.le_trans (Nat.le_add_left 1 s1.toks) hk
  obtain ⟨d, rfl, q3⟩ := q3
  cases r3
  refine wpAny_truthy_bool ?_
  cases d with
  | true =>
    rw [if_pos rfl] at q3
    refine wpAny_execs_cons (wpAny_Return_some ?_)
    exact thn (repl_run hk' I3 ho q3 hbase hline hst) fun v s4 ⟨y, H4, I4, r4, q4⟩ => ⟨y, σ, H4, I4, r4, q4⟩
  | false =>
    rw [if_neg (by decide)] at q3
    exact pss_nil.run pins s3 σ H3 D I3 q3
/-- if a == k: return o.replace(' ', '  ', 1) -/
theorem pds_ifRep {k : Nat} (hr : Room k X.A) (ha : PDE X ca Γ a ma fa) (ho : PDE X ca Γ o mo fo) (hrf : J.rf = false)
    (hbase : attributeBase o "replace" X.env (eval o X.env) = eval o X.env := by rfl) (hline : (apos.endLine == cpos.line) = true := by rfl)
    (hst : starEach [.Constant (.str " ") j1 c1, .Constant (.str "  ") j2 c2, .Constant (.int 1) j3 c3] X.env = [(false, eval (.Constant (.str " ") j1 c1) X.env), (false, eval (.Constant (.str "  ") j2 c2) X.env), (false, eval (.Constant (.int 1) j3 c3) X.env)] := by rfl) :
    PDS X ca W J Γ (.If (.Compare a [.Eq] [.Constant (.int i) j0 c0] p1) [.Return (some (.Call (.Attribute o "replace" apos) [.Constant (.str " ") j1 c1, .Constant (.str "  ") j2 c2, .Constant (.int 1) j3 c3] [] cpos)) rp] [] ip) Γ
      (dIfS (DL.tB (d2 gEq fa (dC (.int i)))) (dRet (d1 gRepl1 fo)) dNext) := by
  obtain ⟨r, g1, g2⟩ := og_eq (X := X) (ca := ca) hr
  obtain ⟨t, pa, qa⟩ := ha
  obtain ⟨u, po, qo⟩ := ho
  have qb : DE ⟨X.K, ca⟩ Γ (tC (.int i)) .s (dC (.int i)) := de_c (fun _ _ => .int i)
  refine ⟨_, ps_ifRep g1 pa po hbase hline hst, fun B S0 M L σ H ρ N E pp => ?_⟩
  have qt := (qa.op qb g2).tt
  unfold dIfS at pp
  cases hd : DL.tB (d2 gEq fa (dC (.int i))) ρ with
  | none => rw [hd] at pp; exact pp.elim
  | some d =>
    rw [hd] at pp
    refine qt B S0 M L σ H ρ E d hd _ fun H1 x1 => ?_
    cases d with
    | true =>
      have E1 := E.ext x1
      have pp' : Post ⟨X.K, ca⟩ B S0 M J W Γ N (dRet (d1 gRepl1 fo) ρ) := pp
      unfold dRet at pp'
      cases he : d1 gRepl1 fo ρ with
      | none => rw [he] at pp'; exact pp'.elim
      | some e =>
        rw [he] at pp'
        obtain ⟨y, e1, he⟩ := bind_some (show (fo ρ).bind gRepl1 = some e from he)
        obtain ⟨z, e2, he⟩ := bind_some (show (strOf y).bind (fun x => if x.length + 2 ≤ sizeLine ∧ (repl1 x sp1 sp2).length ≤ sizeLine then some (D.str (repl1 x sp1 sp2)) else none) = some e from he)
        obtain ⟨⟨h1, h2⟩, he⟩ := ite_some he
        cases he
        have ey := strOf_some e2
        subst ey
        rw [if_pos rfl]
        refine qo B S0 M L σ H1 ρ E1 _ e1 _ fun v H2 x2 r2 => ?_
        have ev := (r2.rep (E1.eb.trans x2)).str_inv
        subst ev
        exact ⟨z, rfl, h1, h2, pp' _ H2 ((E1.eb).trans x2) (by unfold ResR; rw [hrf]; exact .str _)⟩
    | false =>
      rw [if_neg (by decide)]
      exact pp L σ H1 (E.ext x1)
theorem setItem_lst {prog : Program} {w : World} {A : Around} {E : Value → Shared → Prop} {s : Shared} {l : Addr} {its : List Value} {n : Nat} {k : Int} {t : Tok} {v : Value} {Q : Unit → Shared → Prop}
    (e : s.heap.get? l = some { cls := .type "list", data := .seq its.toArray n }) (h0 : 0 ≤ k) (hfit : k < 2 ^ 63) (hn : k < its.length)
    (hQ : Q () { s with heap := s.heap.update l (Obj.mapSeq (·.setIfInBounds k.toNat v)) }) : wpAny (model prog w) A (setItem (.ref l) (.int k t) v) Q E s := by
  have hl : s.heap.IsList l its.toArray := ⟨_, e, rfl, n, rfl⟩
  have hn' : k < its.toArray.size := by rw [List.size_toArray]; exact hn
  clear hn
  unfold setItem
  try with_reducible refine wpAny_holding ?_
  first | refine wpAny_bind (wpAny_pure ?_) | skip
  refine wpAny_bind (wpAny_sequenceKey hl.typeIs (by decide) ?_)
  refine wpAny_bind (wpAny_callSpecial?_slot (name := Str.ofString "__setitem__") hl.typeIs PySem.slot_list_setitem
    (wpAny_call_entry PySem.slot_list_setitem hl.typeIs PySem.entry_list_setitem ?_ (PySem.args_list_setitem _ _ _)))
  show wpAny _ _ (Builtin.List.listSubscript? (.int k t) >>= _) _ _ s
  refine wpAny_bind (wpAny_listSubscript_int (fitsIndex_of h0 hfit) ?_)
  clear hfit
  obtain ⟨j, rfl⟩ := Int.eq_ofNat_of_zero_le h0
  have hj : j < its.toArray.size := by omega
  have hx' : its.toArray[j]? = some its.toArray[j] := Array.getElem?_eq_getElem hj
  show wpAny _ _ ((seqItemAt l j >>= fun r => pure (r.map (j, ·))) >>= _) _ _ s
  refine wpAny_bind (wpAny_bind (wpAny_seqItemAt e rfl (wpAny_pure ?_)))
  rw [hx']
  show wpAny _ _ (setSeqItemAt l j v >>= _) _ _ s
  refine wpAny_bind (wpAny_setSeqItemAt e rfl ?_)
  first
    | exact wpAny_bind (wpAny_pure (wpAny_pure ⟨.none, rfl, wpAny_pure hQ⟩))
    | exact wpAny_pure ⟨.none, rfl, wpAny_pure hQ⟩
def tIxSet (tv td ty : TE) : TS := fun D σ H => tv σ H fun v H1 => td σ H1 fun x H2 => ty σ H2 fun y H3 => ∃ l xs, ∃ k : Int, x = .ref l ∧ y = .int k ∧ H3 l = some (.lst xs) ∧ 0 ≤ k ∧ k < xs.length ∧ D.nx σ (upd H3 l (.lst (xs.set k.toNat v)))
theorem vals_set : ∀ {xs : List V} {us : List Value} {i : Nat} {x : V} {u : Value}, Vals xs us → RelV x u → Vals (xs.set i x) (us.set i u)
  | _, _, _, _, _, .nil, _ => .nil
  | _, _, 0, _, _, .cons r t, h => .cons h t
  | _, _, i + 1, _, _, .cons r t, h => .cons r (vals_set t h)
theorem ps_ixset {td tv ty : TE} (hv : PE X e tv) (ho : PE X o td) (hi : PE X b ty) (hs : swapsWith e (some (.Subscript o b pos')) pos.line X.env = pure false) :
    PS X (.Assign [.Subscript o b pos'] e pos) (tIxSet tv td ty) := by
  refine ⟨fun pins s σ H D I h => ?_⟩
  refine wpAny_Assign_Subscript (thn (hv.run pins s σ H _ I h) fun r s1 ⟨v, H1, I1, rv, q1⟩ => thn (ho.run pins s1 σ H1 _ I1 q1) fun u s2 ⟨x, H2, I2, rx, q2⟩ => thn (hi.run pins s2 σ H2 _ I2 q2) fun iv s3 ⟨y, H3, I3, ry, l, xs, k, ex, ey, hH, h0, hk, q3⟩ => ?_) hs
  subst ex ey
  obtain rfl : u = Value.ref l := rx
  obtain ⟨tk, rfl⟩ := ry
  obtain ⟨z, its, n, rr, hl, eh⟩ := I3.lstM hH
  have hz : sizeLine = 16777216 := rfl
  refine setItem_lst eh h0 (by omega) (by omega) ?_
  exact ⟨σ, _, I3.lset (its' := its.set k.toNat r) (t' := s3.toks) hH eh (by simp) (vals_set rr rv) (by rw [List.length_set]; exact z), q3⟩
def ixK (i : Nat) (d a b : Option D) (ρ : List D) : Out := match d, a, b with
  | some d, some (.lst ds), some (.int k) => if 0 ≤ k ∧ k < ds.length then .nx (ρ.set i (.lst (ds.set k.toNat d))) else .bad
  | _, _, _ => .bad
def dIxSet (i : Nat) (fk fv : DFn) : SFn := fun ρ => ixK i (fv ρ) ρ[i]? (fk ρ) ρ
theorem reps_set {c : Ct} {H : Hp} : ∀ {xs : List V} {ds : List D} {i : Nat} {x : V} {d : D}, Reps c H xs ds → Rep c H x d → Reps c H (xs.set i x) (ds.set i d)
  | _, _, _, _, _, .nil, _ => .nil
  | _, _, 0, _, _, .cons r t, h => .cons h t
  | _, _, i + 1, _, _, .cons r t, h => .cons r (reps_set t h)
/-- xs[k] = v, of a list of one's own -/
theorem pds_ixset (i : Nat) (hb : PDE X ca Γ b mb fb) (he : PDE X ca Γ e .s fe) (hm : Γ[i]? = some .f := by rfl) (hi : X.N[i]? = some x := by rfl) (hv : Vis X.env.scope x := by first | exact Or.inl rfl | exact Or.inr (Or.inl rfl) | exact Or.inr (Or.inr rfl)) (hd : (x == ("__debug__" : Str)) = false := by decide) (hcd : (x == ("__classdict__" : Str)) = false := by decide)
    (hs : swapsWith e (some (.Subscript (.Name x p) b pos')) pos.line X.env = pure false := by rfl) : PDS X ca W J Γ (.Assign [.Subscript (.Name x p) b pos'] e pos) Γ (dIxSet i fb fe) := by
  obtain ⟨t, p1, q1⟩ := hb
  obtain ⟨u, p2, q2⟩ := he
  refine ⟨_, ps_ixset p2 (pe_var (i := i) hi hv hd hcd) p1 hs, fun B S0 M L σ H ρ N E pp => ?_⟩
  unfold dIxSet at pp
  cases h1 : fe ρ with
  | none => rw [h1] at pp; exact pp.elim
  | some d =>
    cases h2 : ρ[i]? with
    | none => rw [h1, h2] at pp; exact pp.elim
    | some a0 =>
      cases a0 with
      | lst ds =>
        cases h3 : fb ρ with
        | none => rw [h1, h2, h3] at pp; exact pp.elim
        | some k0 =>
          cases k0 with
          | int k =>
            rw [h1, h2, h3] at pp
            have pp' : Post ⟨X.K, ca⟩ B S0 M J W Γ N (if 0 ≤ k ∧ k < ds.length then .nx (ρ.set i (.lst (ds.set k.toNat d))) else .bad) := pp
            split at pp'
            · rename_i hk
              refine q2 B S0 M L σ H ρ E d h1 _ fun v H1 x1 rv => ?_
              have E1 := E.ext x1
              obtain ⟨q, d0, g1, g2, g3, _⟩ := slot_f E1 hm
              rw [h2] at g3
              cases g3
              refine ⟨_, g2, ?_⟩
              refine q1 B S0 M L σ H1 ρ E1 _ h3 _ fun w H2 x2 rk => ?_
              have E2 := E1.ext x2
              obtain ⟨q', d1, g1', g2', g3', ho⟩ := slot_f E2 hm
              rw [g2] at g2'
              cases g2'
              rw [h2] at g3'
              cases g3'
              have rv2 : Rep ⟨X.K, ca⟩ (hide (Msk M L) H2) v d := VR.mono (m := .s) (B := B) (M := M) (L := L) x2 rv
              obtain ⟨xs, j1, j2⟩ := ho.flat_lst
              have ew := (rk.rep E2.eb).int_inv
              subst ew
              refine ⟨q, xs, k, rfl, rfl, j1, hk.1, by rw [j2.length]; exact hk.2, ?_⟩
              exact pp' L σ _ (E2.relist hm g1 g2 (reps_set j2 rv2))
            · exact pp'.elim
          | _ => rw [h1, h2, h3] at pp; exact pp.elim
      | _ => rw [h1, h2] at pp; exact pp.elim
end
end DL

/-! DL: dict(pairs) with keys that are tuples; list(d); <= of tuples; isinstance of one's own classes. -/
namespace DL
open PySem PySem.Spec PyProof.Rows L2
section
variable {X : Cx}
theorem pairs_ofT {pins : List (Addr × Obj)} {σ : L2.St} {H : Hp} {s : Shared} (I : Inv X pins σ H s) : ∀ {ps : List Addr} {kvs : List (List Key × V)}, Paired (fun p kv => ∃ b, H b = some (.tup (kv.1.map kV)) ∧ SqT X.K H p [.ref b, kv.2]) ps kvs →
    ∃ xs : List (List Key × Addr × Value), Paired (fun (p : List Key × V) (q : List Key × Addr × Value) => p.1 = q.1 ∧ H q.2.1 = some (.tup (p.1.map kV)) ∧ RelV p.2 q.2.2) kvs xs ∧ xs.length = ps.length ∧ ∀ (j : Nat) (q : List Key × Addr × Value), xs[j]? = some q → ∃ b : Addr, ps[j]? = some b ∧ IsTup s.heap b #[.ref q.2.1, q.2.2]
  | _, _, .nil => ⟨[], .nil, rfl, fun j q e => by simp at e⟩
  | _, _, .cons (a := p) (b := kv) h t => by
    obtain ⟨xs, r, hl, hp⟩ := pairs_ofT I t
    obtain ⟨b, hb, h⟩ := h
    obtain ⟨its, rv, ht, _⟩ := I.tuple h
    obtain ⟨u, y, ei, ru, ry⟩ := vals2 rv
    subst ei
    cases ru
    refine ⟨(kv.1, b, y) :: xs, .cons ⟨rfl, hb, ry⟩ r, by rw [List.length_cons, List.length_cons, hl], fun j q e => ?_⟩
    cases j with
    | zero =>
      have e' : (kv.1, b, y) = q := Option.some.inj e
      subst e'
      exact ⟨p, rfl, ht⟩
    | succ j =>
      obtain ⟨b', e1, e2⟩ := hp j q (by simpa using e)
      exact ⟨b', by simpa using e1, e2⟩
/-- dict(xs) of a list of pairs (tuple, value), the keys unlike -/
theorem call_dictPT (hu : X.A.units + 3 < cLine) (hcalm : X.calm = true) : CallR X (.type "dict") (fun xs H Q => ∃ (a : Addr) (ps : List Addr) (kvs : List (List Key × V)), xs = [.ref a] ∧ SqL X.K H a (ps.map V.ref) ∧
    Paired (fun p kv => ∃ b, H b = some (.tup (kv.1.map kV)) ∧ SqT X.K H p [.ref b, kv.2]) ps kvs ∧ (kvs.map (·.1)).Nodup ∧ ∀ p, H p = none → Q (.ref p) (upd H p (.dT kvs))) := by
  intro pins s σ H xs us Q I r q
  obtain ⟨a, ps, kvs, ex, hq, hp, hnd, q⟩ := q
  subst ex
  obtain ⟨u, eu, rx⟩ := vals1 r
  subst eu
  cases rx
  obtain ⟨its, rv, pl, hz⟩ := I.list hq
  have ei := refs_at rv
  subst ei
  rw [List.length_map] at hz
  obtain ⟨ks, rel, hl, hpr⟩ := pairs_ofT I hp
  obtain ⟨o, n, ho, hc, hd, hdat⟩ := pl
  have hlk : kvs.length = ks.length := Paired.length rel
  have ekeys : ks.map (·.1) = kvs.map (·.1) := by
    clear hpr hl hp hnd hlk q
    induction rel with
    | nil => rfl
    | cons h _ ih => rw [List.map_cons, List.map_cons, ih, h.1]
  have hnk : (ks.map (·.1)).Nodup := by rw [ekeys]; exact hnd
  have P := PairArg.list (prog := X.prog) (w := X.w) a ((ps.map Value.ref).toArray) (fun j => ps.getD j 0) (ks.map fun q => (Value.ref q.2.1, q.2.2))
  have hitems : PairItems s.heap ((ps.map Value.ref).toArray) (fun j => ps.getD j 0) (ks.map fun q => (Value.ref q.2.1, q.2.2)) := by
    refine ⟨by rw [List.size_toArray, List.length_map, List.length_map, hl], fun j k v e => ?_⟩
    rw [List.getElem?_map] at e
    obtain ⟨q', e1, e2⟩ := Option.map_eq_some_iff.mp e
    cases e2
    obtain ⟨b, b1, b2⟩ := hpr j q' e1
    refine ⟨?_, .inl ?_⟩
    · rw [List.getElem?_toArray, List.getElem?_map, b1]
      show some (Value.ref b) = some (Value.ref (ps.getD j 0))
      rw [List.getD_eq_getElem?_getD, b1]
      rfl
    · show s.heap.IsTuple (ps.getD j 0) _
      rw [List.getD_eq_getElem?_getD, b1]
      exact b2
  have hhave : PairsHaveH (tupleKind (mixKind X.prog X.w)) (ks.map fun q => (Value.ref q.2.1, q.2.2)).length (PairRel (ks.map fun q => (Value.ref q.2.1, q.2.2))) ks := by
    refine ⟨by rw [List.length_map], fun i key v e => ?_⟩
    have e : (ks.map fun q => (Value.ref q.2.1, q.2.2))[i]? = some (key, v) := e
    rw [List.getElem?_map] at e
    obtain ⟨q', e1, e2⟩ := Option.map_eq_some_iff.mp e
    cases e2
    exact ⟨q'.1, q'.2.1, e1, rfl⟩
  have hstay : KeysStay (tupleKind (mixKind X.prog X.w)) s.heap s.heap.objs.size [] ks := by
    intro h' hk x hx
    obtain ⟨p, hp'⟩ : ∃ p : List Key × V, p.1 = x.1 ∧ H x.2.1 = some (.tup (p.1.map kV)) := by
      clear hl hpr hhave hitems P hnk ekeys hnd hp hlk q
      induction rel with
      | nil => exact nomatch hx
      | cons h _ ih =>
        rcases List.mem_cons.mp hx with e | e
        · subst e
          exact ⟨_, h.1, h.2.1⟩
        · exact ih e
    obtain ⟨o', items, n', h1, h2, h3, h4⟩ := key_of (P := X.prog) (w := X.w) I.hok hp'.2
    rw [hp'.1] at h4
    exact ⟨o', items, n', hk _ _ (Nat.ne_of_lt (Heap.lt_size h1)) (by simp) h1, h2, h3, h4⟩
  refine call_dict_pairsH (ps := ks) P (I.ok.hd hcalm) ?_ ⟨⟨o, n, ho, hc, hd, hdat⟩, hitems⟩ hhave hstay (by rw [List.length_map]; omega) fun h' tk hd' k => ?_
  · show X.A.units + 1 + 1 < cLine
    omega
  · have hm : (s.heap.objs.size == sysModules) = false := beq_eq_false_iff_ne.mpr (Nat.ne_of_gt I.big)
    rw [storedAllH_nil_of_nodup ks hnk] at hd'
    obtain ⟨o', es, ep, h1, h2, h3, h4, _, h5⟩ := hd'
    have fr := I.hok.fresh (Nat.le_refl _)
    refine ⟨.ref s.heap.objs.size, upd H s.heap.objs.size (.dT kvs), I.laid (t' := tk) (fun b o e => k b o (by simp) e) (Nat.le_refl _) ?_, rfl, q _ fr⟩
    refine (show ObjOk X.prog X.w _ _ _ (.dT kvs) from ⟨by rw [hlk]; omega, hm, ks, L2.Paired.mapP rel fun p q' ⟨e1, e2, e3⟩ => ⟨e1, ?_, e3⟩, o', es, ep, h1, h2, h3, h4, h5⟩)
    rw [upd_ne (ne_of_none e2 fr)]
    exact e2
end
def asPairs : List D → Option (List (List Int × D))
  | [] => some []
  | .tup [k, v] :: ds => (asT k).bind fun ns => (asPairs ds).map ((ns, v) :: ·)
  | _ :: _ => none
def gDictP (a : D) : Option D := ((lstOf a).bind asPairs).bind fun kvs => if (kvs.map (·.1)).Nodup then some (.dT kvs) else none
theorem pairs_reps {c : Ct} {S H : Hp} (x : Ex S H) : ∀ {xs : List V} {ds : List D} {kvs : List (List Int × D)}, Reps c S xs ds → asPairs ds = some kvs →
    ∃ (ps : List Addr) (es : List (List Key × V)), xs = ps.map V.ref ∧ Paired (fun p (kv : List Key × V) => ∃ b, H b = some (.tup (kv.1.map kV)) ∧ SqT c.K H p [.ref b, kv.2]) ps es ∧ KVs c S eT es kvs
  | _, _, _, .nil, h => by cases h; exact ⟨[], [], rfl, .nil, .nil⟩
  | _, _, _, .cons (d := d) r rs, h => by
    unfold asPairs at h
    split at h
    · rename_i e
      cases e
    · rename_i k v ds' e
      cases e
      obtain ⟨ns, e1, h⟩ := bind_some h
      obtain ⟨kvs', e2, h⟩ := Option.map_eq_some_iff.mp h
      subst h
      obtain ⟨ps, es, h1, h2, h3⟩ := pairs_reps x rs e2
      subst h1
      cases r with
      | @tup aa _ _ hr rr =>
        cases rr with
        | cons rk rr =>
          cases rr with
          | @cons y _ _ _ rv rr =>
            cases rr
            obtain ⟨b, rfl, hb⟩ := rk.key e1
            exact ⟨aa :: ps, (eT ns, y) :: es, rfl, .cons ⟨b, x _ _ hb, SqT.of (x _ _ hr)⟩ h2, .cons rv h3⟩
    · cases h
theorem KVs.keysE {c : Ct} {S : Hp} : ∀ {es : List (List Key × V)} {kvs : List (List Int × D)}, KVs c S eT es kvs → es.map (·.1) = (kvs.map (·.1)).map eT
  | _, _, .nil => rfl
  | _, _, .cons _ r => by rw [List.map_cons, List.map_cons, List.map_cons, r.keysE]
section
variable {X : Cx} {ca : Cl → Addr} {Γ : List Md} {pos p : Pos} {a b e : Expr} {ma mb : Vm} {fa fb : DFn}
/-- dict(list of pairs (tuple, value)) -/
theorem pd_dictP {k : Nat} (hr : Room k X.A) (ha : PDE X ca Γ a .s fa) (hm : X.mg "dict" = none) (hg : Gl X "dict" := by rfl) (hc : X.calm = true := by rfl)
    (he : starEach (a :: []) X.env = (false, eval a X.env) :: starEach [] X.env := by rfl) (hpl : (backTo pos (starEach [] X.env)).any (·.1) = false := by rfl) : PDN X ca Γ (.Call (.Name "dict" p) [a] [] pos) (d1 gDictP fa) := by
  obtain ⟨t, pa, q⟩ := ha
  have hu : X.A.units + 3 < cLine := by have := hr.units; omega
  refine ⟨_, pe_callTy (call_dictPT hu hc) hg hm (by decide +kernel) (pa_cons pa pa_nil he) (by decide) (by decide) he hpl, fun B S0 M L σ H ρ E d hd Q k => ?_⟩
  obtain ⟨x, e1, hd⟩ := bind_some hd
  obtain ⟨kvs, e2, hd⟩ := bind_some hd
  obtain ⟨ds, e3, e2⟩ := bind_some e2
  obtain ⟨hnd, hd⟩ := ite_some hd
  cases hd
  refine q B S0 M L σ H ρ E x e1 _ fun v H1 x1 rv => ?_
  obtain ⟨p', xs, rfl, hsq, rs⟩ := lst_in (S := hide (Msk M L) H1) rv e3
  obtain ⟨ps, es, rfl, h2, h3⟩ := pairs_reps hide_ex rs e2
  refine ⟨p', ps, es, rfl, hsq H1 hide_ex, h2, ?_, fun pp hp => ?_⟩
  · rw [h3.keysE]
    exact (List.pairwise_map).mpr (hnd.imp fun h z => h (eT_inj _ _ z))
  · refine k pp _ (x1.trans (Ex.new hp)) (x1.free hp) ?_
    refine KVs.ownT (es := es) (h3.mono (hide_le fun b u h e => ⟨fun z => ?_, (upd_ne (ne_of_none e hp)).trans e⟩)) upd_same
    rcases z with z | z
    · exact h z
    · rw [z, hp] at e
      exact (nomatch e)
def gKeysD (a : D) : Option D := match a with
  | .dT kvs => some (.lst (kvs.map fun kv => .tup (kv.1.map .int)))
  | _ => none
theorem flats_keys : ∀ ks : List (List Int × D), flats (ks.map fun kv => D.tup (kv.1.map .int)) = true
  | [] => by rw [List.map_nil, flats]
  | k :: ks => by
    rw [List.map_cons, flats, flats_keys ks, flat]
    have : ∀ ns : List Int, flats (ns.map .int) = true := fun ns => by
      induction ns with
      | nil => rw [List.map_nil, flats]
      | cons n ns ih => rw [List.map_cons, flats, ih, flat]; rfl
    rw [this]
    rfl
theorem reps_intsH {c : Ct} {H : Hp} : ∀ ns : List Int, Reps c H (ns.map V.int) (ns.map D.int)
  | [] => .nil
  | n :: ns => .cons (.int n) (reps_intsH ns)
theorem reps_keys {c : Ct} {S H : Hp} : ∀ {es : List (List Key × V)} {kvs : List (List Int × D)} {bs : List Addr}, KVs c S eT es kvs → IsKeys H es bs → Reps c H (bs.map V.ref) (kvs.map fun kv => D.tup (kv.1.map .int))
  | _, _, _, .nil, h => by cases h; exact .nil
  | _, _, _, .cons (k := k) r t, h => by
    cases h with
    | cons h1 h2 =>
      refine .cons (.tup (xs := k.map V.int) ?_ (reps_intsH k)) (reps_keys t h2)
      rw [h1]
      show some (HO.tup ((eT k).map kV)) = _
      unfold eT
      rw [List.map_map]
      rfl
/-- list(d) of a dict with keys that are tuples: its keys -/
theorem pd_keysD (ha : PDE X ca Γ a ma fa) (hm : X.mg "list" = none) (hg : Gl X "list" := by rfl) (hc : X.calm = true := by rfl)
    (he : starEach (a :: []) X.env = (false, eval a X.env) :: starEach [] X.env := by rfl) (hpl : (backTo pos (starEach [] X.env)).any (·.1) = false := by rfl) : PDN X ca Γ (.Call (.Name "list" p) [a] [] pos) (d1 gKeysD fa) := by
  obtain ⟨t, pa, q⟩ := ha
  refine ⟨_, pe_callTy (call_list_dT hc) hg hm (by decide +kernel) (pa_cons pa pa_nil he) (by decide) (by decide) he hpl, fun B S0 M L σ H ρ E d hd Q k => ?_⟩
  obtain ⟨x, e1, hd⟩ := bind_some hd
  cases x with
  | dT kvs =>
    cases hd
    refine q B S0 M L σ H ρ E _ e1 _ fun v H1 x1 rv => ?_
    have E1 := E.ext x1
    obtain ⟨S, dr, _⟩ := VR.dictR E1 rv rfl
    obtain ⟨a', es, rfl, h1, h2⟩ := dr
    refine ⟨a', es, rfl, .inl h1, fun pp bs hp hk => ?_⟩
    refine k pp _ (x1.trans (Ex.new hp)) (x1.free hp) (.lst upd_same (Owns.sh (reps_updN hp ?_)))
    exact Reps.flat E1 (reps_keys h2 hk) (flats_keys kvs)
  | _ => cases hd
/-- the order of tuples of ints -/
def leTB (ns ms : List Int) : Bool := Ob.lexAt (fun j => decide (ns.getD j 0 = ms.getD j 0)) (fun j => decide (ns.getD j 0 ≤ ms.getD j 0)) (decide (ns.length ≤ ms.length)) 0 (min ns.length ms.length)
def gLeT (a b : D) : Option D := (asT a).bind fun ns => (asT b).bind fun ms => some (.bl (leTB ns ms))
theorem Rep.tupI {c : Ct} {H : Hp} {v : V} {d : D} {ns : List Int} (r : Rep c H v d) (e : asT d = some ns) : ∃ b, v = .ref b ∧ SqT c.K H b (ns.map V.int) := by
  obtain ⟨b, h1, h2⟩ := r.key e
  refine ⟨b, h1, SqT.of ?_⟩
  rw [h2]
  unfold eT
  rw [List.map_map]
  rfl
theorem og_leT {k : Nat} (hr : Room k X.A) : OG X ca .LtE gLeT := ⟨_, op_leT (Nat.lt_of_le_of_lt (Nat.le_add_right _ _) hr.units), fun H x y a b d rx ry e => by
  obtain ⟨ns, e1, e⟩ := bind_some e
  obtain ⟨ms, e2, e⟩ := bind_some e
  cases e
  obtain ⟨a', rfl, h1⟩ := rx.tupI e1
  obtain ⟨b', rfl, h2⟩ := ry.tupI e2
  exact ⟨_, .bl _, fun Q q => ⟨a', b', ns, ms, rfl, rfl, h1, h2, q⟩⟩⟩
/-! ### isinstance of a class of one's own -/
def insB (K : PySem.W.Frag) (C : Addr) : Bool := decide (PySem.W.findIn K (.ref C) "__class__" = some (some (.builtin "object.__class__"))) && (decide (PySem.W.specialIn K (.builtin "object.__class__") "__get__" = some (some (.builtin "getset_descriptor.__get__"))) &&
  (decide (PySem.W.takesIn K (.builtin "object.__class__") = some true) && (decide (PySem.W.mroIn K C (.type "object") = some true) && decide (PySem.W.kitOne K (.ref C) (.ref C) = some true))))
theorem insB_ok {K : PySem.W.Frag} {C : Addr} (c : Cls K C) (h : insB K C = true) : C8.InsC K C := by
  unfold insB at h
  simp only [Bool.and_eq_true, decide_eq_true_eq] at h
  exact ⟨c, h.1, h.2.1, h.2.2.1, h.2.2.2.1, h.2.2.2.2⟩
def gIsO (k : Cl) (a : D) : Option D := match a with
  | .obj k' _ => if k' = k then some (.bl true) else none
  | _ => none
theorem pd_isO (k : Cl) {y : Str} {p2 : Pos} (hC : C8.InsC X.K (ca k)) (ha : PDE X ca Γ a ma fa) (hm : X.mg "isinstance" = none) (hy : X.mg y = some (.ref (ca k))) (hg : Gl X "isinstance" := by rfl) (hgy : Gl X y := by rfl) (hdy : (y == ("__debug__" : Str)) = false := by decide)
    (he : starEach [a, .Name y p2] X.env = (false, eval a X.env) :: starEach [.Name y p2] X.env := by rfl) (he2 : starEach [.Name y p2] X.env = (false, eval (.Name y p2) X.env) :: starEach [] X.env := by rfl) (hpl : (backTo pos (starEach [.Name y p2] X.env)).any (·.1) = false := by rfl) :
    PDE X ca Γ (.Call (.Name "isinstance" p) [a, .Name y p2] [] pos) .s (d1 (gIsO k) fa) := by
  obtain ⟨t, pa, q⟩ := ha
  refine ⟨_, pe_callB (C8.call_isC hC) hg hm (by decide +kernel) (pa_cons pa (pa_cons (pe_glob hgy hy (v := .ref (ca k)) rfl hdy) pa_nil he2) he) (by decide) (by decide) he hpl, fun B S0 M L σ H ρ E d hd Q kk => ?_⟩
  obtain ⟨x, e1, hd⟩ := bind_some hd
  cases x with
  | obj k' fs =>
    obtain ⟨hk, hd2⟩ := ite_some (show (if k' = k then some (D.bl true) else none) = some d from hd)
    subst hk
    have hd2 := Option.some.inj hd2
    subst hd2
    refine q B S0 M L σ H ρ E _ e1 _ fun v H1 x1 rv => ?_
    have r1 := rv.rep (E.eb.trans x1)
    cases r1 with
    | obj h r => exact ⟨_, _, _, rfl, h, kk _ H1 x1 (.bl true)⟩
  | _ => cases hd
end
end DL

/-! DL: dicts whose keys are tuples: d == e of equal ones, dict(d). -/
namespace DL
open PySem PySem.Spec PyProof.Rows L2 PySem.Calls PyProof.V
section
variable {prog : Program} {w : World} {K : Type} [DecidableEq K] {knd : HeapKind prog w K} {A : Around} {E : Value → Shared → Prop} {s : Shared}
/-- two dicts of one content -/
theorem samePairsT {nm : String} {a b : Addr} {xs ys : List (K × Addr × Value)} {Q : Bool → Shared → Prop} (ha : (a == sysModules) = false) (hb : (b == sysModules) = false)
    (da : s.heap.DictOfH knd a xs) (db : s.heap.DictOfH knd b ys) (hu : knd.room A) (hl : xs.length = ys.length)
    (hits : ∀ x ∈ xs, ∃ (j : Nat) (a' : Addr) (y : Value), ys[j]? = some (x.1, a', y) ∧ SeqAt.EqP prog w A s x.2.2 y true) (h : Q true s) :
    wpAny (model prog w) A (Builtin.Dict.samePairs nm a b) Q E s := by
  obtain ⟨oa, es, ep, hoa, _, hda, hea, hia, _⟩ := da
  obtain ⟨ob, es', ep', hob, _, hdb, heb, hib, hnb⟩ := db
  have hla : es.size = xs.length := size_of_entries hea
  have hlb : es'.size = ys.length := size_of_entries heb
  have hsz : es.size = es'.size := by omega
  unfold Builtin.Dict.samePairs Builtin.Dict.showsAll
  rw [if_neg (show ¬ (a == sysModules) = true by rw [ha]; exact Bool.false_ne_true), if_neg (show ¬ (b == sysModules) = true by rw [hb]; exact Bool.false_ne_true)]
  refine wpAny_bind (wpAny_pure (wpAny_bind (wpAny_pure ?_)))
  refine wpAny_bind (wpAny_dictEntries hoa hda ?_)
  dsimp only
  refine wpAny_bind (wpAny_dictEntries hob hdb ?_)
  rw [if_neg (by rw [hsz]; simp)]
  refine wpAny_bind (wpAny_dictEpoch hoa hda ?_)
  refine wpAny_bind ?_
  rw [Std.Legacy.Range.forIn_eq_forIn_range']
  simp only [Std.Legacy.Range.size, Nat.sub_zero, Nat.add_sub_cancel, Nat.div_one]
  refine wpAny_forIn_list _
    (fun rest q s' => s' = s ∧ q = (none, ()) ∧ ∃ i, rest = List.range' i (es.size - i) ∧ i ≤ es.size)
    _ ?_ ?_ _ _ ⟨rfl, rfl, 0, by simp, Nat.zero_le _⟩
  · rintro x rest q s' ⟨rfl, rfl, i, hr, hi⟩
    have hlt : i < es.size := by
      rcases Nat.lt_or_ge i es.size with h | h
      · exact h
      · rw [Nat.sub_eq_zero_of_le h] at hr; simp at hr
    obtain ⟨rfl, hrest⟩ : x = i ∧ rest = List.range' (i + 1) (es.size - (i + 1)) := by
      have e : es.size - i = (es.size - (i + 1)) + 1 := by omega
      rw [e, List.range'_succ] at hr
      injection hr with h1 h2
      exact ⟨h1, h2⟩
    have hltx : x < xs.length := by omega
    have hex : es[x] = entryOfKey knd xs[x] := by
      have := entry_at hea x
      rw [Array.getElem?_eq_getElem hlt, List.getElem?_eq_getElem hltx] at this
      exact Option.some.inj this
    obtain ⟨j, a', y, hj, heq⟩ := hits xs[x] (List.getElem_mem hltx)
    refine wpAny_bind (wpAny_dictEntries hoa hda ?_)
    rw [Array.getElem?_eq_getElem hlt, hex]
    show wpAny _ _ (holding [Value.ref xs[x].2.1, xs[x].2.2] _ >>= _) _ _ _
    refine wpAny_bind (wpAny_holding (wpAny_bind (wpAny_dictFind_heap hu (hia _ (List.getElem_mem hltx)) hob hdb heb hib hnb (fun hno => absurd hj (hno j _)) fun j' p hj' => ?_)))
    have hjl : j' < es'.size := by
      have := (List.getElem?_eq_some_iff.mp hj').1
      omega
    have ejj : j' = j := by
      have h1 : (ys.map (·.1))[j']? = some xs[x].1 := by rw [List.getElem?_map, hj']; rfl
      have h2 : (ys.map (·.1))[j]? = some xs[x].1 := by rw [List.getElem?_map, hj]; rfl
      rw [← h2] at h1
      exact (List.getElem?_inj (by rw [List.length_map]; omega) hnb).mp h1
    subst ejj
    have hej : es'[j'] = entryOfKey knd (xs[x].1, a', y) := by
      have := entry_at heb j'
      rw [Array.getElem?_eq_getElem hjl, hj] at this
      exact Option.some.inj this
    refine wpAny_bind (wpAny_dictEntries hob hdb ?_)
    rw [Array.getElem?_eq_getElem hjl, hej]
    refine wpAny_holding (heq _ _ ?_)
    show wpAny _ _ (if (!true) = true then _ else _) _ _ _
    rw [if_neg (by decide)]
    refine wpAny_bind (wpAny_dictEpoch hoa hda ?_)
    rw [if_neg (by simp)]
    exact wpAny_pure ⟨rfl, rfl, x + 1, hrest, hlt⟩
  · rintro q s' ⟨rfl, rfl, i, hr, hi⟩
    exact wpAny_pure h
theorem ne_dictsT {a b : Addr} {xs ys : List (K × Addr × Value)} {Q : Value → Shared → Prop} (ha : (a == sysModules) = false) (hb : (b == sysModules) = false)
    (da : s.heap.DictOfH knd a xs) (db : s.heap.DictOfH knd b ys) (hu : A.units < cLine) (hr : knd.room A.in1) (hl : xs.length = ys.length)
    (hits : ∀ x ∈ xs, ∃ (j : Nat) (a' : Addr) (y : Value), ys[j]? = some (x.1, a', y) ∧ SeqAt.EqP prog w A.in1 s x.2.2 y true) (h : Q (.bool false) s) : wpAny (model prog w) A (compareOp .NotEq (.ref a) (.ref b)) Q E s := by
  refine wpAny_richCompare_same_room (op := .NotEq) da.typeIs db.typeIs PySem.F.slot_dict_ne (wpAny_call_entry PySem.F.slot_dict_ne da.typeIs PySem.F.entry_dict_ne ?_ (PySem.F.args_dict_ne_2 _ _)) hu
  show wpAny _ _ (Builtin.Dict.dictSlotArgs "__ne__" ⟨[.ref a, .ref b], []⟩ >>= _) _ _ s
  refine wpAny_bind ?_
  unfold Builtin.Dict.dictSlotArgs
  refine wpAny_bind (wpAny_notOrdered_dict da.typeIs ?_)
  show wpAny _ _ (pure (Value.ref a, Value.ref b)) _ _ s
  refine wpAny_pure ?_
  refine wpAny_bind (wpAny_isInstance (T := "dict") db.typeIs PySem.F.sub_dict_dict ?_)
  simp only [Bool.not_true, Bool.false_eq_true, if_false]
  refine wpAny_bind (wpAny_pure (wpAny_bind (wpAny_pure ?_)))
  refine wpAny_bind (samePairsT ha hb da db hr hl hits ?_)
  refine wpAny_pure ⟨_, rfl, ?_, ?_⟩
  · exact fun x => nomatch x
  · simpa using h
end
theorem paired_get {α β : Type} {F : α → β → Prop} : ∀ {xs : List α} {ys : List β}, Paired F xs ys → ∀ {i : Nat} {y : β}, ys[i]? = some y → ∃ x, xs[i]? = some x ∧ F x y
  | _, _, .nil, i, y, h => by simp at h
  | _, _, .cons h t, 0, y, e => by cases e; exact ⟨_, rfl, h⟩
  | _, _, .cons h t, i + 1, y, e => paired_get t (i := i) e
theorem paired_get' {α β : Type} {F : α → β → Prop} : ∀ {xs : List α} {ys : List β}, Paired F xs ys → ∀ {i : Nat} {x : α}, xs[i]? = some x → ∃ y, ys[i]? = some y ∧ F x y
  | _, _, .nil, i, y, h => by simp at h
  | _, _, .cons h t, 0, y, e => by cases e; exact ⟨_, rfl, h⟩
  | _, _, .cons h t, i + 1, y, e => paired_get' t (i := i) e
def rNeT : R2 := fun x y H Q => ∃ (a b : Addr) (es fs : List (List Key × V)), x = .ref a ∧ y = .ref b ∧ H a = some (.dT es) ∧ H b = some (.dT fs) ∧ es.length = fs.length ∧ (∀ p ∈ es, flatB p.2 = true ∧ p ∈ fs) ∧ Q (.bl false) H
section
variable {X : Cx}
theorem op_neT (hu : X.A.units + 1 < cLine) : OpR X (compareOp .NotEq) rNeT := by
  intro pins s σ H x y v u Q I rx ry h
  obtain ⟨a, b, es, fs, rfl, rfl, h1, h2, hl, hp, q⟩ := h
  cases rx
  cases ry
  obtain ⟨_, ya, xs, ra, da⟩ := dt_of (P := X.prog) (w := X.w) I.hok h1
  obtain ⟨_, yb, ys, rb, db⟩ := dt_of (P := X.prog) (w := X.w) I.hok h2
  refine ne_dictsT ya yb da db (by omega) (tupleKind_room_in1 hu) (by rw [← Paired.length ra, ← Paired.length rb]; exact hl) (fun x hx => ?_) ⟨.bl false, H, I, rfl, q⟩
  obtain ⟨i, hi⟩ := List.mem_iff_getElem?.mp hx
  obtain ⟨p, hpi, e1, e2, e3⟩ := paired_get ra hi
  obtain ⟨hf, hm⟩ := hp p (List.mem_of_getElem? hpi)
  obtain ⟨j, hj⟩ := List.mem_iff_getElem?.mp hm
  obtain ⟨y, hy, f1, f2, f3⟩ := paired_get' rb hj
  obtain ⟨yk, ya', yv⟩ := y
  have f1 : p.1 = yk := f1
  refine ⟨j, ya', yv, ?_, (eqAt_same e3 f3 hf).eqP⟩
  rw [hy, ← f1, ← e1]
end
def intOf : D → Option Int
  | .int i => some i
  | _ => none
/-- the same keys, the same numbers -/
def sameT (x y : List (List Int × D)) : Bool := decide (x.length = y.length) && x.all fun p => (intOf p.2).isSome && y.any fun q => decide (q.1 = p.1) && decide (intOf q.2 = intOf p.2)
def gNeT (a b : D) : Option D := match a, b with
  | .dT x, .dT y => if sameT x y = true then some (.bl false) else none
  | _, _ => none
theorem intOf_some {d : D} {i : Int} (h : intOf d = some i) : d = .int i := by
  cases d <;> cases h
  rfl
theorem KVs.memI {c : Ct} {S : Hp} : ∀ {es : List (List Key × V)} {kvs : List (List Int × D)}, KVs c S eT es kvs → ∀ {p : List Key × V}, p ∈ es → ∃ q, q ∈ kvs ∧ p.1 = eT q.1 ∧ Rep c S p.2 q.2
  | _, _, .nil, _, h => nomatch h
  | _, _, .cons r t, p, h => by
    rcases List.mem_cons.mp h with h | h
    · subst h
      exact ⟨_, .head _, rfl, r⟩
    · obtain ⟨q, h1, h2⟩ := t.memI h
      exact ⟨q, .tail _ h1, h2⟩
theorem KVs.memD {c : Ct} {S : Hp} : ∀ {es : List (List Key × V)} {kvs : List (List Int × D)}, KVs c S eT es kvs → ∀ {q : List Int × D}, q ∈ kvs → ∃ p, p ∈ es ∧ p.1 = eT q.1 ∧ Rep c S p.2 q.2
  | _, _, .nil, _, h => nomatch h
  | _, _, .cons r t, q, h => by
    rcases List.mem_cons.mp h with h | h
    · subst h
      exact ⟨_, .head _, rfl, r⟩
    · obtain ⟨p, h1, h2⟩ := t.memD h
      exact ⟨p, .tail _ h1, h2⟩
theorem og_neT {X : Cx} {ca : Cl → Addr} (hu : X.A.units + 1 < cLine) : OG X ca .NotEq gNeT := ⟨_, op_neT hu, fun H x y a b d rx ry e => by
  unfold gNeT at e
  split at e
  · rename_i k1 k2
    obtain ⟨h, e⟩ := ite_some e
    cases e
    obtain ⟨a', es, rfl, h1, h2⟩ := rx.dT_inv
    obtain ⟨b', fs, rfl, g1, g2⟩ := ry.dT_inv
    unfold sameT at h
    rw [Bool.and_eq_true, decide_eq_true_eq, List.all_eq_true] at h
    refine ⟨_, .bl _, fun Q q => ⟨a', b', es, fs, rfl, rfl, h1, g1, by rw [h2.length, g2.length]; exact h.1, fun p hp => ?_, q⟩⟩
    obtain ⟨q1, m1, m2, m3⟩ := h2.memI hp
    have hq := h.2 q1 m1
    rw [Bool.and_eq_true, Option.isSome_iff_exists, List.any_eq_true] at hq
    obtain ⟨⟨i, hi⟩, q2, n1, n2⟩ := hq
    rw [Bool.and_eq_true, decide_eq_true_eq, decide_eq_true_eq, hi] at n2
    obtain ⟨p2, o1, o2, o3⟩ := g2.memD n1
    have ei := intOf_some hi
    have ej := intOf_some n2.2
    rw [ei] at m3
    rw [ej] at o3
    have v1 := m3.int_inv
    have v2 := o3.int_inv
    obtain ⟨pk, pv⟩ := p
    obtain ⟨pk2, pv2⟩ := p2
    have v1 : pv = V.int i := v1
    have v2 : pv2 = V.int i := v2
    have k1 : pk = eT q1.1 := m2
    have k2 : pk2 = eT q2.1 := o2
    subst v1 v2 k1 k2
    rw [n2.1] at o1
    exact ⟨rfl, o1⟩
  · cases e⟩
section
variable {prog : Program} {w : World} {K : Type} [DecidableEq K] {knd : HeapKind prog w K} {A : Around} {E : Value → Shared → Prop} {s : Shared}
theorem call_dict_dictH {o : Addr} {more : List (K × Addr × Value)} {Q : Value → Shared → Prop} (hu : knd.room A.in1.in1) (hoS : (o == sysModules) = false) (ho : s.heap.DictOfH knd o more) (hsz : more.length ≤ sizeLine)
    (hpush : (s.heap.push { cls := .type "dict", data := .dict #[] }).DictOfH knd o more)
    (hap : (∀ x ∈ more, s.TypeIs (.ref x.2.1) "tuple") ∧ (more.map fun x => knd.hash x.1).Nodup)
    (h : ∀ h', h'.DictOfH knd s.heap.objs.size more → Heap.SameBut s.heap.objs.size (s.heap.push { cls := .type "dict", data := .dict #[] }) h' → Q (.ref s.heap.objs.size) { s with heap := h' }) :
    wpAny (model prog w) A (call (.type "dict") [.ref o]) Q E s := by
  refine callType_codes (Q₁ := fun obj s₁ => obj = .ref s.heap.objs.size ∧ s₁ = { s with heap := s.heap.push { cls := .type "dict", data := .dict #[] } }) PySem.F.kt_called_dict (PySem.F.kt_typeCall_dict_1 _) PySem.F.entry_dict_init (PySem.kt_code_dict_new _ ⟨rfl, rfl⟩) ?_
  rintro obj s₁ ⟨rfl, rfl⟩
  have hnew : (s.heap.push { cls := .type "dict", data := .dict #[] }).DictOfH knd s.heap.objs.size [] := Heap.DictOfH.new s.heap
  have hn := ho.nodup
  have hdo : s.heap.objs.size ≠ o := by
    obtain ⟨_, _, _, hg, _⟩ := ho
    exact fun e => absurd (Heap.lt_size hg) (by rw [e]; exact Nat.lt_irrefl _)
  refine ⟨hnew.typeIs, PySem.F.args_dict_init_2 _ _, ?_⟩
  unfold Builtin.«dict.__init__»
  refine wpAny_bind ?_
  unfold Builtin.Dict.selfAndRest
  refine wpAny_bind (wpAny_notOrdered_dict hnew.typeIs ?_)
  show wpAny _ _ (pure (s.heap.objs.size, [Value.ref o])) _ _ _
  refine wpAny_pure ?_
  show wpAny _ _ (Builtin.Dict.updateFrom "dict.__init__" s.heap.objs.size (.ref o) [] .none) _ _ _
  unfold Builtin.Dict.updateFrom
  refine wpAny_bind (wpAny_typeOf hpush.typeIs ?_)
  rw [if_neg (by decide)]
  refine wpAny_bind ?_
  unfold Builtin.Dict.merge
  refine wpAny_bind ?_
  unfold Builtin.Dict.readDirectly
  refine wpAny_bind (wpAny_isInstance hpush.typeIs isSubtype_dict_dict ?_)
  simp only [Bool.not_true, Bool.false_eq_true, if_false]
  refine wpAny_bind (wpAny_specialOf hpush.typeIs PySem.F.slot_dict_iter.lookup (wpAny_pure ?_))
  simp only [beq_self_eq_true, if_true]
  refine wpAny_bind (wpAny_pure ?_)
  refine wpAny_mergeDict_heap (hsz := by simpa using hsz) hu hdo hoS hnew hpush (.inr ⟨fun x hx => ?_, hap.2⟩) fun h' hd' _ hs' => ?_
  · obtain ⟨ob, e1, e2⟩ := hap.1 x hx
    exact ⟨ob, Heap.get?_push_of_some _ e1, e2⟩
  · show wpAny _ _ (Builtin.Dict.addKeywords s.heap.objs.size [] >>= _) _ _ _
    rw [storedAllH_nil_of_nodup more hn] at hd'
    exact wpAny_bind (wpAny_pure (wpAny_pure ⟨rfl, h h' hd' hs'⟩))
end
/-- dict(d) of a dict whose keys are tuples of unlike hash -/
theorem call_dictDT {X : Cx} (hu : X.A.units + 3 < cLine) : CallR X (.type "dict") (fun xs H Q => ∃ (a : Addr) (kvs : List (List Key × V)), xs = [.ref a] ∧ H a = some (.dT kvs) ∧ (kvs.map fun kv => tupleKeyHash (mixKind X.prog X.w) kv.1).Nodup ∧ ∀ p, H p = none → Q (.ref p) (upd H p (.dT kvs))) := by
  intro pins s σ H xs us Q I r q
  obtain ⟨a, kvs, ex, hd, hnd, q⟩ := q
  subst ex
  obtain ⟨u, eu, rx⟩ := vals1 r
  subst eu
  cases rx
  obtain ⟨z, lo, ks, rel, dd⟩ := dt_of (P := X.prog) (w := X.w) I.hok hd
  have hlk : kvs.length = ks.length := Paired.length rel
  have ekeys : (ks.map fun x => (tupleKind (mixKind X.prog X.w)).hash x.1) = kvs.map fun kv => tupleKeyHash (mixKind X.prog X.w) kv.1 := by
    refine List.ext_getElem? fun i => ?_
    rw [List.getElem?_map, List.getElem?_map]
    cases hk : ks[i]? with
    | none => rw [List.getElem?_eq_none (by have := List.getElem?_eq_none_iff.mp hk; omega)]; rfl
    | some x =>
      obtain ⟨p, hp, e1, _⟩ := paired_get rel hk
      rw [hp]
      show some (tupleKeyHash (mixKind X.prog X.w) x.1) = some (tupleKeyHash (mixKind X.prog X.w) p.1)
      rw [e1]
  have htup : ∀ x ∈ ks, ∃ p : List Key × V, p.1 = x.1 ∧ H x.2.1 = some (.tup (p.1.map kV)) := fun x hx => by
    obtain ⟨i, hi⟩ := List.mem_iff_getElem?.mp hx
    obtain ⟨p, _, e1, e2, _⟩ := paired_get rel hi
    exact ⟨p, e1, e2⟩
  have hpush : (s.heap.push { cls := .type "dict", data := .dict #[] }).DictOfH (tupleKind (mixKind X.prog X.w)) a ks := by
    refine dd.at' (fun o e => Heap.get?_push_of_some _ e) fun y hy => ?_
    obtain ⟨p, e1, e2⟩ := htup y hy
    obtain ⟨o', items, n', h1, h2, h3, h4⟩ := key_of (P := X.prog) (w := X.w) I.hok e2
    rw [e1] at h4
    exact ⟨o', items, n', Heap.get?_push_of_some _ h1, h2, h3, h4⟩
  refine call_dict_dictH (knd := tupleKind (mixKind X.prog X.w)) (by show X.A.units + 1 + 1 < cLine; omega) lo dd (by rw [← hlk]; exact z) hpush ⟨fun x hx => ?_, by rw [ekeys]; exact hnd⟩ fun h' d' hs => ?_
  · obtain ⟨p, e1, e2⟩ := htup x hx
    obtain ⟨o', items, n', h1, h2, _⟩ := key_of (P := X.prog) (w := X.w) I.hok e2
    exact ⟨o', h1, h2⟩
  · have hm : (s.heap.objs.size == sysModules) = false := beq_eq_false_iff_ne.mpr (Nat.ne_of_gt I.big)
    have fr := I.hok.fresh (Nat.le_refl _)
    obtain ⟨o', es, ep, h1, h2, h3, h4, _, h5⟩ := d'
    refine ⟨.ref s.heap.objs.size, upd H s.heap.objs.size (.dT kvs), I.laid (t' := s.toks) (fun b u e => (hs.2 b (Nat.ne_of_lt (Heap.lt_size e))).trans (Heap.get?_push_of_some _ e)) (Nat.le_refl _) ?_, rfl, q _ fr⟩
    refine (show ObjOk X.prog X.w _ _ _ (.dT kvs) from ⟨z, hm, ks, L2.Paired.mapP rel fun p q' ⟨e1, e2, e3⟩ => ⟨e1, ?_, e3⟩, o', es, ep, h1, h2, h3, h4, h5⟩)
    rw [upd_ne (ne_of_none e2 fr)]
    exact e2
/-- the keys: unlike pairs of hands -/
def smallK (kvs : List (List Int × D)) : Bool := decide (kvs.map (·.1)).Nodup && kvs.all fun p => match p.1 with
  | [a, b] => decide (0 ≤ a) && decide (a < 6) && (decide (0 ≤ b) && decide (b < 6))
  | _ => false
def gCopyD (a : D) : Option D := match a with
  | .dT kvs => if smallK kvs = true then some (.dT kvs) else none
  | _ => none
def hP (a b : Int) : Int := reduceHash (Builtin.Tuple.tupleHashOf [hashInt a, hashInt b])
theorem hP_table : ((List.range 36).map fun k : Nat => hP ((k / 6 : Nat) : Int) ((k % 6 : Nat) : Int)).Nodup := by decide +kernel
theorem hP_inj {a b c d : Int} (ha : 0 ≤ a ∧ a < 6) (hb : 0 ≤ b ∧ b < 6) (hc : 0 ≤ c ∧ c < 6) (hd : 0 ≤ d ∧ d < 6) (h : hP a b = hP c d) : a = c ∧ b = d := by
  have t := hP_table
  have key : ∀ x y : Int, 0 ≤ x ∧ x < 6 → 0 ≤ y ∧ y < 6 → ((List.range 36).map fun k : Nat => hP ((k / 6 : Nat) : Int) ((k % 6 : Nat) : Int))[(6 * x + y).toNat]? = some (hP x y) := fun x y hx hy => by
    rw [List.getElem?_map, List.getElem?_range (by omega)]
    show some (hP (((6 * x + y).toNat / 6 : Nat) : Int) (((6 * x + y).toNat % 6 : Nat) : Int)) = _
    rw [show (((6 * x + y).toNat / 6 : Nat) : Int) = x by omega, show (((6 * x + y).toNat % 6 : Nat) : Int) = y by omega]
  have h1 := key a b ha hb
  have h2 := key c d hc hd
  rw [← h] at h2
  rw [← h2] at h1
  have := (List.getElem?_inj (by rw [List.length_map, List.length_range]; omega) t).mp h1
  omega
theorem hash_pair {P : Program} {w : World} (a b : Int) : tupleKeyHash (mixKind P w) (eT [a, b]) = hP a b := rfl
theorem small_hash {P : Program} {w : World} {c : Ct} {S : Hp} {es : List (List Key × V)} {kvs : List (List Int × D)} (r : KVs c S eT es kvs) (h : smallK kvs = true) : (es.map fun kv => tupleKeyHash (mixKind P w) kv.1).Nodup := by
  unfold smallK at h
  rw [Bool.and_eq_true, decide_eq_true_eq, List.all_eq_true] at h
  obtain ⟨nd, hs⟩ := h
  have e : (es.map fun kv => tupleKeyHash (mixKind P w) kv.1) = (kvs.map (·.1)).map fun k => tupleKeyHash (mixKind P w) (eT k) := by
    have := r.keysE
    have h2 : (es.map fun kv => tupleKeyHash (mixKind P w) kv.1) = (es.map (·.1)).map fun k => tupleKeyHash (mixKind P w) k := by rw [List.map_map]; rfl
    rw [h2, this, List.map_map, List.map_map, List.map_map]
    rfl
  rw [e, List.nodup_iff_pairwise_ne]
  refine List.pairwise_map.mpr (List.Pairwise.imp_of_mem ?_ (List.nodup_iff_pairwise_ne.mp nd))
  intro x y hx hy hne hh
  obtain ⟨p, hp, rfl⟩ := List.mem_map.mp hx
  obtain ⟨q, hq, rfl⟩ := List.mem_map.mp hy
  have h1 := hs p hp
  have h2 := hs q hq
  obtain ⟨pk, pv⟩ := p
  obtain ⟨qk, qv⟩ := q
  match pk, qk, h1, h2, hne, hh with
  | [a, b], [c, d], h1, h2, hne, hh =>
    have h1 : (decide (0 ≤ a) && decide (a < 6) && (decide (0 ≤ b) && decide (b < 6))) = true := h1
    have h2 : (decide (0 ≤ c) && decide (c < 6) && (decide (0 ≤ d) && decide (d < 6))) = true := h2
    simp only [Bool.and_eq_true, decide_eq_true_eq] at h1 h2
    rw [hash_pair, hash_pair] at hh
    have := hP_inj h1.1 h1.2 h2.1 h2.2 hh
    exact hne (by rw [this.1, this.2])
section
variable {X : Cx} {ca : Cl → Addr} {Γ : List Md} {pos p : Pos} {a b e : Expr} {ma mb : Vm} {fa fb : DFn}
/-- dict(d): a copy -/
theorem pd_copyD {k : Nat} (hr : Room k X.A) (ha : PDE X ca Γ a ma fa) (hm : X.mg "dict" = none) (hma : ma = .s ∨ ma = .f := by first | exact .inl rfl | exact .inr rfl) (hg : Gl X "dict" := by rfl)
    (he : starEach (a :: []) X.env = (false, eval a X.env) :: starEach [] X.env := by rfl) (hpl : (backTo pos (starEach [] X.env)).any (·.1) = false := by rfl) : PDN X ca Γ (.Call (.Name "dict" p) [a] [] pos) (d1 gCopyD fa) := by
  obtain ⟨t, pa, q⟩ := ha
  have hu : X.A.units + 3 < cLine := by have := hr.units; omega
  refine ⟨_, pe_callTy (call_dictDT hu) hg hm (by decide +kernel) (pa_cons pa pa_nil he) (by decide) (by decide) he hpl, fun B S0 M L σ H ρ E d hd Q k => ?_⟩
  obtain ⟨x, e1, hd⟩ := bind_some hd
  cases x with
  | dT kvs =>
    obtain ⟨hs, hd⟩ := ite_some (show (if smallK kvs = true then some (D.dT kvs) else none) = some d from hd)
    cases hd
    refine q B S0 M L σ H ρ E _ e1 _ fun v H1 x1 rv => ?_
    have E1 := E.ext x1
    have key : ∀ es : List (List Key × V), KVs ⟨X.K, ca⟩ (hide (Msk M L) H1) eT es kvs → ∀ pp, H1 pp = none → Own ⟨X.K, ca⟩ (hide (fun a => Msk M L a ∨ a = pp) (upd H1 pp (.dT es))) (upd H1 pp (.dT es)) [pp] (.ref pp) (.dT kvs) := fun es h pp hp =>
      KVs.ownT (es := es) (h.mono (hide_le fun b u h e => ⟨fun z => by
        rcases z with z | z
        · exact h z
        · rw [z, hp] at e
          exact (nomatch e), (upd_ne (ne_of_none e hp)).trans e⟩)) upd_same
    rcases hma with rfl | rfl
    · obtain ⟨a', es, rfl, h1, h2⟩ := Rep.dT_inv (show Rep ⟨X.K, ca⟩ (hide (Msk M L) H1) v (.dT kvs) from rv)
      exact ⟨a', es, rfl, (hide_of h1).2, small_hash h2 hs, fun pp hp => k pp _ (x1.trans (Ex.new hp)) (x1.free hp) (key es h2 pp hp)⟩
    · obtain ⟨a', rfl, ho, _⟩ := rv
      obtain ⟨es, h1, h2⟩ := ho.dT_inv
      exact ⟨a', es, rfl, h1, small_hash h2 hs, fun pp hp => k pp _ (x1.trans (Ex.new hp)) (x1.free hp) (key es h2 pp hp)⟩
  | _ => cases hd
end
end DL

/-! DL: plain laws of the data. -/
namespace DL
open PySem PySem.Spec PyProof.Rows L2
/-! ### good data: no bools, no dicts, no objects -/
def gd : Nat → D → Bool
  | _, .non => true
  | _, .int _ => true
  | _, .str _ => true
  | n + 1, .tup xs => xs.all (gd n)
  | n + 1, .lst xs => xs.all (gd n)
  | _, _ => false
theorem gd_mono : ∀ {n m : Nat} {d : D}, n ≤ m → gd n d = true → gd m d = true
  | _, _, .non, _, _ => by unfold gd; rfl
  | _, _, .int _, _, _ => by unfold gd; rfl
  | _, _, .str _, _, _ => by unfold gd; rfl
  | n + 1, m + 1, .tup xs, h, g => by
    unfold gd at g ⊢
    rw [List.all_eq_true] at g ⊢
    exact fun x hx => gd_mono (Nat.le_of_succ_le_succ h) (g x hx)
  | n + 1, m + 1, .lst xs, h, g => by
    unfold gd at g ⊢
    rw [List.all_eq_true] at g ⊢
    exact fun x hx => gd_mono (Nat.le_of_succ_le_succ h) (g x hx)
  | n + 1, 0, .tup xs, h, g => by omega
  | n + 1, 0, .lst xs, h, g => by omega
  | 0, _, .tup xs, h, g => by unfold gd at g; exact nomatch g
  | 0, _, .lst xs, h, g => by unfold gd at g; exact nomatch g
  | _, _, .bl _, _, g => by unfold gd at g; exact nomatch g
  | _, _, .scr _, _, g => by unfold gd at g; exact nomatch g
  | _, _, .dI _, _, g => by unfold gd at g; exact nomatch g
  | _, _, .dT _, _, g => by unfold gd at g; exact nomatch g
  | _, _, .obj _ _, _, g => by unfold gd at g; exact nomatch g
  | _, _, .cls _, _, g => by unfold gd at g; exact nomatch g
theorem plainAll_iff : ∀ {xs : List PyData}, PyData.plainAll xs = true ↔ ∀ x ∈ xs, x.plain = true
  | [] => by simp [PyData.plainAll]
  | x :: xs => by
    rw [PyData.plainAll, Bool.and_eq_true, plainAll_iff]
    simp
theorem depthAll_le : ∀ {xs : List PyData} {n : Nat}, (∀ x ∈ xs, x.depth ≤ n) → PyData.depthAll xs ≤ n
  | [], _, _ => by rw [PyData.depthAll]; exact Nat.zero_le _
  | x :: xs, n, h => by
    rw [PyData.depthAll]
    exact Nat.max_le.mpr ⟨h x (.head _), depthAll_le fun y hy => h y (.tail _ hy)⟩
theorem gd_plain : ∀ {n : Nat} {d : D}, gd n d = true → (toP d).plain = true ∧ (toP d).depth ≤ n
  | _, .non, _ => by rw [toP]; exact ⟨rfl, Nat.zero_le _⟩
  | _, .int _, _ => by rw [toP]; exact ⟨rfl, Nat.zero_le _⟩
  | _, .str _, _ => by rw [toP]; exact ⟨rfl, Nat.zero_le _⟩
  | n + 1, .tup xs, g => by
    unfold gd at g
    rw [List.all_eq_true] at g
    rw [toP, toPs_map, PyData.plain, PyData.depth]
    refine ⟨plainAll_iff.mpr fun x hx => ?_, Nat.succ_le_succ (depthAll_le fun x hx => ?_)⟩
    · obtain ⟨y, hy, rfl⟩ := List.mem_map.mp hx
      exact (gd_plain (g y hy)).1
    · obtain ⟨y, hy, rfl⟩ := List.mem_map.mp hx
      exact (gd_plain (g y hy)).2
  | n + 1, .lst xs, g => by
    unfold gd at g
    rw [List.all_eq_true] at g
    rw [toP, toPs_map, PyData.plain, PyData.depth]
    refine ⟨plainAll_iff.mpr fun x hx => ?_, Nat.succ_le_succ (depthAll_le fun x hx => ?_)⟩
    · obtain ⟨y, hy, rfl⟩ := List.mem_map.mp hx
      exact (gd_plain (g y hy)).1
    · obtain ⟨y, hy, rfl⟩ := List.mem_map.mp hx
      exact (gd_plain (g y hy)).2
  | 0, .tup xs, g => by unfold gd at g; exact nomatch g
  | 0, .lst xs, g => by unfold gd at g; exact nomatch g
  | _, .bl _, g => by unfold gd at g; exact nomatch g
  | _, .scr _, g => by unfold gd at g; exact nomatch g
  | _, .dI _, g => by unfold gd at g; exact nomatch g
  | _, .dT _, g => by unfold gd at g; exact nomatch g
  | _, .obj _ _, g => by unfold gd at g; exact nomatch g
  | _, .cls _, g => by unfold gd at g; exact nomatch g
theorem eqvAll_iff {R : D → D → Prop} : ∀ {xs ys : List D}, (∀ x ∈ xs, ∀ y ∈ ys, (PyData.eqv (toP x) (toP y) = true ↔ x = y)) → (PyData.eqvAll (toPs xs) (toPs ys) = true ↔ xs = ys)
  | [], [], _ => by simp [toPs, PyData.eqvAll]
  | [], _ :: _, _ => by simp [toPs, PyData.eqvAll]
  | _ :: _, [], _ => by simp [toPs, PyData.eqvAll]
  | x :: xs, y :: ys, h => by
    rw [toPs, toPs, PyData.eqvAll, Bool.and_eq_true, h x (.head _) y (.head _), eqvAll_iff (R := R) fun a ha b hb => h a (.tail _ ha) b (.tail _ hb)]
    simp
theorem gd_deq : ∀ {n : Nat} {a : D} {m : Nat} {b : D}, gd n a = true → gd m b = true → (PyData.eqv (toP a) (toP b) = true ↔ a = b) := by
  intro n
  induction n with
  | zero =>
    intro a m b ga gb
    cases a with
    | non => cases b <;> first | (simp [toP, PyData.eqv]; done) | (cases m <;> exact nomatch gb)
    | int i => cases b <;> first | (simp [toP, PyData.eqv]; done) | (cases m <;> exact nomatch gb)
    | str x => cases b <;> first | (simp [toP, PyData.eqv]; done) | (cases m <;> exact nomatch gb)
    | _ => exact nomatch ga
  | succ n ih =>
    intro a m b ga gb
    cases a with
    | non => cases b <;> first | (simp [toP, PyData.eqv]; done) | (cases m <;> exact nomatch gb)
    | int i => cases b <;> first | (simp [toP, PyData.eqv]; done) | (cases m <;> exact nomatch gb)
    | str x => cases b <;> first | (simp [toP, PyData.eqv]; done) | (cases m <;> exact nomatch gb)
    | tup xs =>
      cases b with
      | tup ys =>
        cases m with
        | zero => exact nomatch gb
        | succ m =>
          unfold gd at ga gb
          rw [List.all_eq_true] at ga gb
          rw [toP, toP, PyData.eqv, eqvAll_iff (R := fun _ _ => True) fun x hx y hy => ih (ga x hx) (gb y hy)]
          simp
      | _ => first | (simp [toP, PyData.eqv]; done) | (cases m <;> exact nomatch gb)
    | lst xs =>
      cases b with
      | lst ys =>
        cases m with
        | zero => exact nomatch gb
        | succ m =>
          unfold gd at ga gb
          rw [List.all_eq_true] at ga gb
          rw [toP, toP, PyData.eqv, eqvAll_iff (R := fun _ _ => True) fun x hx y hy => ih (ga x hx) (gb y hy)]
          simp
      | _ => first | (simp [toP, PyData.eqv]; done) | (cases m <;> exact nomatch gb)
    | _ => exact nomatch ga
/-! ### encodings -/
class Enc (α : Type) where
  enc : α → D
  dep : Nat
  good : ∀ x, gd dep (enc x) = true
  inj : ∀ x y, enc x = enc y → x = y
  small : dep ≤ 50
open Enc
instance : Enc Int := ⟨.int, 0, fun _ => rfl, fun _ _ h => D.int.inj h, by decide⟩
instance : Enc Str := ⟨.str, 0, fun _ => rfl, fun _ _ h => D.str.inj h, by decide⟩
theorem enc_int (i : Int) : (enc i : D) = .int i := rfl
/-- pairs -/
instance instPair : Enc (Int × Int) := ⟨fun p => .tup [.int p.1, .int p.2], 1, fun p => rfl, fun x y h => by
  obtain ⟨a, b⟩ := x
  obtain ⟨c, d⟩ := y
  simpa using h, by decide⟩
theorem enc_pair (a b : Int) : (enc (a, b) : D) = .tup [.int a, .int b] := rfl
theorem enc_pair' (p : Int × Int) : (enc p : D) = .tup [.int p.1, .int p.2] := rfl
theorem map_inj {α β : Type} {f : α → β} (h : ∀ x y, f x = f y → x = y) : ∀ {xs ys : List α}, xs.map f = ys.map f → xs = ys
  | [], [], _ => rfl
  | [], _ :: _, e => by simp at e
  | _ :: _, [], e => by simp at e
  | x :: xs, y :: ys, e => by
    simp only [List.map_cons, List.cons.injEq] at e
    rw [h x y e.1, map_inj h e.2]
def encL {α : Type} [Enc α] (xs : List α) : D := .lst (xs.map enc)
theorem gd_encL {α : Type} [Enc α] (xs : List α) : gd (dep α + 1) (encL xs) = true := by
  unfold encL gd
  rw [List.all_eq_true]
  intro x hx
  obtain ⟨y, _, rfl⟩ := List.mem_map.mp hx
  exact good y
instance instList : Enc (List Int) := ⟨encL, 1, gd_encL, fun x y h => map_inj Enc.inj (D.lst.inj h), by decide⟩
instance instListP : Enc (List (Int × Int)) := ⟨encL, 2, gd_encL, fun x y h => map_inj Enc.inj (D.lst.inj h), by decide⟩
instance instListL : Enc (List (List Int)) := ⟨encL, 2, gd_encL, fun x y h => map_inj Enc.inj (D.lst.inj h), by decide⟩
theorem encL_eq {α : Type} [Enc α] (xs : List α) : (.lst (xs.map enc) : D) = encL xs := rfl
theorem encL_map {α β : Type} [Enc β] (f : α → β) (g : α → D) (h : ∀ x, g x = enc (f x)) (xs : List α) : (.lst (xs.map g) : D) = encL (xs.map f) := by
  unfold encL
  rw [List.map_map, show g = enc ∘ f from funext h]
section
variable {α : Type} [Enc α]
theorem deq_enc [DecidableEq α] (x y : α) : deq (enc x) (enc y) = decide (x = y) := by
  unfold deq
  have h := gd_deq (good x) (good y)
  by_cases e : x = y
  · subst e
    rw [h.mpr rfl, decide_eq_true rfl]
  · rw [decide_eq_false e]
    cases q : PyData.eqv (toP (enc x)) (toP (enc y)) with
    | false => rfl
    | true => exact absurd (Enc.inj _ _ (h.mp q)) e
theorem okEq_gd {n m : Nat} {a b : D} (ha : gd n a = true) (hb : gd m b = true) (hn : n ≤ 60) : okEq a b = true := by
  unfold okEq
  rw [(gd_plain ha).1, (gd_plain hb).1]
  simp only [Bool.true_and, decide_eq_true_eq]
  exact Nat.le_trans (Nat.min_le_left _ _) (Nat.le_trans (gd_plain ha).2 hn)
theorem gEq_enc [DecidableEq α] (x y : α) : gEq (enc x) (enc y) = some (.bl (decide (x = y))) := by
  unfold gEq
  rw [if_pos (okEq_gd (good x) (good y) (Nat.le_trans (small (α := α)) (by decide))), deq_enc]
theorem gNe_enc [DecidableEq α] (x y : α) : gNe (enc x) (enc y) = some (.bl (!decide (x = y))) := by
  unfold gNe
  rw [if_pos (okEq_gd (good x) (good y) (Nat.le_trans (small (α := α)) (by decide))), deq_enc]
theorem gEq_encL [DecidableEq α] (x y : List α) : gEq (encL x) (encL y) = some (.bl (decide (x = y))) := by
  have h := gd_deq (gd_encL x) (gd_encL y)
  unfold gEq
  rw [if_pos (okEq_gd (gd_encL x) (gd_encL y) (Nat.succ_le_succ (Nat.le_trans (small (α := α)) (by decide))))]
  unfold deq
  by_cases e : x = y
  · subst e
    rw [h.mpr rfl, decide_eq_true rfl]
  · rw [decide_eq_false e]
    cases q : PyData.eqv (toP (encL x)) (toP (encL y)) with
    | false => rfl
    | true => exact absurd (map_inj Enc.inj (D.lst.inj (h.mp q))) e
theorem gNe_encL [DecidableEq α] (x y : List α) : gNe (encL x) (encL y) = some (.bl (!decide (x = y))) := by
  have h := gEq_encL x y
  unfold gEq at h
  unfold gNe
  split at h
  · rename_i c
    rw [if_pos c]
    have e := Option.some.inj h
    have e' := D.bl.inj e
    rw [e']
  · exact nomatch h
theorem any_enc [DecidableEq α] (x : α) : ∀ xs : List α, (xs.map enc).any (fun z => deq z (enc x)) = decide (x ∈ xs)
  | [] => rfl
  | y :: ys => by
    rw [List.map_cons, List.any_cons, deq_enc, any_enc x ys]
    by_cases e : x = y
    · subst e; simp
    · simp [e, Ne.symm e]
theorem plainL (xs : List α) : PyData.plainAll (toPs (xs.map enc)) = true := by
  rw [toPs_map]
  exact plainAll_iff.mpr fun d hd => by
    obtain ⟨y, hy, rfl⟩ := List.mem_map.mp hd
    obtain ⟨z, _, rfl⟩ := List.mem_map.mp hy
    exact (gd_plain (good z)).1
theorem gIn_enc [DecidableEq α] (x : α) (xs : List α) : gIn (enc x) (encL xs) = some (.bl (decide (x ∈ xs))) := by
  have h := gd_plain (good x)
  show ((some (xs.map enc)).bind fun ds => if (toP (enc x)).plain = true ∧ PyData.plainAll (toPs ds) = true ∧ (toP (enc x)).depth ≤ 60 then some (D.bl (ds.any fun z => deq z (enc x))) else none) = _
  rw [Option.bind_some, if_pos ⟨h.1, plainL xs, Nat.le_trans h.2 (Nat.le_trans (small (α := α)) (by decide))⟩, any_enc]
theorem gNotIn_enc [DecidableEq α] (x : α) (xs : List α) : gNotIn (enc x) (encL xs) = some (.bl (!decide (x ∈ xs))) := by
  have h := gd_plain (good x)
  show ((some (xs.map enc)).bind fun ds => if (toP (enc x)).plain = true ∧ PyData.plainAll (toPs ds) = true ∧ (toP (enc x)).depth ≤ 60 then some (D.bl (!ds.any fun z => deq z (enc x))) else none) = _
  rw [Option.bind_some, if_pos ⟨h.1, plainL xs, Nat.le_trans h.2 (Nat.le_trans (small (α := α)) (by decide))⟩, any_enc]
end
theorem gEq_int (i j : Int) : gEq (.int i) (.int j) = some (.bl (decide (i = j))) := gEq_enc i j
theorem gNe_int (i j : Int) : gNe (.int i) (.int j) = some (.bl (!decide (i = j))) := gNe_enc i j
/-! ### sorting -/
class EncS (α : Type) extends Enc α where
  le : α → α → Bool
  le_eq : ∀ x y, leD (enc x) (enc y) = le x y
  alk : ∀ x y, PySem.W.alike (toP (enc x)) (toP (enc y)) = true
  tupc : (∀ x, isTupC (toP (enc x)) = true) ∨ (∀ x, isOther (toP (enc x)) = true)
theorem lexc {O : PyProof.Rows.KeyOrd} {x y : O.α} {r t : List O.α} : PyProof.Rows.lexLt O (x :: r) (y :: t) = (O.blt x y || (!O.blt y x && PyProof.Rows.lexLt O r t)) := by
  first | rfl | (rw [PyProof.Rows.lexLt])
theorem leD_def (a b : D) : leD a b = !PyProof.Rows.lexLt PyProof.Rows.itemOrd (PySem.W.keyToks (toP b)) (PySem.W.keyToks (toP a)) := rfl
theorem leD_int (i j : Int) : leD (.int i) (.int j) = decide (i ≤ j) := by
  rw [leD_def, toP, toP, PySem.W.keyToks, PySem.W.keyToks]
  show (!(decide (j < i) || (!decide (i < j) && false))) = _
  by_cases h : i ≤ j
  · simp [h, Int.not_lt.mpr h]
  · have h' := Int.not_le.mp h
    simp [h, h']
def leP (p q : Int × Int) : Bool := decide (p.1 < q.1) || (decide (p.1 = q.1) && decide (p.2 ≤ q.2))
theorem leD_pair (p q : Int × Int) : leD (enc p) (enc q) = leP p q := by
  obtain ⟨a, b⟩ := p
  obtain ⟨c, d⟩ := q
  show (!PyProof.Rows.lexLt PyProof.Rows.itemOrd [.inl 1, .inl c, .inl 1, .inl d, .inl 0] [.inl 1, .inl a, .inl 1, .inl b, .inl 0]) = leP (a, b) (c, d)
  show (!(decide ((1 : Int) < 1) || (!decide ((1 : Int) < 1) && (decide (c < a) || (!decide (a < c) && (decide ((1 : Int) < 1) || (!decide ((1 : Int) < 1) && (decide (d < b) || (!decide (b < d) && (decide ((0 : Int) < 0) || (!decide ((0 : Int) < 0) && false)))))))))))  = _
  unfold leP
  rcases Int.lt_trichotomy a c with h | h | h
  · have : ¬ c < a := by omega
    have : ¬ a = c := by omega
    simp [*]
  · subst h
    by_cases h2 : b ≤ d
    · have : ¬ d < b := by omega
      simp [*]
    · have : d < b := by omega
      simp [*]
  · have : ¬ a < c := by omega
    have : ¬ a = c := by omega
    simp [*]
instance : EncS Int := { le := fun i j => decide (i ≤ j), le_eq := leD_int, alk := fun x y => rfl, tupc := .inr fun x => rfl }
instance : EncS (Int × Int) := { le := leP, le_eq := leD_pair, alk := fun x y => rfl, tupc := .inl fun x => rfl }
section
variable {α : Type} [EncS α]
theorem okSort_enc (xs : List α) (h : xs.length ≤ 100000) : okSort (xs.map enc) = true := by
  unfold okSort
  simp only [Bool.and_eq_true, Bool.or_eq_true, List.all_eq_true, decide_eq_true_eq, List.mem_map, forall_exists_index, and_imp, forall_apply_eq_imp_iff₂, List.length_map]
  refine ⟨⟨⟨⟨fun x _ y _ => EncS.alk x y, ?_⟩, fun x _ => Nat.le_trans (gd_plain (good x)).2 (Nat.le_trans (small (α := α)) (by decide))⟩, fun x _ => (gd_plain (good x)).1⟩, h⟩
  rcases EncS.tupc (α := α) with t | t
  · exact .inl fun x _ => t x
  · exact .inr fun x _ => t x
def sortE (xs : List α) : List α := xs.mergeSort EncS.le
theorem gSort_enc (xs : List α) (h : xs.length ≤ 100000) : gSort (encL xs) = some ((sortE xs).map enc) := by
  show ((some (xs.map enc)).bind fun ds => if okSort ds = true then some (sortD ds) else none) = _
  rw [Option.bind_some, if_pos (okSort_enc xs h)]
  unfold sortD sortE
  rw [List.map_mergeSort (r := EncS.le) (s := leD) (f := enc) fun a _ b _ => (EncS.le_eq a b).symm]
end
/-! ### loops -/
def rngI (lo : Int) (n : Nat) : List Int := (List.range n).map fun (k : Nat) => lo + k
theorem rng_eq (lo : Int) (n : Nat) : rng lo n = (rngI lo n).map .int := by
  unfold rng rngI
  rw [List.map_map]
  rfl
theorem rngI_length (lo : Int) (n : Nat) : (rngI lo n).length = n := by simp [rngI]
theorem mem_rngI {lo x : Int} {n : Nat} : x ∈ rngI lo n ↔ lo ≤ x ∧ x < lo + n := by
  unfold rngI
  rw [List.mem_map]
  constructor
  · rintro ⟨k, hk, rfl⟩
    rw [List.mem_range] at hk
    omega
  · rintro ⟨h1, h2⟩
    exact ⟨(x - lo).toNat, by rw [List.mem_range]; omega, by omega⟩
/-- a loop that goes on to its end: P of the items behind and the state -/
theorem forD_nx {u : D → List D → Option (List D)} {F : SFn} (P : List D → List D → Prop) {all : List D} (step : ∀ done d rest ρ, done ++ d :: rest = all → P done ρ → ∃ ρ1 ρ', u d ρ = some ρ1 ∧ (F ρ1 = .nx ρ' ∨ F ρ1 = .cont ρ') ∧ P (done ++ [d]) ρ') :
    ∀ (rest done : List D) (ρ : List D), done ++ rest = all → P done ρ → ∃ ρ', forD u F rest ρ = .nx ρ' ∧ P all ρ'
  | [], done, ρ, e, h => ⟨ρ, rfl, by rw [List.append_nil] at e; rw [← e]; exact h⟩
  | d :: rest, done, ρ, e, h => by
    obtain ⟨ρ1, ρ', h1, h2, h3⟩ := step done d rest ρ e h
    obtain ⟨ρ2, g1, g2⟩ := forD_nx P step rest (done ++ [d]) ρ' (by rw [List.append_assoc]; exact e) h3
    refine ⟨ρ2, ?_, g2⟩
    unfold forD
    rw [h1]
    rcases h2 with h2 | h2
    · show (match F ρ1 with | .nx ρ' => forD u F rest ρ' | .cont ρ' => forD u F rest ρ' | .brk ρ' => .nx ρ' | o => o) = _
      rw [h2]
      exact g1
    · show (match F ρ1 with | .nx ρ' => forD u F rest ρ' | .cont ρ' => forD u F rest ρ' | .brk ρ' => .nx ρ' | o => o) = _
      rw [h2]
      exact g1
/-- over encoded items -/
theorem forD_map {α : Type} {en : α → D} {u : D → List D → Option (List D)} {F : SFn} (P : List α → List D → Prop) {all : List α} {ρ : List D} (h0 : P [] ρ)
    (step : ∀ done x rest ρ, done ++ x :: rest = all → P done ρ → ∃ ρ1 ρ', u (en x) ρ = some ρ1 ∧ (F ρ1 = .nx ρ' ∨ F ρ1 = .cont ρ') ∧ P (done ++ [x]) ρ') : ∃ ρ', forD u F (all.map en) ρ = .nx ρ' ∧ P all ρ' := by
  have main : ∀ (rest done : List α) (ρ : List D), done ++ rest = all → P done ρ → ∃ ρ', forD u F (rest.map en) ρ = .nx ρ' ∧ P all ρ' := by
    intro rest
    induction rest with
    | nil => intro done ρ e h; exact ⟨ρ, rfl, by rw [List.append_nil] at e; rw [← e]; exact h⟩
    | cons x rest ih =>
      intro done ρ e h
      obtain ⟨ρ1, ρ', h1, h2, h3⟩ := step done x rest ρ e h
      obtain ⟨ρ2, g1, g2⟩ := ih (done ++ [x]) ρ' (by rw [List.append_assoc]; exact e) h3
      refine ⟨ρ2, ?_, g2⟩
      rw [List.map_cons]
      unfold forD
      rw [h1]
      rcases h2 with h2 | h2
      · show (match F ρ1 with | .nx ρ' => forD u F (rest.map en) ρ' | .cont ρ' => forD u F (rest.map en) ρ' | .brk ρ' => .nx ρ' | o => o) = _
        rw [h2]
        exact g1
      · show (match F ρ1 with | .nx ρ' => forD u F (rest.map en) ρ' | .cont ρ' => forD u F (rest.map en) ρ' | .brk ρ' => .nx ρ' | o => o) = _
        rw [h2]
        exact g1
  exact main all [] ρ rfl h0
/-- over a range -/
theorem forD_rng {u : D → List D → Option (List D)} {F : SFn} (P : Nat → List D → Prop) {lo : Int} {n : Nat} {ρ : List D} (h0 : P 0 ρ)
    (step : ∀ (i : Nat) ρ, i < n → P i ρ → ∃ ρ1 ρ', u (.int (lo + i)) ρ = some ρ1 ∧ (F ρ1 = .nx ρ' ∨ F ρ1 = .cont ρ') ∧ P (i + 1) ρ') : ∃ ρ', forD u F (rng lo n) ρ = .nx ρ' ∧ P n ρ' := by
  have q := forD_map (en := fun (k : Nat) => D.int (lo + k)) (u := u) (F := F) (fun done ρ => P done.length ρ) (all := List.range n) (ρ := ρ) h0 fun done x rest ρ e h => by
    have hx : done.length = x := by
      have : (done ++ x :: rest)[done.length]? = some x := by simp
      rw [e, List.getElem?_range (by have := congrArg List.length e; simp at this; omega)] at this
      simpa using this
    have hn : x < n := by
      have := congrArg List.length e
      simp at this
      omega
    obtain ⟨ρ1, ρ', h1, h2, h3⟩ := step x ρ hn (by rw [← hx]; exact h)
    exact ⟨ρ1, ρ', h1, h2, by rw [List.length_append, hx]; exact h3⟩
  rw [List.length_range] at q
  exact q
/-- a comprehension over encoded items -/
theorem lcD_map {α β : Type} {en : α → D} {en' : β → D} {u : D → List D → Option (List D)} {t : List D → Option Bool} {f : DFn} {ρ : List D} (p : α → Bool) (g : α → β) : ∀ {xs : List α}, (∀ x ∈ xs, ∃ ρ1, u (en x) ρ = some ρ1 ∧ t ρ1 = some (p x) ∧ (p x = true → f ρ1 = some (en' (g x)))) →
    lcD u t f ρ (xs.map en) = some (((xs.filter p).map g).map en')
  | [], _ => rfl
  | x :: xs, h => by
    obtain ⟨ρ1, h1, h2, h3⟩ := h x (.head _)
    rw [List.map_cons]
    unfold lcD
    rw [h1, Option.bind_some, h2, Option.bind_some]
    have ih := lcD_map (en' := en') p g fun y hy => h y (.tail _ hy)
    cases q : p x with
    | true =>
      rw [if_pos rfl, h3 q, Option.bind_some, ih, List.filter_cons, if_pos q]
      rfl
    | false =>
      rw [if_neg (by decide), ih, List.filter_cons, if_neg (by rw [q]; decide)]
end DL

/-! DL: plain laws of lists. -/
namespace DL
open PySem PySem.Spec PyProof.Rows L2 Enc
theorem atI_nn {α : Type} {xs : List α} {i : Int} (h : 0 ≤ i) : atI xs i = xs[i.toNat]? := by
  unfold atI ixN
  rw [if_pos h]
  by_cases h1 : i < xs.length
  · rw [if_pos h1, Option.bind_some]
  · rw [if_neg h1, Option.bind_none, List.getElem?_eq_none (by omega)]
theorem atI_neg {α : Type} {xs : List α} {i : Int} (h : i < 0) (h2 : 0 ≤ i + xs.length) : atI xs i = xs[(i + xs.length).toNat]? := by
  unfold atI ixN
  rw [if_neg (by omega)]
  split
  · rw [Option.bind_some]
  · omega
section
variable {α : Type} {en : α → D}
theorem gIx_nn {xs : List α} {i : Int} {x : α} (h : 0 ≤ i) (hx : xs[i.toNat]? = some x) : gIx (.lst (xs.map en)) (.int i) = some (en x) := by
  show (some (xs.map en)).bind (fun ds => atI ds i) = _
  rw [Option.bind_some, atI_nn h, List.getElem?_map, hx]
  rfl
theorem gIx_neg {xs : List α} {i : Int} {x : α} (h : i < 0) (h2 : 0 ≤ i + xs.length) (hx : xs[(i + xs.length).toNat]? = some x) : gIx (.lst (xs.map en)) (.int i) = some (en x) := by
  show (some (xs.map en)).bind (fun ds => atI ds i) = _
  rw [Option.bind_some, atI_neg h (by rw [List.length_map]; exact h2), List.getElem?_map, List.length_map, hx]
  rfl
theorem gIx_scr {ns : List Int} {i : Int} {x : Int} (h : 0 ≤ i) (hx : ns[i.toNat]? = some x) : gIx (.scr ns) (.int i) = some (.int x) := gIx_nn (en := D.int) h hx
theorem sIx_nn {n d : Nat} {k : Int} (h : 0 ≤ k) : HT.sIx n d (some k) = min k.toNat n := by
  show (if k < 0 then (k + (n : Int)).toNat else min k.toNat n) = _
  rw [if_neg (by omega)]
theorem cut_lo {xs : List α} {k : Int} (h : 0 ≤ k) : cutD (xs.map en) none (some k) = (xs.take k.toNat).map en := by
  unfold cutD
  rw [sIx_nn h, HT.sIx_none, Nat.sub_zero, List.drop_zero, List.length_map, ← List.map_take, List.take_eq_take_iff.mpr]
  omega
theorem cut_hi {xs : List α} {k : Int} (h : 0 ≤ k) : cutD (xs.map en) (some k) none = (xs.drop k.toNat).map en := by
  unfold cutD
  rw [sIx_nn h, HT.sIx_none, List.length_map, ← List.map_drop, ← List.map_take]
  congr 1
  by_cases hk : k.toNat ≤ xs.length
  · rw [Nat.min_eq_left hk, List.take_of_length_le]
    rw [List.length_drop]
    exact Nat.le_refl _
  · rw [Nat.min_eq_right (by omega), List.drop_eq_nil_of_le (Nat.le_refl _), List.drop_eq_nil_of_le (by omega)]
    simp
end
end DL
namespace DL
open PySem PySem.Spec PyProof.Rows L2 Enc
/-- over enumerated items -/
theorem forD_enum {α : Type} {en : α → D} {u : D → List D → Option (List D)} {F : SFn} (P : Nat → List D → Prop) {xs : List α} {ρ : List D} (h0 : P 0 ρ)
    (step : ∀ (i : Nat) x ρ, xs[i]? = some x → P i ρ → ∃ ρ1 ρ', u (.tup [.int (i : Int), en x]) ρ = some ρ1 ∧ (F ρ1 = .nx ρ' ∨ F ρ1 = .cont ρ') ∧ P (i + 1) ρ') : ∃ ρ', forD u F (enumFrom 0 (xs.map en)) ρ = .nx ρ' ∧ P xs.length ρ' := by
  have main : ∀ (rest : List α) (i : Nat) (ρ : List D), xs.drop i = rest → i ≤ xs.length → P i ρ → ∃ ρ', forD u F (enumFrom i (rest.map en)) ρ = .nx ρ' ∧ P xs.length ρ' := by
    intro rest
    induction rest with
    | nil =>
      intro i ρ e hi h
      have := congrArg List.length e
      rw [List.length_drop] at this
      have e2 : i = xs.length := by simp at this; omega
      subst e2
      exact ⟨ρ, rfl, h⟩
    | cons x rest ih =>
      intro i ρ e hi h
      have hx : xs[i]? = some x := by
        have : (xs.drop i)[0]? = some x := by rw [e]; rfl
        rw [List.getElem?_drop] at this
        exact this
      obtain ⟨hlt, _⟩ := List.getElem?_eq_some_iff.mp hx
      obtain ⟨ρ1, ρ', h1, h2, h3⟩ := step i x ρ hx h
      have ed : xs.drop (i + 1) = rest := by
        rw [← List.tail_drop, e]
        rfl
      obtain ⟨ρ2, g1, g2⟩ := ih (i + 1) ρ' ed hlt h3
      refine ⟨ρ2, ?_, g2⟩
      rw [List.map_cons]
      unfold enumFrom forD
      rw [h1]
      rcases h2 with h2 | h2
      · show (match F ρ1 with | .nx ρ' => forD u F (enumFrom (i + 1) (rest.map en)) ρ' | .cont ρ' => forD u F (enumFrom (i + 1) (rest.map en)) ρ' | .brk ρ' => .nx ρ' | o => o) = _
        rw [h2]
        exact g1
      · show (match F ρ1 with | .nx ρ' => forD u F (enumFrom (i + 1) (rest.map en)) ρ' | .cont ρ' => forD u F (enumFrom (i + 1) (rest.map en)) ρ' | .brk ρ' => .nx ρ' | o => o) = _
        rw [h2]
        exact g1
  exact main xs 0 ρ rfl (Nat.zero_le _) h0
theorem sortE_pw {α : Type} [EncS α] (xs : List α) : (sortE xs).Pairwise (fun a b => EncS.le a b = true) := by
  have t := PySem.W.sortLe_total (PyProof.Rows.listOrd PyProof.Rows.itemOrd) false fun b : α => PySem.W.keyToks (toP (enc b))
  refine List.pairwise_mergeSort (fun a b c h1 h2 => ?_) (fun a b => ?_) xs
  · rw [← EncS.le_eq] at h1 h2 ⊢
    exact t.trans a b c h1 h2
  · rw [Bool.or_eq_true, ← EncS.le_eq, ← EncS.le_eq]
    exact t.total a b
theorem sortE_perm {α : Type} [EncS α] (xs : List α) : (sortE xs).Perm xs := List.mergeSort_perm _ _
/-- a sorted list is what sorting gives -/
theorem sortE_of {α : Type} [EncS α] (anti : ∀ a b : α, EncS.le a b = true → EncS.le b a = true → a = b) {xs ys : List α} (h : xs.Pairwise (fun a b => EncS.le a b = true)) (p : xs.Perm ys) : xs = sortE ys :=
  List.Perm.eq_of_pairwise (le := fun a b => EncS.le a b = true) (fun a b _ _ => anti a b) h (sortE_pw ys) (p.trans (sortE_perm ys).symm)
theorem anti_int (a b : Int) (h1 : (EncS.le a b : Bool) = true) (h2 : (EncS.le b a : Bool) = true) : a = b := by
  have h1' : a ≤ b := of_decide_eq_true h1
  have h2' : b ≤ a := of_decide_eq_true h2
  omega
theorem perm_sorted_eq {α : Type} {le : α → α → Bool} (anti : ∀ a b, le a b = true → le b a = true → a = b) : ∀ {xs ys : List α}, xs.Pairwise (fun a b => le a b = true) → ys.Pairwise (fun a b => le a b = true) → xs.Perm ys → xs = ys
  | [], ys, _, _, p => (List.Perm.nil_eq p)
  | x :: xs, [], _, _, p => (List.Perm.eq_nil p)
  | x :: xs, y :: ys, hx, hy, p => by
    obtain ⟨hx1, hx2⟩ := List.pairwise_cons.mp hx
    obtain ⟨hy1, hy2⟩ := List.pairwise_cons.mp hy
    have e : x = y := by
      have m1 : x ∈ y :: ys := p.mem_iff.mp (.head _)
      have m2 : y ∈ x :: xs := p.mem_iff.mpr (.head _)
      rcases List.mem_cons.mp m1 with m1 | m1
      · exact m1
      · rcases List.mem_cons.mp m2 with m2 | m2
        · exact m2.symm
        · exact anti _ _ (hx1 _ m2) (hy1 _ m1)
    subst e
    rw [perm_sorted_eq anti hx2 hy2 (p.cons_inv)]
end DL

/-! DL: the combinators, applied. -/
namespace DL
open PySem PySem.Spec PyProof.Rows L2 Enc
def seqK (o : Out) (G : SFn) : Out := match o with
  | .nx ρ' => G ρ'
  | o => o
def asgK (i : Nat) (o : Option D) (ρ : List D) : Out := match o with
  | some d => .nx (ρ.set i d)
  | none => .bad
def retK (o : Option D) : Out := match o with
  | some d => .ret d
  | none => .bad
def ifK (o : Option Bool) (F G : SFn) (ρ : List D) : Out := match o with
  | some true => F ρ
  | some false => G ρ
  | none => .bad
def dropK (o : Option D) (ρ : List D) : Out := match o with
  | some _ => .nx ρ
  | none => .bad
def appK (i : Nat) (o x : Option D) (ρ : List D) : Out := match o, x with
  | some d, some (.lst ds) => if ds.length < 100000 then .nx (ρ.set i (.lst (ds ++ [d]))) else .bad
  | _, _ => .bad
def extK (i : Nat) (o x : Option D) (ρ : List D) : Out := match o, x with
  | some (.lst es), some (.lst ds) => if ds.length + es.length ≤ 100000 then .nx (ρ.set i (.lst (ds ++ es))) else .bad
  | _, _ => .bad
def clearK (i : Nat) (x : Option D) (ρ : List D) : Out := match x with
  | some (.lst _) => .nx (ρ.set i (.lst []))
  | _ => .bad
def forK (o : Option (List D)) (u : D → List D → Option (List D)) (F : SFn) (ρ : List D) : Out := match o with
  | some ds => forD u F ds ρ
  | none => .bad
def unpK (o : Option (List D)) : Out := match o with
  | some ρ' => .nx ρ'
  | none => .bad
def fstK (i : Nat) (k : Cl) (j : Nat) (o x : Option D) (ρ : List D) : Out := match o, x with
  | some d, some (.obj k' fs) => if k' = k ∧ fs.length = j then .nx (ρ.set i (.obj k (fs ++ [d]))) else .bad
  | _, _ => .bad
def raiK (e : Cl) (o : Option D) (ρ : List D) : Out := match o with
  | some d => .exc e d ρ
  | none => .bad
def runK (rf : Bool) (o : Out) : Rs := match o with
  | .nx _ => if rf = true then .bad else .ok .non
  | .ret d => .ok d
  | .exc e d _ => .exc e d
  | _ => .bad
def runIK (o : Out) : Rs := match o with
  | .nx ρ => (match ρ[0]? with
    | some d => .ok d
    | none => .bad)
  | .exc e d _ => .exc e d
  | _ => .bad
def fldK (k : Cl) (i : Nat) (d : D) : Option D := match d with
  | .obj k' fs => if k' = k then fs[i]? else none
  | _ => none
def cutK (a : D) (l u : Option Int) : Option D := match a with
  | .lst ds => some (.lst (cutD ds l u))
  | .scr ns => some (.lst (cutD (ns.map .int) l u))
  | _ => none
def rng1K (d : D) : Option (List D) := match d with
  | .int j => if -(2 ^ 62) ≤ j ∧ j < 2 ^ 62 then some (rng 0 j.toNat) else none
  | _ => none
def rng2K (d d' : D) : Option (List D) := match d, d' with
  | .int i, .int j => if -(2 ^ 62) ≤ i ∧ i < 2 ^ 62 ∧ -(2 ^ 62) ≤ j ∧ j < 2 ^ 62 then some (rng i (j - i).toNat) else none
  | _, _ => none
section
variable {f g fa fb fc fo : DFn} {t t' : List D → Option Bool} {F G : SFn} {ρ : List D} {i j : Nat} {d d' : D} {ds es : List D} {k : Cl} {fs gs : List D → Option (List D)} {u : D → List D → Option (List D)} {w : List D → List D → Option (List D)} {fi : List D → Option (List D)} {G1 : List D → Rs} {dfl : List D}
theorem bindS {α β : Type} {a : α} {f : α → Option β} : (some a).bind f = f a := (rfl)
theorem mapS {α β : Type} {a : α} {f : α → β} : (some a).map f = some (f a) := (rfl)
theorem rng_len (lo : Int) (n : Nat) : (rng lo n).length = n := by rw [rng_eq, List.length_map, rngI_length]
theorem dSeq_ap : dSeq F G ρ = seqK (F ρ) G := (rfl)
theorem seqK_nx : seqK (.nx ρ) G = G ρ := (rfl)
theorem seqK_ret : seqK (.ret d) G = .ret d := (rfl)
theorem seqK_cont : seqK (.cont ρ) G = .cont ρ := (rfl)
theorem seqK_brk : seqK (.brk ρ) G = .brk ρ := (rfl)
theorem seqK_exc : seqK (.exc k d ρ) G = .exc k d ρ := (rfl)
theorem dNext_ap : dNext ρ = .nx ρ := (rfl)
theorem dAsg_ap : dAsg i f ρ = asgK i (f ρ) ρ := (rfl)
theorem asgK_some : asgK i (some d) ρ = .nx (ρ.set i d) := (rfl)
theorem dRet_ap : dRet f ρ = retK (f ρ) := (rfl)
theorem retK_some : retK (some d) = .ret d := (rfl)
theorem dIfS_ap : dIfS t F G ρ = ifK (t ρ) F G ρ := (rfl)
theorem ifK_true : ifK (some true) F G ρ = F ρ := (rfl)
theorem ifK_false : ifK (some false) F G ρ = G ρ := (rfl)
theorem dDrop_ap : dDrop f ρ = dropK (f ρ) ρ := (rfl)
theorem dropK_some : dropK (some d) ρ = .nx ρ := (rfl)
theorem dApp_ap : dApp i f ρ = appK i (f ρ) ρ[i]? ρ := (rfl)
theorem appK_some (h : ds.length < 100000) : appK i (some d) (some (.lst ds)) ρ = .nx (ρ.set i (.lst (ds ++ [d]))) := if_pos h
theorem dExt_ap : dExt i f ρ = extK i (f ρ) ρ[i]? ρ := (rfl)
theorem extK_some (h : ds.length + es.length ≤ 100000) : extK i (some (.lst es)) (some (.lst ds)) ρ = .nx (ρ.set i (.lst (ds ++ es))) := if_pos h
theorem dClear_ap : dClear i ρ = clearK i ρ[i]? ρ := (rfl)
theorem clearK_some : clearK i (some (.lst ds)) ρ = .nx (ρ.set i (.lst [])) := (rfl)
theorem dFor_ap : dFor fi u F ρ = forK (fi ρ) u F ρ := (rfl)
theorem forK_some : forK (some ds) u F ρ = forD u F ds ρ := (rfl)
theorem dUnpk_ap : dUnpk f u ρ = unpK ((f ρ).bind fun d => u d ρ) := (rfl)
theorem unpK_some : unpK (some ds) = .nx ds := (rfl)
theorem dFst_ap : dFst i k j f ρ = fstK i k j (f ρ) ρ[i]? ρ := (rfl)
theorem fstK_some (h : ds.length = j) : fstK i k j (some d) (some (.obj k ds)) ρ = .nx (ρ.set i (.obj k (ds ++ [d]))) := if_pos ⟨rfl, h⟩
theorem dRaise_ap : dRaise k f ρ = raiK k (f ρ) ρ := (rfl)
theorem raiK_some : raiK k (some d) ρ = .exc k d ρ := (rfl)
theorem runF_ap {rf : Bool} {n : Nat} : runF rf n F ds = runK rf (F (ds ++ List.replicate n .non)) := (rfl)
theorem runK_ret {rf : Bool} : runK rf (.ret d) = .ok d := (rfl)
theorem runK_nx : runK false (.nx ρ) = .ok .non := (rfl)
theorem runK_exc {rf : Bool} : runK rf (.exc k d ρ) = .exc k d := (rfl)
theorem runI_ap {n : Nat} : runI k n F ds = runIK (F (.obj k [] :: (ds ++ List.replicate n .non))) := (rfl)
theorem runIK_nx : runIK (.nx (d :: ρ)) = .ok d := (rfl)
theorem runIK_exc : runIK (.exc k d ρ) = .exc k d := (rfl)
theorem dVar_ap : dVar i ρ = ρ[i]? := (rfl)
theorem dC_ap : dC d ρ = some d := (rfl)
theorem d1_ap {h : D → Option D} : d1 h f ρ = (f ρ).bind h := (rfl)
theorem d2_ap {h : D → D → Option D} : d2 h fa fb ρ = (fa ρ).bind fun a => (fb ρ).bind fun b => h a b := (rfl)
theorem tB_ap : DL.tB f ρ = (f ρ).bind asB := (rfl)
theorem asB_bl {b : Bool} : asB (.bl b) = some b := (rfl)
theorem tAndF_ap : tAndF t t' ρ = (t ρ).bind fun b => if b = true then t' ρ else some false := (rfl)
theorem tOrF_ap : tOrF t t' ρ = (t ρ).bind fun b => if b = true then some true else t' ρ := (rfl)
theorem tNotF_ap : tNotF t ρ = (t ρ).map (!·) := (rfl)
theorem dAnd_ap : dAnd f g ρ = (DL.tB f ρ).bind fun b => if b = true then g ρ else some (.bl false) := (rfl)
theorem dOr_ap : dOr f g ρ = (DL.tB f ρ).bind fun b => if b = true then some (.bl true) else g ρ := (rfl)
theorem dNot_ap : dNot f ρ = (DL.tB f ρ).map fun b => .bl (!b) := (rfl)
theorem dIf_ap : dIf t f g ρ = (t ρ).bind fun b => if b = true then f ρ else g ρ := (rfl)
theorem ite_and {a y : Bool} : (if a = true then some y else some false) = some (a && y) := by cases a <;> rfl
theorem ite_or {a y : Bool} : (if a = true then some true else some y) = some (a || y) := by cases a <;> rfl
theorem ite_andD {a y : Bool} : (if a = true then some (D.bl y) else some (D.bl false)) = some (.bl (a && y)) := by cases a <;> rfl
theorem ite_orD {a y : Bool} : (if a = true then some (D.bl true) else some (D.bl y)) = some (.bl (a || y)) := by cases a <;> rfl
theorem dNilA_ap : dNilA ρ = some [] := (rfl)
theorem dConsA_ap : dConsA f fs ρ = (f ρ).bind fun d => (fs ρ).map (d :: ·) := (rfl)
theorem dTup_ap : dTup fs ρ = (fs ρ).map .tup := (rfl)
theorem dLst_ap : dLst fs ρ = (fs ρ).map .lst := (rfl)
theorem dImm_ap : dImm f ρ = (f ρ).bind fun d => if flat d = true then some d else none := (rfl)
theorem oNone_ap : oNone ρ = some none := (rfl)
theorem oSome_ap : oSome f ρ = ((f ρ).bind asI).map some := (rfl)
theorem asI_int {n : Int} : asI (.int n) = some n := (rfl)
theorem dCut_ap {lo hi : List D → Option (Option Int)} : dCut f lo hi ρ = (f ρ).bind fun a => (lo ρ).bind fun l => (hi ρ).bind fun u => cutK a l u := (rfl)
theorem cutK_lst {l u : Option Int} : cutK (.lst ds) l u = some (.lst (cutD ds l u)) := (rfl)
theorem cutK_scr {l u : Option Int} {ns : List Int} : cutK (.scr ns) l u = some (.lst (cutD (ns.map .int) l u)) := (rfl)
theorem dFld_ap : dFld k i f ρ = (f ρ).bind (fldK k i) := (rfl)
theorem fldK_obj : fldK k i (.obj k ds) = ds[i]? := if_pos rfl
theorem dCall_ap {h : List D → Option D} : dCall h fs ρ = (fs ρ).bind h := (rfl)
theorem dCallN_ap {h : D → Option (List D)} : dCallN h f ρ = ((f ρ).bind h).map .lst := (rfl)
theorem dFun_ap : dFun G1 fs dfl ρ = (fs ρ).bind fun ds => okR (G1 (ds ++ dfl)) := (rfl)
theorem okR_ok : okR (.ok d) = some d := (rfl)
theorem dFunN_ap : dFunN G1 fs dfl ρ = (fs ρ).bind fun ds => okRN (G1 (ds ++ dfl)) := (rfl)
theorem okRN_lst : okRN (.ok (.lst ds)) = some (.lst ds) := (rfl)
theorem okRN_dI {kvs : List (Int × D)} : okRN (.ok (.dI kvs)) = some (.dI kvs) := (rfl)
theorem okRN_dT {kvs : List (List Int × D)} : okRN (.ok (.dT kvs)) = some (.dT kvs) := (rfl)
theorem dMethN_ap : dMethN k G1 fo fs dfl ρ = (fo ρ).bind fun o => if isObj k o = true then (fs ρ).bind fun ds => okRN (G1 (o :: (ds ++ dfl))) else none := (rfl)
theorem dMeth_ap : dMeth k G1 fo fs dfl ρ = (fo ρ).bind fun o => if isObj k o = true then (fs ρ).bind fun ds => okR (G1 (o :: (ds ++ dfl))) else none := (rfl)
theorem isObj_obj : isObj k (.obj k ds) = true := (decide_eq_true rfl)
theorem uName_ap : uName i d ρ = some (ρ.set i d) := (rfl)
theorem uNil_ap : uNil [] ρ = some ρ := (rfl)
theorem uCons_ap : uCons u w (d :: ds) ρ = (u d ρ).bind (w ds) := (rfl)
theorem uTup_ap : uTup w (.tup ds) ρ = w ds ρ := (rfl)
theorem iLst_ap : iLst f ρ = (f ρ).bind lstOf := (rfl)
theorem lstOf_lst : lstOf (.lst ds) = some ds := (rfl)
theorem lstOf_scr {ns : List Int} : lstOf (.scr ns) = some (ns.map .int) := (rfl)
theorem iTupD_ap : iTupD f ρ = (f ρ).bind tupOf := (rfl)
theorem tupOf_tup : tupOf (.tup ds) = some ds := (rfl)
theorem iRev_ap : iRev f ρ = ((f ρ).bind lstOf).map List.reverse := (rfl)
theorem iEnum_ap : DL.iEnum f ρ = ((f ρ).bind lstOf).map (enumFrom 0) := (rfl)
theorem iRange1_ap : iRange1 f ρ = (f ρ).bind rng1K := (rfl)
theorem rng1K_int {j : Int} (h : -(2 ^ 62) ≤ j ∧ j < 2 ^ 62) : rng1K (.int j) = some (rng 0 j.toNat) := if_pos h
theorem iRange2_ap : iRange2 fa fb ρ = (fa ρ).bind fun d => (fb ρ).bind fun d' => rng2K d d' := (rfl)
theorem rng2K_int {i j : Int} (h : -(2 ^ 62) ≤ i ∧ i < 2 ^ 62 ∧ -(2 ^ 62) ≤ j ∧ j < 2 ^ 62) : rng2K (.int i) (.int j) = some (rng i (j - i).toNat) := if_pos h
theorem dLc_ap : dLc fi u t f ρ = (fi ρ).bind fun ds => if ds.length ≤ 100000 then (lcD u t f ρ ds).map .lst else none := (rfl)
theorem tTrue_ap : tTrue ρ = some true := (rfl)
theorem dChain_ap {h h' : D → D → Option D} : dChain h h' fa fb fc ρ = (fa ρ).bind fun a => (fb ρ).bind fun b => (h a b).bind fun x => (asB x).bind fun k => if k = true then (fc ρ).bind fun c => h' b c else some (.bl false) := (rfl)
theorem seqOf_lst : seqOf (.lst ds) = some ds := (rfl)
theorem seqOf_tup : seqOf (.tup ds) = some ds := (rfl)
theorem seqOf_scr {ns : List Int} : seqOf (.scr ns) = some (ns.map .int) := (rfl)
theorem gLen_lst : gLen [.lst ds] = some (.int ds.length) := (rfl)
theorem gLen_tup : gLen [.tup ds] = some (.int ds.length) := (rfl)
theorem gLen_scr {ns : List Int} : gLen [.scr ns] = some (.int ns.length) := by
  show some (D.int ((ns.map D.int).length : Nat)) = _
  rw [List.length_map]
theorem gCat_lst (h : ds.length + es.length ≤ 100000) : gCat (.lst ds) (.lst es) = some (.lst (ds ++ es)) := by
  unfold gCat
  first | exact if_pos h | simp [h]
section
variable {a b : Int}
theorem gAdd_int : gAdd (.int a) (.int b) = some (.int (a + b)) := (rfl)
theorem gSub_int : gSub (.int a) (.int b) = some (.int (a - b)) := (rfl)
theorem gMul_int (h : (-(2 ^ 64) < a ∧ a < 2 ^ 64) ∨ (-(2 ^ 64) < b ∧ b < 2 ^ 64)) : gMul (.int a) (.int b) = some (.int (a * b)) := if_pos h
theorem gMod_int (h : 0 < b) : gMod (.int a) (.int b) = some (.int (a % b)) := if_pos h
theorem gDiv_int (h : 0 < b ∧ b < 1073741824) : gDiv (.int a) (.int b) = some (.int (a / b)) := if_pos h
theorem gLt_int : gLt (.int a) (.int b) = some (.bl (decide (a < b))) := (rfl)
theorem gLe_int : gLe (.int a) (.int b) = some (.bl (decide (a ≤ b))) := (rfl)
theorem gGt_int : gGt (.int a) (.int b) = some (.bl (decide (b < a))) := (rfl)
theorem gGe_int : gGe (.int a) (.int b) = some (.bl (decide (b ≤ a))) := (rfl)
theorem gMax2_int : gMax2 [.int a, .int b] = some (.int (if b > a then b else a)) := (rfl)
theorem gMin2_int : gMin2 [.int a, .int b] = some (.int (if b < a then b else a)) := (rfl)
end
theorem gIsi_lst : gIsi "list" (.lst ds) = some (.bl true) := by
  show (kitB "list" "list").map D.bl = _
  rfl
end
end DL

/-! DL: plain laws of dicts, sets, while. -/
namespace DL
open PySem PySem.Spec PyProof.Rows L2 Enc
section
variable {β : Type} {en : β → D}
def lkI (kvs : List (Int × β)) (k : Int) : Option β := (kvs.find? fun p => decide (p.1 = k)).map (·.2)
def dictE (en : β → D) (kvs : List (Int × β)) : D := .dI (kvs.map fun p => (p.1, en p.2))
theorem lkI_nil {k : Int} : lkI ([] : List (Int × β)) k = none := (rfl)
theorem lkI_cons {k : Int} {p : Int × β} {r : List (Int × β)} : lkI (p :: r) k = if p.1 = k then some p.2 else lkI r k := by
  unfold lkI
  rw [List.find?_cons]
  by_cases h : p.1 = k
  · rw [decide_eq_true h, if_pos h]; rfl
  · rw [decide_eq_false h, if_neg h]
theorem lkI_none {kvs : List (Int × β)} {k : Int} : lkI kvs k = none ↔ k ∉ kvs.map (·.1) := by
  induction kvs with
  | nil => simp [lkI]
  | cons p r ih =>
    rw [lkI_cons]
    by_cases h : p.1 = k
    · simp [h]
    · rw [if_neg h, ih]
      simp [Ne.symm h]
theorem lkI_mem {kvs : List (Int × β)} {k : Int} {b : β} (h : lkI kvs k = some b) : (k, b) ∈ kvs := by
  induction kvs with
  | nil => cases h
  | cons p r ih =>
    rw [lkI_cons] at h
    by_cases e : p.1 = k
    · rw [if_pos e] at h
      cases h
      subst e
      exact .head _
    · rw [if_neg e] at h
      exact .tail _ (ih h)
theorem lkI_some {kvs : List (Int × β)} {k : Int} (h : k ∈ kvs.map (·.1)) : ∃ b, lkI kvs k = some b := by
  cases e : lkI kvs k with
  | none => exact absurd h (lkI_none.mp e)
  | some b => exact ⟨b, rfl⟩
theorem lkI_append {kvs r : List (Int × β)} {k : Int} : lkI (kvs ++ r) k = (lkI kvs k).or (lkI r k) := by
  induction kvs with
  | nil => simp [lkI]
  | cons p t ih =>
    rw [List.cons_append, lkI_cons, lkI_cons]
    by_cases h : p.1 = k
    · rw [if_pos h, if_pos h]; rfl
    · rw [if_neg h, if_neg h, ih]
theorem valD_dict {kvs : List (Int × β)} {k : Int} : valD (kvs.map fun p => (p.1, en p.2)) k = (lkI kvs k).map en := by
  induction kvs with
  | nil => rfl
  | cons p r ih =>
    rw [lkI_cons, List.map_cons]
    unfold valD at ih ⊢
    rw [List.find?_cons]
    by_cases h : p.1 = k
    · rw [if_pos h]
      simp [h]
    · rw [if_neg h, ← ih]
      simp [h]
theorem getD'_dict {kvs : List (Int × β)} {k : Int} : getD' (dictE en kvs) (.int k) = some ((lkI kvs k).map en) := congrArg some valD_dict
theorem gDIn_dict {kvs : List (Int × β)} {k : Int} : gDIn (.int k) (dictE en kvs) = some (.bl (decide (k ∈ kvs.map (·.1)))) := by
  unfold gDIn
  rw [getD'_dict]
  by_cases h : k ∈ kvs.map (·.1)
  · obtain ⟨b, e⟩ := lkI_some h
    rw [e, decide_eq_true h]
    rfl
  · rw [lkI_none.mpr h, decide_eq_false h]
    rfl
theorem gDNotIn_dict {kvs : List (Int × β)} {k : Int} : gDNotIn (.int k) (dictE en kvs) = some (.bl (!decide (k ∈ kvs.map (·.1)))) := by
  unfold gDNotIn
  rw [getD'_dict]
  by_cases h : k ∈ kvs.map (·.1)
  · obtain ⟨b, e⟩ := lkI_some h
    rw [e, decide_eq_true h]
    rfl
  · rw [lkI_none.mpr h, decide_eq_false h]
    rfl
theorem gDIx_dict {kvs : List (Int × β)} {k : Int} : gDIx (dictE en kvs) (.int k) = (lkI kvs k).map en := by
  unfold gDIx
  rw [getD'_dict]
  rfl
theorem gDGet1_dict {kvs : List (Int × β)} {k : Int} : gDGet1 (dictE en kvs) (.int k) = some (((lkI kvs k).map en).getD .non) := by
  unfold gDGet1
  rw [getD'_dict]
  rfl
theorem dDGet2_ap {f g h : DFn} {ρ : List D} : dDGet2 f g h ρ = (f ρ).bind fun a => (g ρ).bind fun b => (h ρ).bind fun x => (getD' a b).map fun o => o.getD x := (rfl)
theorem dDisp_int {f g : DFn} {ρ : List D} {k : Int} {d : D} (h1 : f ρ = some (.int k)) (h2 : g ρ = some d) : dDisp f g ρ = some (.dI [(k, d)]) := by
  unfold dDisp
  rw [h1, bindS, h2]
  rfl
theorem putD'_new {kvs : List (Int × β)} {k : Int} {d : D} {b : β} (hd : d = en b) (h : k ∉ kvs.map (·.1)) (hl : kvs.length < 100000) : putD' (dictE en kvs) (.int k) d = some (dictE en (kvs ++ [(k, b)])) := by
  subst hd
  show (if (kvs.map fun p => (p.1, en p.2)).length < 100000 then some (D.dI (putD (kvs.map fun p => (p.1, en p.2)) k (en b))) else none) = _
  rw [if_pos (by rw [List.length_map]; exact hl)]
  unfold putD
  have e : ((kvs.map fun p => (p.1, en p.2)).any fun kv => decide (kv.1 = k)) = false := by
    rw [List.any_eq_false]
    intro x hx
    obtain ⟨p, hp, rfl⟩ := List.mem_map.mp hx
    simp only [decide_eq_true_eq]
    exact fun z => h (List.mem_map.mpr ⟨p, hp, z⟩)
  rw [if_neg (by rw [e]; decide)]
  unfold dictE
  rw [List.map_append]
  rfl
theorem dPut_ap {i : Nat} {fk fv : DFn} {ρ : List D} : dPut i fk fv ρ = putK' i (fv ρ) ρ[i]? (fk ρ) ρ := (rfl)
theorem putK'_some {i : Nat} {d a b a' : D} {ρ : List D} (h : putD' a b d = some a') : putK' i (some d) (some a) (some b) ρ = .nx (ρ.set i a') := by
  unfold putK'
  show (match putD' a b d with | some a' => Out.nx (ρ.set i a') | none => .bad) = _
  rw [h]
theorem gSortKeys_dict {kvs : List (Int × β)} (h : kvs.length < 64) : gSortKeys (dictE en kvs) = some (.lst ((sortI (kvs.map (·.1))).map .int)) := by
  show (if (kvs.map fun p => (p.1, en p.2)).length < 64 then some (D.lst ((((kvs.map fun p => (p.1, en p.2)).map (·.1)).mergeSort fun a b : Int => decide (a ≤ b)).map .int)) else none) = _
  rw [if_pos (by rw [List.length_map]; exact h), List.map_map]
  rfl
end
theorem dForE_ap {f : List D → Option (List D × List D)} {u : D → List D → Option (List D)} {F : SFn} {ρ : List D} : dForE f u F ρ = forEK (f ρ) u F := (rfl)
theorem forEK_some {u : D → List D → Option (List D)} {F : SFn} {ds ρ : List D} : forEK (some (ds, ρ)) u F = forD u F ds ρ := (rfl)
theorem dMethPop_ap {cl : Cl} {G : List D → Rs} {i : Nat} {fo : DFn} {ρ : List D} : dMethPop cl G i fo ρ = popK cl G i (fo ρ) ρ[i]? ρ := (rfl)
theorem popK_some {cl : Cl} {G : List D → Rs} {i : Nat} {o d : D} {ds es ρ : List D} (h1 : isObj cl o = true) (h2 : ds.getLast? = some d) (h3 : G [o, d] = .ok (.lst es)) : popK cl G i (some o) (some (.lst ds)) ρ = some (es, ρ.set i (.lst ds.dropLast)) := by
  show (if isObj cl o = true then (ds.getLast?).bind fun d => (okR (G [o, d])).bind fun r => (lstOf r).map fun es => (es, ρ.set i (.lst ds.dropLast)) else none) = _
  rw [if_pos h1, h2, bindS, h3]
  rfl
theorem asInts_int (ns : List Int) : asInts (ns.map .int) = some ns := asInts_map ns
theorem intsOf_lst {ns : List Int} (h : ns.length < 64) : intsOf (.lst (ns.map .int)) = some ns := by
  unfold intsOf
  show ((some (ns.map D.int)).bind asInts).bind _ = _
  rw [bindS, asInts_int, bindS, if_pos h]
theorem intsOf_tup {ns : List Int} (h : ns.length < 64) : intsOf (.tup (ns.map .int)) = some ns := by
  unfold intsOf
  show ((some (ns.map D.int)).bind asInts).bind _ = _
  rw [bindS, asInts_int, bindS, if_pos h]
theorem gSortSet_lst {ns : List Int} (h : ns.length < 64) : gSortSet (.lst (ns.map .int)) = some (.lst ((sortI (ded ns)).map .int)) := by
  unfold gSortSet
  rw [intsOf_lst h]
  rfl
theorem gLenSet_lst {ns : List Int} (h : ns.length < 64) : gLenSet (.lst (ns.map .int)) = some (.int (ded ns).length) := by
  unfold gLenSet
  rw [intsOf_lst h]
  rfl
theorem gLenSet_tup {ns : List Int} (h : ns.length < 64) : gLenSet (.tup (ns.map .int)) = some (.int (ded ns).length) := by
  unfold gLenSet
  rw [intsOf_tup h]
  rfl
theorem sortI_pw (ns : List Int) : (sortI ns).Pairwise (· ≤ ·) := by
  have q := List.pairwise_mergeSort (le := fun a b : Int => decide (a ≤ b)) (fun a b c h1 h2 => by
    simp only [decide_eq_true_eq] at h1 h2 ⊢
    omega) (fun a b => by
    simp only [Bool.or_eq_true, decide_eq_true_eq]
    omega) ns
  exact q.imp fun {a b} h => of_decide_eq_true h
theorem sortI_perm (ns : List Int) : (sortI ns).Perm ns := List.mergeSort_perm _ _
theorem sortI_of {xs ys : List Int} (h : xs.Pairwise (· ≤ ·)) (p : xs.Perm ys) : xs = sortI ys :=
  List.Perm.eq_of_pairwise (le := fun a b : Int => a ≤ b) (fun a b _ _ h1 h2 => by omega) h (sortI_pw ys) (p.trans (sortI_perm ys).symm)
/-- a sorted list of unlike ints is its own sorted set -/
theorem sortI_ded {xs : List Int} (h : xs.Pairwise (· ≤ ·)) (nd : xs.Nodup) : sortI (ded xs) = xs := by
  rw [ded_of_nodup nd]
  exact (sortI_of h (List.Perm.refl _)).symm
theorem gd_opt {d : D} {x : Int} : gNe (.int x) d = if okEq (.int x) d = true then some (.bl (!deq (.int x) d)) else none := (rfl)
/-- an int or None -/
def optI : Option Int → D
  | some x => .int x
  | none => .non
theorem gNe_optI (x : Int) (o : Option Int) : gNe (.int x) (optI o) = some (.bl (!decide (some x = o))) := by
  cases o with
  | none =>
    show gNe (.int x) .non = _
    rfl
  | some y =>
    show gNe (.int x) (.int y) = _
    rw [gNe_int]
    by_cases h : x = y
    · subst h; simp
    · simp [h]
theorem gIsN_non {d : D} : gIsN d .non = some (.bl (isNon d)) := (rfl)
theorem gNotN_non {d : D} : gNotN d .non = some (.bl (!isNon d)) := (rfl)
theorem isNon_int {i : Int} : isNon (.int i) = false := (rfl)
theorem isNon_non : isNon .non = true := (rfl)
theorem flat_int {i : Int} : flat (.int i) = true := by unfold flat; rfl
theorem in_int (x : Int) (ns : List Int) : gIn (.int x) (.lst (ns.map .int)) = some (.bl (decide (x ∈ ns))) := (gIn_enc x ns).trans (by congr)
theorem notIn_int (x : Int) (ns : List Int) : gNotIn (.int x) (.lst (ns.map .int)) = some (.bl (!decide (x ∈ ns))) := (gNotIn_enc x ns).trans (by congr)
theorem eq_ints (xs ys : List Int) : gEq (.lst (xs.map .int)) (.lst (ys.map .int)) = some (.bl (decide (xs = ys))) := gEq_encL xs ys
theorem ne_ints (xs ys : List Int) : gNe (.lst (xs.map .int)) (.lst (ys.map .int)) = some (.bl (!decide (xs = ys))) := gNe_encL xs ys
theorem ne_nil (xs : List Int) : gNe (.lst (xs.map .int)) (.lst []) = some (.bl (!decide (xs = []))) := gNe_encL xs ([] : List Int)
theorem eq_nil (xs : List Int) : gEq (.lst (xs.map .int)) (.lst []) = some (.bl (decide (xs = []))) := gEq_encL xs ([] : List Int)
/-- a while: m turns at most are left -/
theorem whileD_inv {t : List D → Option Bool} {F : SFn} (P : Nat → List D → Prop)
    (step : ∀ m ρ, P m ρ → (t ρ = some false) ∨ (t ρ = some true ∧ ∃ m' ρ', m' < m ∧ (F ρ = .nx ρ' ∨ F ρ = .cont ρ') ∧ P m' ρ')) : ∀ (n m : Nat) (ρ : List D), m < n → P m ρ → ∃ m' ρ', whileD t F n ρ = .nx ρ' ∧ t ρ' = some false ∧ P m' ρ'
  | 0, m, ρ, h, _ => absurd h (Nat.not_lt_zero _)
  | n + 1, m, ρ, h, p => by
    rcases step m ρ p with e | ⟨e, m', ρ', hm, hF, p'⟩
    · refine ⟨m, ρ, ?_, e, p⟩
      unfold whileD
      rw [e]
    · obtain ⟨m2, ρ2, g1, g2, g3⟩ := whileD_inv P step n m' ρ' (by omega) p'
      refine ⟨m2, ρ2, ?_, g2, g3⟩
      unfold whileD
      rw [e]
      rcases hF with hF | hF
      · show (match F ρ with | .nx ρ' => whileD t F n ρ' | .cont ρ' => whileD t F n ρ' | .brk ρ' => .nx ρ' | o => o) = _
        rw [hF]
        exact g1
      · show (match F ρ with | .nx ρ' => whileD t F n ρ' | .cont ρ' => whileD t F n ρ' | .brk ρ' => .nx ρ' | o => o) = _
        rw [hF]
        exact g1
end DL

/-! DL: plain laws of loops that return. -/
namespace DL
open PySem PySem.Spec PyProof.Rows L2 Enc
/-- a loop that returns at the first item where p tells it -/
theorem forD_find {α : Type} {en : α → D} {u : D → List D → Option (List D)} {F : SFn} (P : List D → Prop) (p : α → Option D) : ∀ {xs : List α} {ρ : List D}, P ρ →
    (∀ x ∈ xs, ∀ ρ, P ρ → ∃ ρ1, u (en x) ρ = some ρ1 ∧ ((p x = none ∧ ∃ ρ', (F ρ1 = .nx ρ' ∨ F ρ1 = .cont ρ') ∧ P ρ') ∨ ∃ d, p x = some d ∧ F ρ1 = .ret d)) →
    (∃ d, xs.findSome? p = some d ∧ forD u F (xs.map en) ρ = .ret d) ∨ (xs.findSome? p = none ∧ ∃ ρ', forD u F (xs.map en) ρ = .nx ρ' ∧ P ρ')
  | [], ρ, h, _ => .inr ⟨rfl, ρ, rfl, h⟩
  | x :: xs, ρ, h, step => by
    obtain ⟨ρ1, h1, h2⟩ := step x (.head _) ρ h
    rw [List.map_cons]
    unfold forD
    rw [h1, List.findSome?_cons]
    rcases h2 with ⟨e, ρ', hF, hP⟩ | ⟨d, e, hF⟩
    · rw [e]
      have ih := forD_find P p (xs := xs) hP fun y hy => step y (.tail _ hy)
      have e2 : (match F ρ1 with | .nx ρ' => forD u F (xs.map en) ρ' | .cont ρ' => forD u F (xs.map en) ρ' | .brk ρ' => .nx ρ' | o => o) = forD u F (xs.map en) ρ' := by
        rcases hF with hF | hF
        · rw [hF]
        · rw [hF]
      rcases ih with ⟨d, i1, i2⟩ | ⟨i1, ρ2, i2, i3⟩
      · exact .inl ⟨d, i1, e2.trans i2⟩
      · exact .inr ⟨i1, ρ2, e2.trans i2, i3⟩
    · rw [e]
      refine .inl ⟨d, rfl, ?_⟩
      show (match F ρ1 with | .nx ρ' => forD u F (xs.map en) ρ' | .cont ρ' => forD u F (xs.map en) ρ' | .brk ρ' => .nx ρ' | o => o) = _
      rw [hF]
theorem sorted_same {xs ys : List Int} (h1 : xs.Pairwise (· ≤ ·)) (n1 : xs.Nodup) (h2 : ys.Pairwise (· ≤ ·)) (n2 : ys.Nodup) (h : ∀ x, x ∈ xs ↔ x ∈ ys) : xs = ys :=
  List.Perm.eq_of_pairwise (le := fun a b : Int => a ≤ b) (fun a b _ _ h1 h2 => by omega) h1 h2 ((List.perm_ext_iff_of_nodup n1 n2).mpr h)
theorem dSetM_ap {i : Nat} {f : DFn} {F1 F2 : SFn} {ρ : List D} : dSetM i f F1 F2 ρ = setmK i (f ρ) F1 F2 ρ := (rfl)
theorem setmK_non {i : Nat} {F1 F2 : SFn} {ρ : List D} : setmK i (some .non) F1 F2 ρ = F2 (ρ.set i .non) := (rfl)
theorem setmK_lst {i : Nat} {F1 F2 : SFn} {ρ ds : List D} : setmK i (some (.lst ds)) F1 F2 ρ = F1 (ρ.set i (.lst ds)) := (rfl)
theorem gListRg_int {n : Nat} (h : n ≤ 100000) : gListRg (.int n) = some (.lst (rng 0 n)) := by
  show (if 0 ≤ (n : Int) ∧ (n : Int) ≤ 100000 then some (D.lst (rng 0 (n : Int).toNat)) else none) = _
  rw [if_pos (by omega), Int.toNat_natCast]
theorem runK_nxT {ρ : List D} : runK true (.nx ρ) = .bad := (rfl)
theorem isNon_lst {ds : List D} : isNon (.lst ds) = false := (rfl)
theorem gIsi_list_non : gIsi "list" .non = some (.bl false) := by
  show (kitB "NoneType" "list").map D.bl = _
  rfl
/-- an int's list or None -/
def optL : Option (List Int) → D
  | some ys => .lst (ys.map .int)
  | none => .non
end DL

set_option maxHeartbeats 0
namespace DL
open PySem PySem.Spec PyProof.Rows L2
def top (i : Nat) : Stmt := PySem.Challenge.pw_wordswap_k71_plans_written.main.body.getD i (.Pass ⟨0, 0, 0, 0⟩)
def clName : Cl → Str
  | .SwapError => "SwapError" | .NoWeb => "NoWeb" | .NoPlan => "NoPlan" | .NotJoined => "NotJoined" | .NoLeader => "NoLeader" | .NoDeed => "NoDeed" | .Laid => "Laid" | .NotLaid => "NotLaid" | .Late => "Late" | .Unknown => "Unknown" | .NoText => "NoText" | .Web => "Web" | .Plan => "Plan" | .Ledger => "Ledger" | .Hand => "Hand" | .Free => "Free" | .Keeper => "Keeper" | .Run => "Run"
def ca (K : PySem.W.Frag) : Cl → Addr := fun c => He.ga K (clName c)
def ksL : List Cl := [.SwapError, .NoWeb, .NoPlan, .NoText]
def dd_l_stream : He.DefD := ⟨("_law_stream", none), "_law_stream", "_law_stream", defArgs (top 25), defBody (top 25), defScope (top 25), [], []⟩
def dd_l_web : He.DefD := ⟨("_law_web", none), "_law_web", "_law_web", defArgs (top 26), defBody (top 26), defScope (top 26), [], []⟩
def dd_l_cell_at : He.DefD := ⟨("_law_cell_at", none), "_law_cell_at", "_law_cell_at", defArgs (top 24), defBody (top 24), defScope (top 24), [], []⟩
def dd_l_leaders : He.DefD := ⟨("_law_leaders", none), "_law_leaders", "_law_leaders", defArgs (top 27), defBody (top 27), defScope (top 27), [], []⟩
def dd_l_limits : He.DefD := ⟨("_law_limits", none), "_law_limits", "_law_limits", defArgs (top 28), defBody (top 28), defScope (top 28), [], []⟩
def dd_are_leaders : He.DefD := ⟨("are_leaders", none), "are_leaders", "are_leaders", defArgs (top 7), defBody (top 7), defScope (top 7), [], []⟩
def dd_Plan_init : He.DefD := ⟨("Plan", some "__init__"), "__init__", "Plan.__init__", defArgs (inClass (top 8) 0), defBody (inClass (top 8) 0), defScope (inClass (top 8) 0), [], []⟩
def dd_is_passing : He.DefD := ⟨("is_passing", none), "is_passing", "is_passing", defArgs (top 12), defBody (top 12), defScope (top 12), [], []⟩
def dd_Web_init : He.DefD := ⟨("Web", some "__init__"), "__init__", "Web.__init__", defArgs (inClass (top 13) 0), defBody (inClass (top 13) 0), defScope (inClass (top 13) 0), [], []⟩
def dd_joined : He.DefD := ⟨("joined", none), "joined", "joined", defArgs (top 17), defBody (top 17), defScope (top 17), [], []⟩
def dd_Plan_limit : He.DefD := ⟨("Plan", some "limit"), "limit", "Plan.limit", defArgs (inClass (top 8) 1), defBody (inClass (top 8) 1), defScope (inClass (top 8) 1), [], []⟩
def dd_written_plan : He.DefD := ⟨("written_plan", none), "written_plan", "written_plan", defArgs (top 18), defBody (top 18), defScope (top 18), [], []⟩
def dd_l_text : He.DefD := ⟨("_law_text", none), "_law_text", "_law_text", defArgs (top 29), defBody (top 29), defScope (top 29), [], []⟩
def dd_SwapError_init : He.DefD := ⟨("SwapError", some "__init__"), "__init__", "SwapError.__init__", defArgs (inClass (top 2) 0), defBody (inClass (top 2) 0), defScope (inClass (top 2) 0), [], []⟩
def dd_number_of : He.DefD := ⟨("number_of", none), "number_of", "number_of", defArgs (top 19), defBody (top 19), defScope (top 19), [], []⟩
def dd_numbers_of : He.DefD := ⟨("numbers_of", none), "numbers_of", "numbers_of", defArgs (top 20), defBody (top 20), defScope (top 20), [], []⟩
def dd_told_numbers : He.DefD := ⟨("told_numbers", none), "told_numbers", "told_numbers", defArgs (top 21), defBody (top 21), defScope (top 21), [], []⟩
def dd_read_plan : He.DefD := ⟨("read_plan", none), "read_plan", "read_plan", defArgs (top 22), defBody (top 22), defScope (top 22), [], []⟩
def dd_l_right : He.DefD := ⟨("_law_right", none), "_law_right", "_law_right", defArgs (top 30), defBody (top 30), defScope (top 30), [], []⟩
def dd_law : He.DefD := ⟨("law", none), "law", "law", defArgs (top 31), defBody (top 31), defScope (top 31), [], []⟩
structure Fc (K : PySem.W.Frag) (mg : Str → Option Value) : Prop where
  d_l_stream : ∃ fd, FunD K dd_l_stream.name dd_l_stream.qual dd_l_stream.params dd_l_stream.body dd_l_stream.scope (dd_l_stream.dvs K) (dd_l_stream.kws K) (He.fAd K dd_l_stream.at_) fd
  d_l_web : ∃ fd, FunD K dd_l_web.name dd_l_web.qual dd_l_web.params dd_l_web.body dd_l_web.scope (dd_l_web.dvs K) (dd_l_web.kws K) (He.fAd K dd_l_web.at_) fd
  d_l_cell_at : ∃ fd, FunD K dd_l_cell_at.name dd_l_cell_at.qual dd_l_cell_at.params dd_l_cell_at.body dd_l_cell_at.scope (dd_l_cell_at.dvs K) (dd_l_cell_at.kws K) (He.fAd K dd_l_cell_at.at_) fd
  d_l_leaders : ∃ fd, FunD K dd_l_leaders.name dd_l_leaders.qual dd_l_leaders.params dd_l_leaders.body dd_l_leaders.scope (dd_l_leaders.dvs K) (dd_l_leaders.kws K) (He.fAd K dd_l_leaders.at_) fd
  d_l_limits : ∃ fd, FunD K dd_l_limits.name dd_l_limits.qual dd_l_limits.params dd_l_limits.body dd_l_limits.scope (dd_l_limits.dvs K) (dd_l_limits.kws K) (He.fAd K dd_l_limits.at_) fd
  d_are_leaders : ∃ fd, FunD K dd_are_leaders.name dd_are_leaders.qual dd_are_leaders.params dd_are_leaders.body dd_are_leaders.scope (dd_are_leaders.dvs K) (dd_are_leaders.kws K) (He.fAd K dd_are_leaders.at_) fd
  d_Plan_init : ∃ fd, FunD K dd_Plan_init.name dd_Plan_init.qual dd_Plan_init.params dd_Plan_init.body dd_Plan_init.scope (dd_Plan_init.dvs K) (dd_Plan_init.kws K) (He.fAd K dd_Plan_init.at_) fd
  d_is_passing : ∃ fd, FunD K dd_is_passing.name dd_is_passing.qual dd_is_passing.params dd_is_passing.body dd_is_passing.scope (dd_is_passing.dvs K) (dd_is_passing.kws K) (He.fAd K dd_is_passing.at_) fd
  d_Web_init : ∃ fd, FunD K dd_Web_init.name dd_Web_init.qual dd_Web_init.params dd_Web_init.body dd_Web_init.scope (dd_Web_init.dvs K) (dd_Web_init.kws K) (He.fAd K dd_Web_init.at_) fd
  d_joined : ∃ fd, FunD K dd_joined.name dd_joined.qual dd_joined.params dd_joined.body dd_joined.scope (dd_joined.dvs K) (dd_joined.kws K) (He.fAd K dd_joined.at_) fd
  d_Plan_limit : ∃ fd, FunD K dd_Plan_limit.name dd_Plan_limit.qual dd_Plan_limit.params dd_Plan_limit.body dd_Plan_limit.scope (dd_Plan_limit.dvs K) (dd_Plan_limit.kws K) (He.fAd K dd_Plan_limit.at_) fd
  d_written_plan : ∃ fd, FunD K dd_written_plan.name dd_written_plan.qual dd_written_plan.params dd_written_plan.body dd_written_plan.scope (dd_written_plan.dvs K) (dd_written_plan.kws K) (He.fAd K dd_written_plan.at_) fd
  d_l_text : ∃ fd, FunD K dd_l_text.name dd_l_text.qual dd_l_text.params dd_l_text.body dd_l_text.scope (dd_l_text.dvs K) (dd_l_text.kws K) (He.fAd K dd_l_text.at_) fd
  d_SwapError_init : ∃ fd, FunD K dd_SwapError_init.name dd_SwapError_init.qual dd_SwapError_init.params dd_SwapError_init.body dd_SwapError_init.scope (dd_SwapError_init.dvs K) (dd_SwapError_init.kws K) (He.fAd K dd_SwapError_init.at_) fd
  d_number_of : ∃ fd, FunD K dd_number_of.name dd_number_of.qual dd_number_of.params dd_number_of.body dd_number_of.scope (dd_number_of.dvs K) (dd_number_of.kws K) (He.fAd K dd_number_of.at_) fd
  d_numbers_of : ∃ fd, FunD K dd_numbers_of.name dd_numbers_of.qual dd_numbers_of.params dd_numbers_of.body dd_numbers_of.scope (dd_numbers_of.dvs K) (dd_numbers_of.kws K) (He.fAd K dd_numbers_of.at_) fd
  d_told_numbers : ∃ fd, FunD K dd_told_numbers.name dd_told_numbers.qual dd_told_numbers.params dd_told_numbers.body dd_told_numbers.scope (dd_told_numbers.dvs K) (dd_told_numbers.kws K) (He.fAd K dd_told_numbers.at_) fd
  d_read_plan : ∃ fd, FunD K dd_read_plan.name dd_read_plan.qual dd_read_plan.params dd_read_plan.body dd_read_plan.scope (dd_read_plan.dvs K) (dd_read_plan.kws K) (He.fAd K dd_read_plan.at_) fd
  d_l_right : ∃ fd, FunD K dd_l_right.name dd_l_right.qual dd_l_right.params dd_l_right.body dd_l_right.scope (dd_l_right.dvs K) (dd_l_right.kws K) (He.fAd K dd_l_right.at_) fd
  d_law : ∃ fd, FunD K dd_law.name dd_law.qual dd_law.params dd_law.body dd_law.scope (dd_law.dvs K) (dd_law.kws K) (He.fAd K dd_law.at_) fd
  f_range : mg "range" = none
  g_l_stream : mg "_law_stream" = some (.ref (He.ga K "_law_stream"))
  f_sorted : mg "sorted" = none
  f_len : mg "len" = none
  f_set : mg "set" = none
  f_list : mg "list" = none
  k_Web : ClsOk K (ca K) .Web
  g_are_leaders : mg "are_leaders" = some (.ref (He.ga K "are_leaders"))
  k_Plan : ClsOk K (ca K) .Plan
  f_dict : mg "dict" = none
  c_LEAST_HANDS : ∃ t, mg "LEAST_HANDS" = some (.int 2 t)
  c_MOST_HANDS : ∃ t, mg "MOST_HANDS" = some (.int 6 t)
  f_enumerate : mg "enumerate" = none
  g_is_passing : mg "is_passing" = some (.ref (He.ga K "is_passing"))
  f_str : mg "str" = none
  g_joined : mg "joined" = some (.ref (He.ga K "joined"))
  m_Plan_limit : Meth K (ca K .Plan) "limit" (He.fAd K dd_Plan_limit.at_)
  c_MOST_FIGURES : ∃ t, mg "MOST_FIGURES" = some (.int 9 t)
  c_FIGURES : ∃ t, mg "FIGURES" = some (.str "0123456789" t)
  f_int : mg "int" = none
  g_number_of : mg "number_of" = some (.ref (He.ga K "number_of"))
  x_ok : XOk K (ca K) (He.fAd K dd_SwapError_init.at_) ksL
  x_t : PySem.W.typeIn K (.ref (He.fAd K dd_SwapError_init.at_)) = some (.type "function")
  g_NoText : mg "NoText" = some (.ref (He.ga K "NoText"))
  g_numbers_of : mg "numbers_of" = some (.ref (He.ga K "numbers_of"))
  g_told_numbers : mg "told_numbers" = some (.ref (He.ga K "told_numbers"))
  f_tuple : mg "tuple" = none
  g_Plan : mg "Plan" = some (.ref (He.ga K "Plan"))
  M_Plan : Mk K (ca K .Plan) (He.fAd K dd_Plan_init.at_)
  g_Web : mg "Web" = some (.ref (He.ga K "Web"))
  M_Web : Mk K (ca K .Web) (He.fAd K dd_Web_init.at_)
  f_isinstance : mg "isinstance" = none
  o_Plan : C8.InsC K (ca K .Plan)
  g_l_web : mg "_law_web" = some (.ref (He.ga K "_law_web"))
  g_l_cell_at : mg "_law_cell_at" = some (.ref (He.ga K "_law_cell_at"))
  g_l_leaders : mg "_law_leaders" = some (.ref (He.ga K "_law_leaders"))
  g_l_limits : mg "_law_limits" = some (.ref (He.ga K "_law_limits"))
  g_written_plan : mg "written_plan" = some (.ref (He.ga K "written_plan"))
  g_l_text : mg "_law_text" = some (.ref (He.ga K "_law_text"))
  g_read_plan : mg "read_plan" = some (.ref (He.ga K "read_plan"))
  g_l_right : mg "_law_right" = some (.ref (He.ga K "_law_right"))
def fnL : List He.DefD := [dd_l_stream, dd_l_web, dd_l_cell_at, dd_l_leaders, dd_l_limits, dd_are_leaders, dd_Plan_init, dd_is_passing, dd_Web_init, dd_joined, dd_Plan_limit, dd_written_plan, dd_l_text, dd_SwapError_init, dd_number_of, dd_numbers_of, dd_told_numbers, dd_read_plan, dd_l_right, dd_law]
def faL : List He.Fa := [.free "range", .glo "_law_stream", .free "sorted", .free "len", .free "set", .free "list", .cls "Web", .noat "Web" "number", .noat "Web" "passings", .glo "are_leaders", .cls "Plan", .noat "Plan" "web", .noat "Plan" "leaders", .noat "Plan" "limits", .free "dict", .int "LEAST_HANDS" 2, .int "MOST_HANDS" 6, .free "enumerate", .glo "is_passing", .free "str", .glo "joined", .meth "Plan" "limit", .int "MOST_FIGURES" 9, .str "FIGURES" "0123456789", .free "int", .glo "number_of", .glo "NoText", .glo "numbers_of", .glo "told_numbers", .free "tuple", .glo "Plan", .mkr "Plan", .glo "Web", .mkr "Web", .free "isinstance", .glo "_law_web", .glo "_law_cell_at", .glo "_law_leaders", .glo "_law_limits", .glo "written_plan", .glo "_law_text", .glo "read_plan", .glo "_law_right", .glo "law"]
def xsL : List (PySem.W.Frag → Bool) := [fun K => xokB K (ca K) (He.fAd K dd_SwapError_init.at_) ksL, fun K => decide (PySem.W.typeIn K (.ref (He.fAd K dd_SwapError_init.at_)) = some (.type "function")), fun K => insB K (ca K .Plan)]
theorem fc_of {K : PySem.W.Frag} {h : Heap} {mg : Str → Option Value} (X : K.In h) (G : h.Ns mainGlobals mg) (c : SaysX xsL faL fnL K) : Fc K mg :=
  ⟨c.d.def_ 0 (d := dd_l_stream) rfl,
   c.d.def_ 1 (d := dd_l_web) rfl,
   c.d.def_ 2 (d := dd_l_cell_at) rfl,
   c.d.def_ 3 (d := dd_l_leaders) rfl,
   c.d.def_ 4 (d := dd_l_limits) rfl,
   c.d.def_ 5 (d := dd_are_leaders) rfl,
   c.d.def_ 6 (d := dd_Plan_init) rfl,
   c.d.def_ 7 (d := dd_is_passing) rfl,
   c.d.def_ 8 (d := dd_Web_init) rfl,
   c.d.def_ 9 (d := dd_joined) rfl,
   c.d.def_ 10 (d := dd_Plan_limit) rfl,
   c.d.def_ 11 (d := dd_written_plan) rfl,
   c.d.def_ 12 (d := dd_l_text) rfl,
   c.d.def_ 13 (d := dd_SwapError_init) rfl,
   c.d.def_ 14 (d := dd_number_of) rfl,
   c.d.def_ 15 (d := dd_numbers_of) rfl,
   c.d.def_ 16 (d := dd_told_numbers) rfl,
   c.d.def_ 17 (d := dd_read_plan) rfl,
   c.d.def_ 18 (d := dd_l_right) rfl,
   c.d.def_ 19 (d := dd_law) rfl,
   He.free_ok X G (c.d.fact 0 (f := .free "range") rfl),
   He.glo_ok X G (c.d.fact 1 (f := .glo "_law_stream") rfl),
   He.free_ok X G (c.d.fact 2 (f := .free "sorted") rfl),
   He.free_ok X G (c.d.fact 3 (f := .free "len") rfl),
   He.free_ok X G (c.d.fact 4 (f := .free "set") rfl),
   He.free_ok X G (c.d.fact 5 (f := .free "list") rfl),
   ⟨He.cls_ok (c.d.fact 6 (f := .cls "Web") rfl), fun f hf => by
      have e : f = "number" ∨ f = "passings" := by simpa [flds] using hf
      rcases e with rfl | rfl
      · exact He.noat_ok (c.d.fact 7 (f := .noat "Web" "number") rfl)
      · exact He.noat_ok (c.d.fact 8 (f := .noat "Web" "passings") rfl)⟩,
   He.glo_ok X G (c.d.fact 9 (f := .glo "are_leaders") rfl),
   ⟨He.cls_ok (c.d.fact 10 (f := .cls "Plan") rfl), fun f hf => by
      have e : f = "web" ∨ f = "leaders" ∨ f = "limits" := by simpa [flds] using hf
      rcases e with rfl | rfl | rfl
      · exact He.noat_ok (c.d.fact 11 (f := .noat "Plan" "web") rfl)
      · exact He.noat_ok (c.d.fact 12 (f := .noat "Plan" "leaders") rfl)
      · exact He.noat_ok (c.d.fact 13 (f := .noat "Plan" "limits") rfl)⟩,
   He.free_ok X G (c.d.fact 14 (f := .free "dict") rfl),
   He.int_ok X G (c.d.fact 15 (f := .int "LEAST_HANDS" 2) rfl),
   He.int_ok X G (c.d.fact 16 (f := .int "MOST_HANDS" 6) rfl),
   He.free_ok X G (c.d.fact 17 (f := .free "enumerate") rfl),
   He.glo_ok X G (c.d.fact 18 (f := .glo "is_passing") rfl),
   He.free_ok X G (c.d.fact 19 (f := .free "str") rfl),
   He.glo_ok X G (c.d.fact 20 (f := .glo "joined") rfl),
   He.meth_ok (c.d.fact 21 (f := .meth "Plan" "limit") rfl),
   He.int_ok X G (c.d.fact 22 (f := .int "MOST_FIGURES" 9) rfl),
   He.str_ok X G (c.d.fact 23 (f := .str "FIGURES" "0123456789") rfl),
   He.free_ok X G (c.d.fact 24 (f := .free "int") rfl),
   He.glo_ok X G (c.d.fact 25 (f := .glo "number_of") rfl),
   xokB_ok (c.x 0 (b := fun K => xokB K (ca K) (He.fAd K dd_SwapError_init.at_) ksL) rfl),
   of_decide_eq_true (c.x 1 (b := fun K => decide (PySem.W.typeIn K (.ref (He.fAd K dd_SwapError_init.at_)) = some (.type "function"))) rfl),
   He.glo_ok X G (c.d.fact 26 (f := .glo "NoText") rfl),
   He.glo_ok X G (c.d.fact 27 (f := .glo "numbers_of") rfl),
   He.glo_ok X G (c.d.fact 28 (f := .glo "told_numbers") rfl),
   He.free_ok X G (c.d.fact 29 (f := .free "tuple") rfl),
   He.glo_ok X G (c.d.fact 30 (f := .glo "Plan") rfl),
   He.mkr_ok (c.d.fact 31 (f := .mkr "Plan") rfl),
   He.glo_ok X G (c.d.fact 32 (f := .glo "Web") rfl),
   He.mkr_ok (c.d.fact 33 (f := .mkr "Web") rfl),
   He.free_ok X G (c.d.fact 34 (f := .free "isinstance") rfl),
   insB_ok (He.cls_ok (c.d.fact 10 (f := .cls "Plan") rfl)) (c.x 2 (b := fun K => insB K (ca K .Plan)) rfl),
   He.glo_ok X G (c.d.fact 35 (f := .glo "_law_web") rfl),
   He.glo_ok X G (c.d.fact 36 (f := .glo "_law_cell_at") rfl),
   He.glo_ok X G (c.d.fact 37 (f := .glo "_law_leaders") rfl),
   He.glo_ok X G (c.d.fact 38 (f := .glo "_law_limits") rfl),
   He.glo_ok X G (c.d.fact 39 (f := .glo "written_plan") rfl),
   He.glo_ok X G (c.d.fact 40 (f := .glo "_law_text") rfl),
   He.glo_ok X G (c.d.fact 41 (f := .glo "read_plan") rfl),
   He.glo_ok X G (c.d.fact 42 (f := .glo "_law_right") rfl)⟩
section
variable {P : Program} {w : World} {K : PySem.W.Frag} {mg : Str → Option Value} {base : Heap}
def sb_l_stream_0 : SFn := (dSeq (dApp 2 (d2 gMod (dVar 5) (dC (.int 5040))))
  (dAsg 5 (d2 gDiv (dVar 5) (dC (.int 5040)))))
def sb_l_stream_1 : SFn := (dSeq (dAsg 3 (d2 gMod (d2 gAdd (d2 gAdd (d2 gMul (dVar 3) (d2 gAdd (d2 gDiv (dVar 3) (dC (.int 1009))) (dC (.int 69621)))) (dVar 4)) (dC (.int 1))) (dC (.int 2147483647))))
  (dApp 2 (dVar 3)))
def sm_l_stream : SFn := (dSeq (dAsg 2 (dLst dNilA))
  (dSeq (dIfS (DL.tB (d2 gEq (d2 gMod (dVar 0) (dC (.int 2))) (dC (.int 1)))) (dSeq (dAsg 5 (d2 gDiv (dVar 0) (dC (.int 2))))
  (dSeq (dFor (iRange1 (dVar 1)) (uName 4) sb_l_stream_0)
  (dRet (dVar 2)))) dNext)
  (dSeq (dAsg 3 (d2 gMod (d2 gAdd (d2 gMul (dVar 0) (dC (.int 48271))) (dC (.int 7919))) (dC (.int 2147483647))))
  (dSeq (dFor (iRange1 (dVar 1)) (uName 4) sb_l_stream_1)
  (dRet (dVar 2))))))
def fn_l_stream : List D → Rs := runF false 4 sm_l_stream
theorem sc_l_stream : FnScope ["_law_cell", "_law_size", "_law_found", "_law_number", "_law_k", "_law_digits"] ["_law_cell", "_law_size"] (defScope (top 25)) := ⟨rfl, rfl, rfl, by decide +kernel, rfl, by decide +kernel, by decide +kernel⟩
theorem ok_l_stream (Z : Fc K mg) : ∃ fd, FnOk P w K mg base (L2.CX P w) 1 (He.fAd K dd_l_stream.at_) fd ["_law_cell", "_law_size"] (SpD ⟨K, ca K⟩ [.s, .s] false fn_l_stream) ∧ PySem.W.keepIn K (.ref (He.fAd K dd_l_stream.at_)) = true ∧ Binds K fd ["_law_cell", "_law_size"] [] := by
  obtain ⟨fd, F⟩ := Z.d_l_stream
  have f_range := Z.f_range
  refine ⟨fd, ?_, F.kp, F.bindsN fun _ _ _ _ _ _ us hl => match us, hl with | [_, _], _ => rfl⟩
  refine fn_D (Γ' := []) (Γ0 := [.s, .s]) (n := 4) (N := ["_law_cell", "_law_size", "_law_found", "_law_number", "_law_k", "_law_digits"]) F sc_l_stream rfl rfl (fun cdv A outer s H E hr => ?_)
  have hN := sc_l_stream.nd
  exact (pdss_cons (pds_setn 2 (pd_lst pda_nil) hN)
  (pdss_cons (pds_if (Γ' := [.s, .s, .f, .n, .n, .n]) (pdt_cmp (og_eq hr) (pd_bin bg_mod (pd_var 0) pd_int) pd_int) (pdss_cons (pds_set 5 (pd_bin bg_div (pd_var 0) pd_int) hN)
  (pdss_cons (pds_for (sh := true) (Γ := [.s, .s, .f, .n, .n, .s]) (passes_of rfl) (pdi_range1 (pd_var 1) f_range) (pdg_name 4 hN)
  (pdss_after (Γ1 := [.s, .s, .f, .n, .s, .s]) (pdss_cons (pds_app 2 (pd_bin bg_mod (pd_var 5) pd_int))
  (pdss_one (pds_set 5 (pd_bin bg_div (pd_var 5) pd_int) hN)))))
  (pdss_ahead (Γ1 := [.s, .s, .s, .n, .n, .s]) (pdss_one (pds_ret (pd_var 2)))))) pdss_nil)
  (pdss_cons (pds_set 3 (pd_bin bg_mod (pd_bin bg_add (pd_bin bg_mul (pd_var 0) pd_int) pd_int) pd_int) hN)
  (pdss_cons (pds_for (sh := true) (Γ := [.s, .s, .f, .s, .n, .n]) (passes_of rfl) (pdi_range1 (pd_var 1) f_range) (pdg_name 4 hN)
  (pdss_after (Γ1 := [.s, .s, .f, .s, .s, .n]) (pdss_cons (pds_set 3 (pd_bin bg_mod (pd_bin bg_add (pd_bin bg_add (pd_bin bg_mul (pd_var 3) (pd_bin bg_add (pd_bin bg_div (pd_var 3) pd_int) pd_int)) (pd_var 4)) pd_int) pd_int) hN)
  (pdss_one (pds_app 2 (pd_var 3))))))
  (pdss_ahead (Γ1 := [.s, .s, .s, .s, .n, .n]) (pdss_one (pds_ret (pd_var 2))))))))
def sb_l_web_0 : SFn := (dApp 4 (dTup (dConsA (d2 gIx (dVar 3) (d2 gSub (dVar 7) (dC (.int 1)))) (dConsA (d2 gIx (dVar 3) (dVar 7)) dNilA))))
def sb_l_web_1 : SFn := (dSeq (dAsg 10 (d2 gEq (d2 gMod (d2 gIx (dVar 1) (d2 gAdd (d2 gMul (dC (.int 6)) (dVar 5)) (dVar 8))) (d2 gAdd (dC (.int 2)) (d2 gMod (d2 gIx (dVar 1) (dC (.int 43))) (dC (.int 5))))) (dC (.int 0))))
  (dIfS (tAndF (DL.tB (d2 gNe (dVar 5) (dVar 8))) (tAndF (DL.tB (dVar 10)) (DL.tB (d2 gNotIn (dTup (dConsA (dVar 5) (dConsA (dVar 8) dNilA))) (dVar 4))))) (dApp 4 (dTup (dConsA (dVar 5) (dConsA (dVar 8) dNilA)))) dNext))
def sb_l_web_2 : SFn := (dFor (iRange1 (dVar 2)) (uName 8) sb_l_web_1)
def sm_l_web : SFn := (dSeq (dAsg 1 (dFun fn_l_stream (dConsA (dVar 0) (dConsA (dC (.int 46)) dNilA)) []))
  (dSeq (dAsg 2 (d2 gAdd (dC (.int 2)) (d2 gMod (d2 gIx (dVar 1) (dC (.int 45))) (dC (.int 5)))))
  (dSeq (dAsg 3 (dLc (iLst (dCallN gSort (dLc (iRange1 (dVar 2)) (uName 7) tTrue (dTup (dConsA (d2 gIx (dVar 1) (d2 gAdd (dC (.int 36)) (dVar 7))) (dConsA (dVar 7) dNilA)))))) (uTup (uCons (uName 9) (uCons (uName 7) uNil))) tTrue (dVar 7)))
  (dSeq (dAsg 4 (dLst dNilA))
  (dSeq (dIfS (DL.tB (d2 gGt (d2 gMod (d2 gIx (dVar 1) (dC (.int 42))) (dC (.int 3))) (dC (.int 0)))) (dFor (iRange1 (dVar 2)) (uName 7) sb_l_web_0) dNext)
  (dSeq (dFor (iRange1 (dVar 2)) (uName 5) sb_l_web_2)
  (dSeq (dAsg 6 (d2 gMod (d2 gIx (dVar 1) (dC (.int 44))) (d2 gAdd (dCall gLen (dConsA (dVar 4) dNilA)) (dC (.int 1)))))
  (dRet (dTup (dConsA (dVar 2) (dConsA (d2 gCat (dCut (dVar 4) (oSome (dVar 6)) oNone) (dCut (dVar 4) oNone (oSome (dVar 6)))) dNilA)))))))))))
def fn_l_web : List D → Rs := runF false 10 sm_l_web
theorem sc_l_web : FnScope ["_law_cell", "_law_xs", "_law_number", "_law_order", "_law_found", "_law_giver", "_law_cut", "_law_k", "_law_taker", "_law_draw", "_law_drawn"] ["_law_cell"] (defScope (top 26)) := ⟨rfl, rfl, rfl, by decide +kernel, rfl, by decide +kernel, by decide +kernel⟩
theorem ok_l_web (Z : Fc K mg) : ∃ fd, FnOk P w K mg base (L2.CX P w) 2 (He.fAd K dd_l_web.at_) fd ["_law_cell"] (SpD ⟨K, ca K⟩ [.s] false fn_l_web) ∧ PySem.W.keepIn K (.ref (He.fAd K dd_l_web.at_)) = true ∧ Binds K fd ["_law_cell"] [] := by
  obtain ⟨fd, F⟩ := Z.d_l_web
  obtain ⟨fd_l_stream, F_l_stream, kp_l_stream, B_l_stream⟩ := ok_l_stream (P := P) (w := w) (base := base) Z
  have g_l_stream := Z.g_l_stream
  have f_sorted := Z.f_sorted
  have f_range := Z.f_range
  have f_len := Z.f_len
  refine ⟨fd, ?_, F.kp, F.bindsN fun _ _ _ _ _ _ us hl => match us, hl with | [_], _ => rfl⟩
  refine fn_D (Γ' := []) (Γ0 := [.s]) (n := 10) (N := ["_law_cell", "_law_xs", "_law_number", "_law_order", "_law_found", "_law_giver", "_law_cut", "_law_k", "_law_taker", "_law_draw", "_law_drawn"]) F sc_l_web rfl rfl (fun cdv A outer s H E hr => ?_)
  have hN := sc_l_web.nd
  exact (pdss_cons (pds_set 1 (pd_call F_l_stream (hr.mono (by decide)) g_l_stream kp_l_stream B_l_stream .nil .nil (pda_cons (pd_var 0) (pda_cons pd_int pda_nil))) hN)
  (pdss_cons (pds_set 2 (pd_bin bg_add pd_int (pd_bin bg_mod (pd_ix (pd_var 1) pd_int) pd_int)) hN)
  (pdss_cons (pds_setLc (sh := true) 3 [("_law_draw", 9), ("_law_k", 7)] (pdi_list (pd_new (pd_callBN (cn_sorted hr) (pd_new (pd_lc (sh := true) [("_law_k", 7)] (pdi_range1 (pd_var 2) f_range) hN (blkB_ok (by kernel_rfl)) (fun _ _ _ _ _ => (pdg_name 7 hN)) (fun _ _ _ _ _ => pdts_nil) (fun _ _ _ _ _ => (pd_tup (pda_cons (pd_ix (pd_var 1) (pd_bin bg_add pd_int (pd_var 7))) (pda_cons (pd_var 7) pda_nil)))))) f_sorted))) hN (blkB_ok (by kernel_rfl)) (fun _ _ _ _ _ => (pdg_tup (pdgs_cons (pdg_name 9 hN) (pdgs_cons (pdg_name 7 hN) pdgs_nil)))) (fun _ _ _ _ _ => pdts_nil) (fun _ _ _ _ _ => (pd_var 7)) (by rfl))
  (pdss_ahead (Γ1 := [.s, .s, .s, .s, .n, .n, .n, .n, .n, .n, .n]) (pdss_cons (pds_setn 4 (pd_lst pda_nil) hN)
  (pdss_cons (pds_if (Γ' := [.s, .s, .s, .s, .f, .n, .n, .n, .n, .n, .n]) (pdt_cmp og_gt (pd_bin bg_mod (pd_ix (pd_var 1) pd_int) pd_int) pd_int) (pdss_one (pds_for (sh := true) (Γ := [.s, .s, .s, .s, .f, .n, .n, .n, .n, .n, .n]) (passes_of rfl) (pdi_range1 (pd_var 2) f_range) (pdg_name 7 hN)
  (pdss_after (Γ1 := [.s, .s, .s, .s, .f, .n, .n, .s, .n, .n, .n]) (pdss_one (pds_app 4 (pd_tup (pda_cons (pd_ix (pd_var 3) (pd_bin bg_sub (pd_var 7) pd_int)) (pda_cons (pd_ix (pd_var 3) (pd_var 7)) pda_nil)))))))) pdss_nil)
  (pdss_cons (pds_for (sh := true) (Γ := [.s, .s, .s, .s, .f, .n, .n, .n, .n, .n, .n]) (passes_of rfl) (pdi_range1 (pd_var 2) f_range) (pdg_name 5 hN)
  (pdss_after (Γ1 := [.s, .s, .s, .s, .f, .s, .n, .n, .n, .n, .n]) (pdss_one (pds_for (sh := true) (Γ := [.s, .s, .s, .s, .f, .s, .n, .n, .n, .n, .n]) (passes_of rfl) (pdi_range1 (pd_var 2) f_range) (pdg_name 8 hN)
  (pdss_after (Γ1 := [.s, .s, .s, .s, .f, .s, .n, .n, .s, .n, .s]) (pdss_cons (pds_set 10 (pd_cmp (og_eq hr) (pd_bin bg_mod (pd_ix (pd_var 1) (pd_bin bg_add (pd_bin bg_mul pd_int (pd_var 5)) (pd_var 8))) (pd_bin bg_add pd_int (pd_bin bg_mod (pd_ix (pd_var 1) pd_int) pd_int))) pd_int) hN)
  (pdss_one (pds_if (Γ' := [.s, .s, .s, .s, .f, .s, .n, .n, .s, .n, .s]) (pdt_w (pdw_and (pdt_cmp (og_ne hr) (pd_var 5) (pd_var 8)) (pdw_and (pdt_val (pd_var 10)) (pdw_and1 (pdt_cmp (og_notIn hr) (pd_tup (pda_cons (pd_var 5) (pda_cons (pd_var 8) pda_nil))) (pd_varF 4)))))) (pdss_one (pds_app 4 (pd_tup (pda_cons (pd_var 5) (pda_cons (pd_var 8) pda_nil))))) pdss_nil))))))))
  (pdss_ahead (Γ1 := [.s, .s, .s, .s, .s, .n, .n, .n, .n, .n, .n]) (pdss_cons (pds_set 6 (pd_bin bg_mod (pd_ix (pd_var 1) pd_int) (pd_bin bg_add (pd_callB cg_len (pda_cons (pd_var 4) pda_nil) f_len) pd_int)) hN)
  (pdss_one (pds_ret (pd_tup (pda_cons (pd_var 2) (pda_cons (pd_new (pd_cat (pd_new (pd_cut (pd_var 4) (pdo_some (pd_var 6)) pdo_none)) (pd_new (pd_cut (pd_var 4) pdo_none (pdo_some (pd_var 6)))))) pda_nil))))))))))))))
def sm_l_cell_at : SFn := (dSeq (dIfS (DL.tB (d2 gLt (dVar 1) (dCall gLen (dConsA (dVar 0) dNilA)))) (dRet (d2 gIx (dVar 0) (dVar 1))) dNext)
  (dRet (dC (.int 0))))
def fn_l_cell_at : List D → Rs := runF false 0 sm_l_cell_at
theorem sc_l_cell_at : FnScope ["_law_script", "_law_k"] ["_law_script", "_law_k"] (defScope (top 24)) := ⟨rfl, rfl, rfl, by decide +kernel, rfl, by decide +kernel, by decide +kernel⟩
theorem ok_l_cell_at (Z : Fc K mg) : ∃ fd, FnOk P w K mg base (L2.CX P w) 1 (He.fAd K dd_l_cell_at.at_) fd ["_law_script", "_law_k"] (SpD ⟨K, ca K⟩ [.s, .s] false fn_l_cell_at) ∧ PySem.W.keepIn K (.ref (He.fAd K dd_l_cell_at.at_)) = true ∧ Binds K fd ["_law_script", "_law_k"] [] := by
  obtain ⟨fd, F⟩ := Z.d_l_cell_at
  have f_len := Z.f_len
  refine ⟨fd, ?_, F.kp, F.bindsN fun _ _ _ _ _ _ us hl => match us, hl with | [_, _], _ => rfl⟩
  refine fn_D (Γ' := []) (Γ0 := [.s, .s]) (n := 0) (N := ["_law_script", "_law_k"]) F sc_l_cell_at rfl rfl (fun cdv A outer s H E hr => ?_)
  have hN := sc_l_cell_at.nd
  exact (pdss_cons (pds_if (Γ' := [.s, .s]) (pdt_cmp og_lt (pd_var 1) (pd_callB cg_len (pda_cons (pd_var 0) pda_nil) f_len)) (pdss_one (pds_ret (pd_ix (pd_var 0) (pd_var 1)))) pdss_nil)
  (pdss_one (pds_ret pd_int)))
def sm_l_leaders : SFn := (dSeq (dAsg 2 (dFun fn_l_stream (dConsA (dVar 0) (dConsA (dC (.int 7)) dNilA)) []))
  (dSeq (dAsg 3 (dLc (iRange1 (dVar 1)) (uName 4) (DL.tB (d2 gLt (d2 gMod (d2 gIx (dVar 2) (dVar 4)) (dC (.int 4))) (d2 gAdd (dC (.int 1)) (d2 gMod (d2 gIx (dVar 2) (dC (.int 6))) (dC (.int 3)))))) (dVar 4)))
  (dSeq (dIfS (DL.tB (d2 gEq (dVar 3) (dLst dNilA))) (dAsg 3 (dLst (dConsA (d2 gMod (d2 gIx (dVar 2) (dC (.int 0))) (dVar 1)) dNilA))) dNext)
  (dRet (dVar 3)))))
def fn_l_leaders : List D → Rs := runF false 3 sm_l_leaders
theorem sc_l_leaders : FnScope ["_law_cell", "_law_number", "_law_xs", "_law_found", "_law_hand"] ["_law_cell", "_law_number"] (defScope (top 27)) := ⟨rfl, rfl, rfl, by decide +kernel, rfl, by decide +kernel, by decide +kernel⟩
theorem ok_l_leaders (Z : Fc K mg) : ∃ fd, FnOk P w K mg base (L2.CX P w) 2 (He.fAd K dd_l_leaders.at_) fd ["_law_cell", "_law_number"] (SpD ⟨K, ca K⟩ [.s, .s] false fn_l_leaders) ∧ PySem.W.keepIn K (.ref (He.fAd K dd_l_leaders.at_)) = true ∧ Binds K fd ["_law_cell", "_law_number"] [] := by
  obtain ⟨fd, F⟩ := Z.d_l_leaders
  obtain ⟨fd_l_stream, F_l_stream, kp_l_stream, B_l_stream⟩ := ok_l_stream (P := P) (w := w) (base := base) Z
  have g_l_stream := Z.g_l_stream
  have f_range := Z.f_range
  refine ⟨fd, ?_, F.kp, F.bindsN fun _ _ _ _ _ _ us hl => match us, hl with | [_, _], _ => rfl⟩
  refine fn_D (Γ' := []) (Γ0 := [.s, .s]) (n := 3) (N := ["_law_cell", "_law_number", "_law_xs", "_law_found", "_law_hand"]) F sc_l_leaders rfl rfl (fun cdv A outer s H E hr => ?_)
  have hN := sc_l_leaders.nd
  exact (pdss_cons (pds_set 2 (pd_call F_l_stream (hr.mono (by decide)) g_l_stream kp_l_stream B_l_stream .nil .nil (pda_cons (pd_var 0) (pda_cons pd_int pda_nil))) hN)
  (pdss_cons (pds_setLc (sh := true) 3 [("_law_hand", 4)] (pdi_range1 (pd_var 1) f_range) hN (blkB_ok (by kernel_rfl)) (fun _ _ _ _ _ => (pdg_name 4 hN)) (fun _ _ _ _ _ => (pdts_one (pdt_cmp og_lt (pd_bin bg_mod (pd_ix (pd_var 2) (pd_var 4)) pd_int) (pd_bin bg_add pd_int (pd_bin bg_mod (pd_ix (pd_var 2) pd_int) pd_int))))) (fun _ _ _ _ _ => (pd_var 4)) (by rfl))
  (pdss_ahead (Γ1 := [.s, .s, .s, .s, .n]) (pdss_cons (pds_if (Γ' := [.s, .s, .s, .s, .n]) (pdt_cmp (og_eq hr) (pd_var 3) (pd_new (pd_lst pda_nil))) (pdss_one (pds_set 3 (pd_new (pd_lst (pda_cons (pd_bin bg_mod (pd_ix (pd_var 2) pd_int) (pd_var 1)) pda_nil))) hN)) pdss_nil)
  (pdss_one (pds_ret (pd_var 3)))))))
def sb_l_limits_0 : SFn := (dPut 3 (d2 gIx (dVar 1) (dVar 4)) (d2 gIx (dLst (dConsA (d2 gMod (d2 gIx (dVar 2) (dVar 4)) (dC (.int 12))) (dConsA (d2 gMod (d2 gIx (dVar 2) (dVar 4)) (dC (.int 101))) (dConsA (d2 gMod (d2 gMul (d2 gIx (dVar 2) (dVar 4)) (dC (.int 48271))) (d2 gPow (dC (.int 10)) (dC (.int 9)))) dNilA)))) (d2 gMod (d2 gIx (dVar 2) (dC (.int 30))) (dC (.int 3)))))
def sm_l_limits : SFn := (dSeq (dAsg 2 (dFun fn_l_stream (dConsA (dVar 0) (dConsA (dC (.int 31)) dNilA)) []))
  (dSeq (dAsg 3 (dC (.dT [])))
  (dSeq (dFor (iRange1 (dCall gLen (dConsA (dVar 1) dNilA))) (uName 4) sb_l_limits_0)
  (dRet (dVar 3)))))
def fn_l_limits : List D → Rs := runF false 3 sm_l_limits
theorem sc_l_limits : FnScope ["_law_cell", "_law_passings", "_law_xs", "_law_limits_here", "_law_k"] ["_law_cell", "_law_passings"] (defScope (top 28)) := ⟨rfl, rfl, rfl, by decide +kernel, rfl, by decide +kernel, by decide +kernel⟩
theorem ok_l_limits (Z : Fc K mg) : ∃ fd, FnOk P w K mg base (L2.CX P w) 2 (He.fAd K dd_l_limits.at_) fd ["_law_cell", "_law_passings"] (SpD ⟨K, ca K⟩ [.s, .s] false fn_l_limits) ∧ PySem.W.keepIn K (.ref (He.fAd K dd_l_limits.at_)) = true ∧ Binds K fd ["_law_cell", "_law_passings"] [] := by
  obtain ⟨fd, F⟩ := Z.d_l_limits
  obtain ⟨fd_l_stream, F_l_stream, kp_l_stream, B_l_stream⟩ := ok_l_stream (P := P) (w := w) (base := base) Z
  have g_l_stream := Z.g_l_stream
  have f_range := Z.f_range
  have f_len := Z.f_len
  refine ⟨fd, ?_, F.kp, F.bindsN fun _ _ _ _ _ _ us hl => match us, hl with | [_, _], _ => rfl⟩
  refine fn_D (Γ' := []) (Γ0 := [.s, .s]) (n := 3) (N := ["_law_cell", "_law_passings", "_law_xs", "_law_limits_here", "_law_k"]) F sc_l_limits rfl rfl (fun cdv A outer s H E hr => ?_)
  have hN := sc_l_limits.nd
  exact (pdss_cons (pds_set 2 (pd_call F_l_stream (hr.mono (by decide)) g_l_stream kp_l_stream B_l_stream .nil .nil (pda_cons (pd_var 0) (pda_cons pd_int pda_nil))) hN)
  (pdss_cons (pds_setn 3 pd_dT hN)
  (pdss_cons (pds_for (sh := true) (Γ := [.s, .s, .s, .f, .n]) (passes_of rfl) (pdi_range1 (pd_callB cg_len (pda_cons (pd_var 1) pda_nil) f_len) f_range) (pdg_name 4 hN)
  (pdss_after (Γ1 := [.s, .s, .s, .f, .s]) (pdss_one (pds_put 3 hr.units1 (pd_ix (pd_var 1) (pd_var 4)) (pd_ix (pd_new (pd_lst (pda_cons (pd_bin bg_mod (pd_ix (pd_var 2) (pd_var 4)) pd_int) (pda_cons (pd_bin bg_mod (pd_ix (pd_var 2) (pd_var 4)) pd_int) (pda_cons (pd_bin bg_mod (pd_bin bg_mul (pd_ix (pd_var 2) (pd_var 4)) pd_int) (pd_bin bg_pow pd_int pd_int)) pda_nil))))) (pd_bin bg_mod (pd_ix (pd_var 2) pd_int) pd_int))))))
  (pdss_ahead (Γ1 := [.s, .s, .s, .s, .n]) (pdss_one (pds_ret (pd_var 3)))))))
def sm_are_leaders : SFn := (dSeq (dIfS (tOrF (DL.tB (d2 gEq (dCall gLen (dConsA (dVar 1) dNilA)) (dC (.int 0)))) (DL.tB (d2 gNe (d1 gSortSet (dVar 1)) (dCallN seqOf (dVar 1))))) (dRet (dC (.bl false))) dNext)
  (dRet (dAnd (d2 gGe (d2 gIx (dVar 1) (dC (.int 0))) (dC (.int 0))) (d2 gLt (d2 gIx (dVar 1) (d1 gNeg (dC (.int 1)))) (dFld .Web 0 (dVar 0))))))
def fn_are_leaders : List D → Rs := runF false 0 sm_are_leaders
theorem sc_are_leaders : FnScope ["web", "leaders"] ["web", "leaders"] (defScope (top 7)) := ⟨rfl, rfl, rfl, by decide +kernel, rfl, by decide +kernel, by decide +kernel⟩
theorem ok_are_leaders (Z : Fc K mg) : ∃ fd, FnOk P w K mg base (L2.CX P w) 1 (He.fAd K dd_are_leaders.at_) fd ["web", "leaders"] (SpD ⟨K, ca K⟩ [.s, .s] false fn_are_leaders) ∧ PySem.W.keepIn K (.ref (He.fAd K dd_are_leaders.at_)) = true ∧ Binds K fd ["web", "leaders"] [] := by
  obtain ⟨fd, F⟩ := Z.d_are_leaders
  have f_len := Z.f_len
  have f_sorted := Z.f_sorted
  have f_set := Z.f_set
  have f_list := Z.f_list
  have k_Web := Z.k_Web
  refine ⟨fd, ?_, F.kp, F.bindsN fun _ _ _ _ _ _ us hl => match us, hl with | [_, _], _ => rfl⟩
  refine fn_D (Γ' := []) (Γ0 := [.s, .s]) (n := 0) (N := ["web", "leaders"]) F sc_are_leaders rfl rfl (fun cdv A outer s H E hr => ?_)
  have hN := sc_are_leaders.nd
  exact (pdss_cons (pds_if (Γ' := [.s, .s]) (pdt_w (pdw_or (pdt_cmp (og_eq hr) (pd_callB cg_len (pda_cons (pd_var 1) pda_nil) f_len) pd_int) (pdw_or1 (pdt_cmp (og_ne hr) (pd_new (pd_sortSet (pd_var 1) f_sorted f_set)) (pd_new (pd_callTyN cn_list (pd_var 1) f_list)))))) (pdss_one (pds_ret pd_bl)) pdss_nil)
  (pdss_one (pds_ret (pd_and (pd_cmp og_ge (pd_ix (pd_var 1) pd_int) pd_int) (pd_one (pd_cmp og_lt (pd_ix (pd_var 1) (pd_neg pd_int)) (pd_fld .Web 0 k_Web (pd_var 0))))))))
def sb_Plan_init_0 : SFn := (dIfS (DL.tB (d2 gDNotIn (dVar 4) (dVar 3))) (fun _ => .bad) dNext)
def sm_Plan_init : SFn := (dSeq (dIfS (tNotF (DL.tB (dFun fn_are_leaders (dConsA (dVar 1) (dConsA (dVar 2) dNilA)) []))) (fun _ => .bad) dNext)
  (dSeq (dFor (iLst (dFld .Web 1 (dVar 1))) (uName 4) sb_Plan_init_0)
  (dSeq (dFst 0 .Plan 0 (dVar 1))
  (dSeq (dFst 0 .Plan 1 (dCallN seqOf (dVar 2)))
  (dFst 0 .Plan 2 (d1 gDictP (dLc (iLst (dFld .Web 1 (dVar 1))) (uName 4) tTrue (dTup (dConsA (dVar 4) (dConsA (d2 gDIx (dVar 3) (dVar 4)) dNilA))))))))))
def fn_Plan_init : List D → Rs := runI .Plan 1 sm_Plan_init
theorem sc_Plan_init : FnScope ["self", "web", "leaders", "limits", "passing"] ["self", "web", "leaders", "limits"] (defScope (inClass (top 8) 0)) := ⟨rfl, rfl, rfl, by decide +kernel, rfl, by decide +kernel, by decide +kernel⟩
theorem ok_Plan_init (Z : Fc K mg) : ∃ fd, FnOk P w K mg base (L2.CX P w) 2 (He.fAd K dd_Plan_init.at_) fd ["self", "web", "leaders", "limits"] (SpI ⟨K, ca K⟩ .Plan [.s, .s, .s] fn_Plan_init) ∧ PySem.W.keepIn K (.ref (He.fAd K dd_Plan_init.at_)) = true ∧ Binds K fd ["self", "web", "leaders", "limits"] [] := by
  obtain ⟨fd, F⟩ := Z.d_Plan_init
  obtain ⟨fd_are_leaders, F_are_leaders, kp_are_leaders, B_are_leaders⟩ := ok_are_leaders (P := P) (w := w) (base := base) Z
  have g_are_leaders := Z.g_are_leaders
  have k_Web := Z.k_Web
  have k_Plan := Z.k_Plan
  have f_list := Z.f_list
  have f_dict := Z.f_dict
  refine ⟨fd, ?_, F.kp, F.bindsN fun _ _ _ _ _ _ us hl => match us, hl with | [_, _, _, _], _ => rfl⟩
  refine fn_I (Γ' := [.x, .s, .s, .s, .n]) (Γ0 := [.s, .s, .s]) (n := 1) (N := ["self", "web", "leaders", "limits", "passing"]) F sc_Plan_init rfl rfl rfl (fun cdv A outer s H E hr => ?_)
  have hN := sc_Plan_init.nd
  exact (pdss_cons (pds_if (Γ' := [.x, .s, .s, .s, .n]) (pdt_not (pdt_val (pd_call F_are_leaders (hr.mono (by decide)) g_are_leaders kp_are_leaders B_are_leaders .nil .nil (pda_cons (pd_var 1) (pda_cons (pd_var 2) pda_nil))))) pdss_never pdss_nil)
  (pdss_cons (pds_for (sh := true) (Γ := [.x, .s, .s, .s, .n]) (passes_of rfl) (pdi_list (pd_fld .Web 1 k_Web (pd_var 1))) (pdg_name 4 hN)
  (pdss_after (Γ1 := [.x, .s, .s, .s, .s]) (pdss_one (pds_if (Γ' := [.x, .s, .s, .s, .s]) (pdt_dnotin hr.units1 (pd_var 4) (pd_var 3)) pdss_never pdss_nil))))
  (pdss_cons (pds_fst 0 .Plan 0 k_Plan (pd_var 1))
  (pdss_cons (pds_fst 0 .Plan 1 k_Plan (pd_new (pd_callTyN cn_list (pd_var 2) f_list)))
  (pdss_one (pds_fst 0 .Plan 2 k_Plan (pd_new (pd_dictP hr (pd_new (pd_lc (sh := true) [("passing", 4)] (pdi_list (pd_fld .Web 1 k_Web (pd_var 1))) hN (blkB_ok (by kernel_rfl)) (fun _ _ _ _ _ => (pdg_name 4 hN)) (fun _ _ _ _ _ => pdts_nil) (fun _ _ _ _ _ => (pd_tup (pda_cons (pd_var 4) (pda_cons (pd_dix hr.units1 (pd_var 3) (pd_var 4)) pda_nil)))))) f_dict))))))))
def sm_is_passing : SFn := (dSeq (dUnpk (dVar 1) (uTup (uCons (uName 2) (uCons (uName 3) uNil))))
  (dRet (dAnd (dChain gLe gLt (dC (.int 0)) (dVar 2) (dVar 0)) (dAnd (dChain gLe gLt (dC (.int 0)) (dVar 3) (dVar 0)) (d2 gNe (dVar 2) (dVar 3))))))
def fn_is_passing : List D → Rs := runF false 2 sm_is_passing
theorem sc_is_passing : FnScope ["number", "passing", "giver", "taker"] ["number", "passing"] (defScope (top 12)) := ⟨rfl, rfl, rfl, by decide +kernel, rfl, by decide +kernel, by decide +kernel⟩
theorem ok_is_passing (Z : Fc K mg) : ∃ fd, FnOk P w K mg base (L2.CX P w) 1 (He.fAd K dd_is_passing.at_) fd ["number", "passing"] (SpD ⟨K, ca K⟩ [.s, .s] false fn_is_passing) ∧ PySem.W.keepIn K (.ref (He.fAd K dd_is_passing.at_)) = true ∧ Binds K fd ["number", "passing"] [] := by
  obtain ⟨fd, F⟩ := Z.d_is_passing
  refine ⟨fd, ?_, F.kp, F.bindsN fun _ _ _ _ _ _ us hl => match us, hl with | [_, _], _ => rfl⟩
  refine fn_D (Γ' := []) (Γ0 := [.s, .s]) (n := 2) (N := ["number", "passing", "giver", "taker"]) F sc_is_passing rfl rfl (fun cdv A outer s H E hr => ?_)
  have hN := sc_is_passing.nd
  exact (pdss_cons (pds_unpk (sh := true) (pd_var 1) (pdg_tup (pdgs_cons (pdg_name 2 hN) (pdgs_cons (pdg_name 3 hN) pdgs_nil))))
  (pdss_one (pds_ret (pd_and (pd_chain og_le og_lt pd_int (pd_var 2) (pd_var 0)) (pd_and (pd_chain og_le og_lt pd_int (pd_var 3) (pd_var 0)) (pd_one (pd_cmp (og_ne hr) (pd_var 2) (pd_var 3))))))))
def sb_Web_init_0 : SFn := (dIfS (tOrF (tNotF (DL.tB (dFun fn_is_passing (dConsA (dVar 1) (dConsA (dVar 4) dNilA)) []))) (DL.tB (d2 gIn (dVar 4) (dCut (dVar 2) oNone (oSome (dVar 3)))))) (fun _ => .bad) dNext)
def sm_Web_init : SFn := (dSeq (dIfS (tNotF (DL.tB (dChain gLe gLe (dC (.int 2)) (dVar 1) (dC (.int 6))))) (fun _ => .bad) dNext)
  (dSeq (dFor (DL.iEnum (dVar 2)) (uTup (uCons (uName 3) (uCons (uName 4) uNil))) sb_Web_init_0)
  (dSeq (dFst 0 .Web 0 (dVar 1))
  (dFst 0 .Web 1 (dCallN gSort (dVar 2))))))
def fn_Web_init : List D → Rs := runI .Web 2 sm_Web_init
theorem sc_Web_init : FnScope ["self", "number", "passings", "at", "passing"] ["self", "number", "passings"] (defScope (inClass (top 13) 0)) := ⟨rfl, rfl, rfl, by decide +kernel, rfl, by decide +kernel, by decide +kernel⟩
theorem ok_Web_init (Z : Fc K mg) : ∃ fd, FnOk P w K mg base (L2.CX P w) 2 (He.fAd K dd_Web_init.at_) fd ["self", "number", "passings"] (SpI ⟨K, ca K⟩ .Web [.s, .s] fn_Web_init) ∧ PySem.W.keepIn K (.ref (He.fAd K dd_Web_init.at_)) = true ∧ Binds K fd ["self", "number", "passings"] [] := by
  obtain ⟨fd, F⟩ := Z.d_Web_init
  obtain ⟨fd_is_passing, F_is_passing, kp_is_passing, B_is_passing⟩ := ok_is_passing (P := P) (w := w) (base := base) Z
  obtain ⟨t_LEAST_HANDS, c_LEAST_HANDS⟩ := Z.c_LEAST_HANDS
  obtain ⟨t_MOST_HANDS, c_MOST_HANDS⟩ := Z.c_MOST_HANDS
  have f_enumerate := Z.f_enumerate
  have g_is_passing := Z.g_is_passing
  have k_Web := Z.k_Web
  have f_sorted := Z.f_sorted
  refine ⟨fd, ?_, F.kp, F.bindsN fun _ _ _ _ _ _ us hl => match us, hl with | [_, _, _], _ => rfl⟩
  refine fn_I (Γ' := [.x, .s, .s, .n, .n]) (Γ0 := [.s, .s]) (n := 2) (N := ["self", "number", "passings", "at", "passing"]) F sc_Web_init rfl rfl rfl (fun cdv A outer s H E hr => ?_)
  have hN := sc_Web_init.nd
  exact (pdss_cons (pds_if (Γ' := [.x, .s, .s, .n, .n]) (pdt_not (pdt_chain og_le og_le (pd_glob (v := .int 2) (d := .int 2) c_LEAST_HANDS ⟨_, rfl⟩ (fun _ _ => .int 2)) (pd_var 1) (pd_glob (v := .int 6) (d := .int 6) c_MOST_HANDS ⟨_, rfl⟩ (fun _ _ => .int 6)))) pdss_never pdss_nil)
  (pdss_cons (pds_forN (Γ := [.x, .s, .s, .n, .n]) (passes_of rfl) (pdin_enum (pd_var 2) f_enumerate) (pdg_tup (pdgs_cons (pdg_name 3 hN) (pdgs_cons (pdg_name 4 hN) pdgs_nil)))
  (pdss_after (Γ1 := [.x, .s, .s, .s, .s]) (pdss_one (pds_if (Γ' := [.x, .s, .s, .s, .s]) (pdt_w (pdw_or (pdt_not (pdt_val (pd_call F_is_passing (hr.mono (by decide)) g_is_passing kp_is_passing B_is_passing .nil .nil (pda_cons (pd_var 1) (pda_cons (pd_var 4) pda_nil))))) (pdw_or1 (pdt_cmp (og_in hr) (pd_var 4) (pd_new (pd_cut (pd_var 2) pdo_none (pdo_some (pd_var 3)))))))) pdss_never pdss_nil))))
  (pdss_cons (pds_fst 0 .Web 0 k_Web (pd_var 1))
  (pdss_one (pds_fst 0 .Web 1 k_Web (pd_new (pd_callBN (cn_sorted hr) (pd_var 2) f_sorted)))))))
def sm_joined : SFn := (dRet (d2 gJoin (dC (.str " ")) (dLc (iLst (dVar 0)) (uName 1) tTrue (dCall gStr (dConsA (dVar 1) dNilA)))))
def fn_joined : List D → Rs := runF false 1 sm_joined
theorem sc_joined : FnScope ["parts", "part"] ["parts"] (defScope (top 17)) := ⟨rfl, rfl, rfl, by decide +kernel, rfl, by decide +kernel, by decide +kernel⟩
theorem ok_joined (Z : Fc K mg) : ∃ fd, FnOk P w K mg base (L2.CX P w) 1 (He.fAd K dd_joined.at_) fd ["parts"] (SpD ⟨K, ca K⟩ [.s] false fn_joined) ∧ PySem.W.keepIn K (.ref (He.fAd K dd_joined.at_)) = true ∧ Binds K fd ["parts"] [] := by
  obtain ⟨fd, F⟩ := Z.d_joined
  have f_str := Z.f_str
  refine ⟨fd, ?_, F.kp, F.bindsN fun _ _ _ _ _ _ us hl => match us, hl with | [_], _ => rfl⟩
  refine fn_D (Γ' := []) (Γ0 := [.s]) (n := 1) (N := ["parts", "part"]) F sc_joined rfl rfl (fun cdv A outer s H E hr => ?_)
  have hN := sc_joined.nd
  exact (pdss_one (pds_ret (pd_join pd_str (pd_new (pd_lc (sh := true) [("part", 1)] (pdi_list (pd_var 0)) hN (blkB_ok (by kernel_rfl)) (fun _ _ _ _ _ => (pdg_name 1 hN)) (fun _ _ _ _ _ => pdts_nil) (fun _ _ _ _ _ => (pd_callTy cg_str (pda_cons (pd_var 1) pda_nil) f_str)))))))
def sm_Plan_limit : SFn := (dRet (d2 gDIx (dFld .Plan 2 (dVar 0)) (dVar 1)))
def fn_Plan_limit : List D → Rs := runF false 0 sm_Plan_limit
theorem sc_Plan_limit : FnScope ["self", "passing"] ["self", "passing"] (defScope (inClass (top 8) 1)) := ⟨rfl, rfl, rfl, by decide +kernel, rfl, by decide +kernel, by decide +kernel⟩
theorem ok_Plan_limit (Z : Fc K mg) : ∃ fd, FnOk P w K mg base (L2.CX P w) 1 (He.fAd K dd_Plan_limit.at_) fd ["self", "passing"] (SpD ⟨K, ca K⟩ [.s, .s] false fn_Plan_limit) ∧ PySem.W.keepIn K (.ref (He.fAd K dd_Plan_limit.at_)) = true ∧ Binds K fd ["self", "passing"] [] := by
  obtain ⟨fd, F⟩ := Z.d_Plan_limit
  have k_Plan := Z.k_Plan
  refine ⟨fd, ?_, F.kp, F.bindsN fun _ _ _ _ _ _ us hl => match us, hl with | [_, _], _ => rfl⟩
  refine fn_D (Γ' := []) (Γ0 := [.s, .s]) (n := 0) (N := ["self", "passing"]) F sc_Plan_limit rfl rfl (fun cdv A outer s H E hr => ?_)
  have hN := sc_Plan_limit.nd
  exact (pdss_one (pds_ret (pd_dix hr.units1 (pd_fld .Plan 2 k_Plan (pd_var 0)) (pd_var 1))))
def sb_written_plan_0 : SFn := (dApp 1 (dFun fn_joined (dConsA (dLst (dConsA (dC (.str "pass")) (dConsA (d2 gIx (dVar 2) (dC (.int 0))) (dConsA (d2 gIx (dVar 2) (dC (.int 1))) (dConsA (dMeth .Plan fn_Plan_limit (dVar 0) (dConsA (dVar 2) dNilA) []) dNilA))))) dNilA) []))
def sm_written_plan : SFn := (dSeq (dAsg 1 (dLst (dConsA (dFun fn_joined (dConsA (dLst (dConsA (dC (.str "hands")) (dConsA (dFld .Web 0 (dFld .Plan 0 (dVar 0))) dNilA))) dNilA) []) (dConsA (dFun fn_joined (dConsA (d2 gCat (dLst (dConsA (dC (.str "leaders")) dNilA)) (dFld .Plan 1 (dVar 0))) dNilA) []) dNilA))))
  (dSeq (dFor (iLst (dFld .Web 1 (dFld .Plan 0 (dVar 0)))) (uName 2) sb_written_plan_0)
  (dRet (d2 gJoin (dC (.str "\n")) (dVar 1)))))
def fn_written_plan : List D → Rs := runF false 2 sm_written_plan
theorem sc_written_plan : FnScope ["plan", "rows", "passing"] ["plan"] (defScope (top 18)) := ⟨rfl, rfl, rfl, by decide +kernel, rfl, by decide +kernel, by decide +kernel⟩
theorem ok_written_plan (Z : Fc K mg) : ∃ fd, FnOk P w K mg base (L2.CX P w) 2 (He.fAd K dd_written_plan.at_) fd ["plan"] (SpD ⟨K, ca K⟩ [.s] false fn_written_plan) ∧ PySem.W.keepIn K (.ref (He.fAd K dd_written_plan.at_)) = true ∧ Binds K fd ["plan"] [] := by
  obtain ⟨fd, F⟩ := Z.d_written_plan
  obtain ⟨fd_joined, F_joined, kp_joined, B_joined⟩ := ok_joined (P := P) (w := w) (base := base) Z
  obtain ⟨fd_Plan_limit, F_Plan_limit, kp_Plan_limit, B_Plan_limit⟩ := ok_Plan_limit (P := P) (w := w) (base := base) Z
  have g_joined := Z.g_joined
  have k_Plan := Z.k_Plan
  have k_Web := Z.k_Web
  have m_Plan_limit := Z.m_Plan_limit
  refine ⟨fd, ?_, F.kp, F.bindsN fun _ _ _ _ _ _ us hl => match us, hl with | [_], _ => rfl⟩
  refine fn_D (Γ' := []) (Γ0 := [.s]) (n := 2) (N := ["plan", "rows", "passing"]) F sc_written_plan rfl rfl (fun cdv A outer s H E hr => ?_)
  have hN := sc_written_plan.nd
  exact (pdss_cons (pds_setn 1 (pd_lst (pda_cons (pd_call F_joined (hr.mono (by decide)) g_joined kp_joined B_joined .nil .nil (pda_cons (pd_new (pd_lst (pda_cons pd_str (pda_cons (pd_fld .Web 0 k_Web (pd_fld .Plan 0 k_Plan (pd_var 0))) pda_nil)))) pda_nil)) (pda_cons (pd_call F_joined (hr.mono (by decide)) g_joined kp_joined B_joined .nil .nil (pda_cons (pd_new (pd_cat (pd_new (pd_lst (pda_cons pd_str pda_nil))) (pd_fld .Plan 1 k_Plan (pd_var 0)))) pda_nil)) pda_nil))) hN)
  (pdss_cons (pds_for (sh := true) (Γ := [.s, .f, .n]) (passes_of rfl) (pdi_list (pd_fld .Web 1 k_Web (pd_fld .Plan 0 k_Plan (pd_var 0)))) (pdg_name 2 hN)
  (pdss_after (Γ1 := [.s, .f, .s]) (pdss_one (pds_app 1 (pd_call F_joined (hr.mono (by decide)) g_joined kp_joined B_joined .nil .nil (pda_cons (pd_new (pd_lst (pda_cons pd_str (pda_cons (pd_ix (pd_var 2) pd_int) (pda_cons (pd_ix (pd_var 2) pd_int) (pda_cons (pd_meth .Plan F_Plan_limit k_Plan m_Plan_limit (hr.mono (by decide)) B_Plan_limit .nil .nil (pd_var 0) (pda_cons (pd_var 2) pda_nil)) pda_nil)))))) pda_nil))))))
  (pdss_ahead (Γ1 := [.s, .s, .n]) (pdss_one (pds_ret (pd_join pd_str (pd_var 1)))))))
def sb_l_text_0 : SFn := (dApp 4 (d2 gAddS (d2 gAddS (d2 gAddS (d2 gAddS (d2 gAddS (dC (.str "pass ")) (dCall gStr (dConsA (dVar 5) dNilA))) (dC (.str " "))) (dCall gStr (dConsA (dVar 6) dNilA))) (dC (.str " "))) (dCall gStr (dConsA (d2 gDIx (dVar 3) (dTup (dConsA (dVar 5) (dConsA (dVar 6) dNilA)))) dNilA))))
def sm_l_text : SFn := (dSeq (dAsg 4 (dLst (dConsA (d2 gAddS (dC (.str "hands ")) (dCall gStr (dConsA (dVar 0) dNilA))) (dConsA (d2 gJoin (dC (.str " ")) (d2 gCat (dLst (dConsA (dC (.str "leaders")) dNilA)) (dLc (iLst (dVar 2)) (uName 7) tTrue (dCall gStr (dConsA (dVar 7) dNilA))))) dNilA))))
  (dSeq (dFor (iLst (dCallN gSort (dVar 1))) (uTup (uCons (uName 5) (uCons (uName 6) uNil))) sb_l_text_0)
  (dRet (d2 gJoin (dC (.str "\n")) (dVar 4)))))
def fn_l_text : List D → Rs := runF false 4 sm_l_text
theorem sc_l_text : FnScope ["_law_number", "_law_passings", "_law_leaders_here", "_law_limits_here", "_law_rows", "_law_giver", "_law_taker", "_law_hand"] ["_law_number", "_law_passings", "_law_leaders_here", "_law_limits_here"] (defScope (top 29)) := ⟨rfl, rfl, rfl, by decide +kernel, rfl, by decide +kernel, by decide +kernel⟩
theorem ok_l_text (Z : Fc K mg) : ∃ fd, FnOk P w K mg base (L2.CX P w) 1 (He.fAd K dd_l_text.at_) fd ["_law_number", "_law_passings", "_law_leaders_here", "_law_limits_here"] (SpD ⟨K, ca K⟩ [.s, .s, .s, .s] false fn_l_text) ∧ PySem.W.keepIn K (.ref (He.fAd K dd_l_text.at_)) = true ∧ Binds K fd ["_law_number", "_law_passings", "_law_leaders_here", "_law_limits_here"] [] := by
  obtain ⟨fd, F⟩ := Z.d_l_text
  have f_str := Z.f_str
  have f_sorted := Z.f_sorted
  refine ⟨fd, ?_, F.kp, F.bindsN fun _ _ _ _ _ _ us hl => match us, hl with | [_, _, _, _], _ => rfl⟩
  refine fn_D (Γ' := []) (Γ0 := [.s, .s, .s, .s]) (n := 4) (N := ["_law_number", "_law_passings", "_law_leaders_here", "_law_limits_here", "_law_rows", "_law_giver", "_law_taker", "_law_hand"]) F sc_l_text rfl rfl (fun cdv A outer s H E hr => ?_)
  have hN := sc_l_text.nd
  exact (pdss_cons (pds_setn 4 (pd_lst (pda_cons (pd_bin bg_addS pd_str (pd_callTy cg_str (pda_cons (pd_var 0) pda_nil) f_str)) (pda_cons (pd_join pd_str (pd_new (pd_cat (pd_new (pd_lst (pda_cons pd_str pda_nil))) (pd_new (pd_lc (sh := true) [("_law_hand", 7)] (pdi_list (pd_var 2)) hN (blkB_ok (by kernel_rfl)) (fun _ _ _ _ _ => (pdg_name 7 hN)) (fun _ _ _ _ _ => pdts_nil) (fun _ _ _ _ _ => (pd_callTy cg_str (pda_cons (pd_var 7) pda_nil) f_str))))))) pda_nil))) hN)
  (pdss_cons (pds_for (sh := true) (Γ := [.s, .s, .s, .s, .f, .n, .n, .n]) (passes_of rfl) (pdi_list (pd_new (pd_callBN (cn_sorted hr) (pd_var 1) f_sorted))) (pdg_tup (pdgs_cons (pdg_name 5 hN) (pdgs_cons (pdg_name 6 hN) pdgs_nil)))
  (pdss_after (Γ1 := [.s, .s, .s, .s, .f, .s, .s, .n]) (pdss_one (pds_app 4 (pd_bin bg_addS (pd_bin bg_addS (pd_bin bg_addS (pd_bin bg_addS (pd_bin bg_addS pd_str (pd_callTy cg_str (pda_cons (pd_var 5) pda_nil) f_str)) pd_str) (pd_callTy cg_str (pda_cons (pd_var 6) pda_nil) f_str)) pd_str) (pd_callTy cg_str (pda_cons (pd_dix hr.units1 (pd_var 3) (pd_tup (pda_cons (pd_var 5) (pda_cons (pd_var 6) pda_nil)))) pda_nil) f_str))))))
  (pdss_ahead (Γ1 := [.s, .s, .s, .s, .s, .n, .n, .n]) (pdss_one (pds_ret (pd_join pd_str (pd_var 4)))))))
theorem sc_SwapError_init : FnScope ["self", "at"] ["self", "at"] (defScope (inClass (top 2) 0)) := ⟨rfl, rfl, rfl, by decide +kernel, rfl, by decide +kernel, by decide +kernel⟩
theorem ok_SwapError_init (Z : Fc K mg) : ∃ fd, FnOk P w K mg base (L2.CX P w) 1 (He.fAd K dd_SwapError_init.at_) fd ["self", "at"] (spX K) ∧ Binds K fd ["self", "at"] [] := by
  obtain ⟨fd, F⟩ := Z.d_SwapError_init
  exact ⟨fd, fn_X F sc_SwapError_init 0 (Or.inl rfl) (Or.inl rfl), F.bindsN fun _ _ _ _ _ _ us hl => match us, hl with | [_, _], _ => rfl⟩
def sb_number_of_0 : SFn := (dIfS (DL.tB (d2 gNotInS (dVar 1) (dC (.str "0123456789")))) (dRet (dC .non)) dNext)
def sm_number_of : SFn := (dSeq (dIfS (tOrF (DL.tB (d2 gEq (dVar 0) (dC (.str "")))) (tOrF (DL.tB (d2 gGt (dCall gLenS (dConsA (dVar 0) dNilA)) (dC (.int 9)))) (tAndF (DL.tB (d2 gEq (d2 gIxS (dVar 0) (dC (.int 0))) (dC (.str "0")))) (DL.tB (d2 gNe (dVar 0) (dC (.str "0"))))))) (dRet (dC .non)) dNext)
  (dSeq (dFor (iStrD (dVar 0)) (uName 1) sb_number_of_0)
  (dRet (dCall gIntS (dConsA (dVar 0) dNilA)))))
def fn_number_of : List D → Rs := runF false 1 sm_number_of
theorem sc_number_of : FnScope ["word", "sign"] ["word"] (defScope (top 19)) := ⟨rfl, rfl, rfl, by decide +kernel, rfl, by decide +kernel, by decide +kernel⟩
theorem ok_number_of (Z : Fc K mg) : ∃ fd, FnOk P w K mg base (L2.CX P w) 1 (He.fAd K dd_number_of.at_) fd ["word"] (SpD ⟨K, ca K⟩ [.s] false fn_number_of) ∧ PySem.W.keepIn K (.ref (He.fAd K dd_number_of.at_)) = true ∧ Binds K fd ["word"] [] := by
  obtain ⟨fd, F⟩ := Z.d_number_of
  have f_len := Z.f_len
  obtain ⟨t_MOST_FIGURES, c_MOST_FIGURES⟩ := Z.c_MOST_FIGURES
  obtain ⟨t_FIGURES, c_FIGURES⟩ := Z.c_FIGURES
  have f_int := Z.f_int
  refine ⟨fd, ?_, F.kp, F.bindsN fun _ _ _ _ _ _ us hl => match us, hl with | [_], _ => rfl⟩
  refine fn_D (Γ' := []) (Γ0 := [.s]) (n := 1) (N := ["word", "sign"]) F sc_number_of rfl rfl (fun cdv A outer s H E hr => ?_)
  have hN := sc_number_of.nd
  exact (pdss_cons (pds_if (Γ' := [.s, .n]) (pdt_w (pdw_or (pdt_cmp (og_eq hr) (pd_var 0) pd_str) (pdw_or (pdt_cmp og_gt (pd_callB cg_len_str (pda_cons (pd_var 0) pda_nil) f_len) (pd_glob (v := .int 9) (d := .int 9) c_MOST_FIGURES ⟨_, rfl⟩ (fun _ _ => .int 9))) (pdw_or1 (pdt_w (pdw_and (pdt_cmp (og_eq hr) (pd_ixS (pd_var 0) pd_int) pd_str) (pdw_and1 (pdt_cmp (og_ne hr) (pd_var 0) pd_str)))))))) (pdss_one (pds_ret pd_non)) pdss_nil)
  (pdss_cons (pds_for (sh := true) (Γ := [.s, .n]) (passes_of rfl) (pdi_str (sh := true) (pd_var 0)) (pdg_name 1 hN)
  (pdss_after (Γ1 := [.s, .s]) (pdss_one (pds_if (Γ' := [.s, .s]) (pdt_cmp og_notInS (pd_var 1) (pd_glob (v := .str "0123456789") (d := .str "0123456789") c_FIGURES ⟨_, rfl⟩ (Im.str _))) (pdss_one (pds_ret pd_non)) pdss_nil))))
  (pdss_one (pds_ret (pd_callTy cg_int (pda_cons (pd_var 0) pda_nil) f_int)))))
def sm_numbers_of : SFn := (dSeq (dAsg 1 (dLc (iLst (dVar 0)) (uName 2) tTrue (dFun fn_number_of (dConsA (dVar 2) dNilA) [])))
  (dSeq (dIfS (DL.tB (d2 gIn (dC .non) (dVar 1))) (dRet (dC .non)) dNext)
  (dRet (dVar 1))))
def fn_numbers_of : List D → Rs := runF false 2 sm_numbers_of
theorem sc_numbers_of : FnScope ["words", "numbers", "word"] ["words"] (defScope (top 20)) := ⟨rfl, rfl, rfl, by decide +kernel, rfl, by decide +kernel, by decide +kernel⟩
theorem ok_numbers_of (Z : Fc K mg) : ∃ fd, FnOk P w K mg base (L2.CX P w) 2 (He.fAd K dd_numbers_of.at_) fd ["words"] (SpD ⟨K, ca K⟩ [.s] false fn_numbers_of) ∧ PySem.W.keepIn K (.ref (He.fAd K dd_numbers_of.at_)) = true ∧ Binds K fd ["words"] [] := by
  obtain ⟨fd, F⟩ := Z.d_numbers_of
  obtain ⟨fd_number_of, F_number_of, kp_number_of, B_number_of⟩ := ok_number_of (P := P) (w := w) (base := base) Z
  have g_number_of := Z.g_number_of
  refine ⟨fd, ?_, F.kp, F.bindsN fun _ _ _ _ _ _ us hl => match us, hl with | [_], _ => rfl⟩
  refine fn_D (Γ' := []) (Γ0 := [.s]) (n := 2) (N := ["words", "numbers", "word"]) F sc_numbers_of rfl rfl (fun cdv A outer s H E hr => ?_)
  have hN := sc_numbers_of.nd
  exact (pdss_cons (pds_setLc (sh := true) 1 [("word", 2)] (pdi_list (pd_var 0)) hN (blkB_ok (by kernel_rfl)) (fun _ _ _ _ _ => (pdg_name 2 hN)) (fun _ _ _ _ _ => pdts_nil) (fun _ _ _ _ _ => (pd_call F_number_of (hr.mono (by decide)) g_number_of kp_number_of B_number_of .nil .nil (pda_cons (pd_var 2) pda_nil))) (by rfl))
  (pdss_ahead (Γ1 := [.s, .s, .n]) (pdss_cons (pds_if (Γ' := [.s, .s, .n]) (pdt_cmp (og_in hr) pd_non (pd_var 1)) (pdss_one (pds_ret pd_non)) pdss_nil)
  (pdss_one (pds_ret (pd_var 1))))))
def sm_told_numbers : SFn := (dSeq (dIfS (DL.tB (d2 gGe (dVar 1) (dCall gLen (dConsA (dVar 0) dNilA)))) (dRaise .NoText (d2 gAdd (dVar 1) (dC (.int 1)))) dNext)
  (dSeq (dAsg 3 (d2 gSplit (d2 gIx (dVar 0) (dVar 1)) (dC (.str " "))))
  (dSeq (dAsg 4 (dFun fn_numbers_of (dConsA (dCut (dVar 3) (oSome (dC (.int 1))) oNone) dNilA) []))
  (dSeq (dIfS (tOrF (DL.tB (d2 gNe (d2 gIx (dVar 3) (dC (.int 0))) (dVar 2))) (DL.tB (d2 gIsN (dVar 4) (dC .non)))) (dRaise .NoText (d2 gAdd (dVar 1) (dC (.int 1)))) dNext)
  (dRet (dVar 4))))))
def fn_told_numbers : List D → Rs := runF false 2 sm_told_numbers
theorem sc_told_numbers : FnScope ["rows", "k", "word", "words", "numbers"] ["rows", "k", "word"] (defScope (top 21)) := ⟨rfl, rfl, rfl, by decide +kernel, rfl, by decide +kernel, by decide +kernel⟩
theorem ok_told_numbers (Z : Fc K mg) : ∃ fd, FnOk P w K mg base (L2.CX P w) 3 (He.fAd K dd_told_numbers.at_) fd ["rows", "k", "word"] (SpD ⟨K, ca K⟩ [.s, .s, .s] false fn_told_numbers) ∧ PySem.W.keepIn K (.ref (He.fAd K dd_told_numbers.at_)) = true ∧ Binds K fd ["rows", "k", "word"] [] := by
  obtain ⟨fd, F⟩ := Z.d_told_numbers
  obtain ⟨fd_SwapError_init, F_SwapError_init, B_SwapError_init⟩ := ok_SwapError_init (P := P) (w := w) (base := base) Z
  have xO := Z.x_ok
  have xT := Z.x_t
  obtain ⟨fd_numbers_of, F_numbers_of, kp_numbers_of, B_numbers_of⟩ := ok_numbers_of (P := P) (w := w) (base := base) Z
  have f_len := Z.f_len
  have g_NoText := Z.g_NoText
  have g_numbers_of := Z.g_numbers_of
  refine ⟨fd, ?_, F.kp, F.bindsN fun _ _ _ _ _ _ us hl => match us, hl with | [_, _, _], _ => rfl⟩
  refine fn_D (Γ' := []) (Γ0 := [.s, .s, .s]) (n := 2) (N := ["rows", "k", "word", "words", "numbers"]) F sc_told_numbers rfl rfl (fun cdv A outer s H E hr => ?_)
  have hN := sc_told_numbers.nd
  exact (pdss_cons (pds_if (Γ' := [.s, .s, .s, .n, .n]) (pdt_cmp og_ge (pd_var 1) (pd_callB cg_len (pda_cons (pd_var 0) pda_nil) f_len)) (pdss_one (pds_raise .NoText (takes_of rfl rfl rfl rfl) (xO.rai .NoText (by decide)) xT F_SwapError_init (hr.mono (by decide)) B_SwapError_init g_NoText (pd_bin bg_add (pd_var 1) pd_int))) pdss_nil)
  (pdss_cons (pds_set 3 (pd_new (pd_split (pd_ix (pd_var 0) (pd_var 1)) pd_str)) hN)
  (pdss_cons (pds_set 4 (pd_call F_numbers_of (hr.mono (by decide)) g_numbers_of kp_numbers_of B_numbers_of .nil .nil (pda_cons (pd_new (pd_cut (pd_var 3) (pdo_some pd_int) pdo_none)) pda_nil)) hN)
  (pdss_cons (pds_if (Γ' := [.s, .s, .s, .s, .s]) (pdt_w (pdw_or (pdt_cmp (og_ne hr) (pd_ix (pd_var 3) pd_int) (pd_var 2)) (pdw_or1 (pdt_cmp og_isN (pd_var 4) pd_non)))) (pdss_one (pds_raise .NoText (takes_of rfl rfl rfl rfl) (xO.rai .NoText (by decide)) xT F_SwapError_init (hr.mono (by decide)) B_SwapError_init g_NoText (pd_bin bg_add (pd_var 1) pd_int))) pdss_nil)
  (pdss_one (pds_ret (pd_var 4)))))))
def sb_read_plan_0 : SFn := (dSeq (dAsgX 7 (dFunX fn_told_numbers (dConsA (dVar 1) (dConsA (dVar 6) (dConsA (dC (.str "pass")) dNilA))) []))
  (dSeq (dAsg 8 (d1 gTupOf (dCut (dVar 7) oNone (oSome (dC (.int 2))))))
  (dSeq (dIfS (tOrF (DL.tB (d2 gNe (dCall gLen (dConsA (dVar 7) dNilA)) (dC (.int 3)))) (tOrF (tNotF (DL.tB (dFun fn_is_passing (dConsA (d2 gIx (dVar 2) (dC (.int 0))) (dConsA (dVar 8) dNilA)) []))) (DL.tB (d2 gLeT (dVar 8) (dVar 5))))) (dRaise .NoText (d2 gAdd (dVar 6) (dC (.int 1)))) dNext)
  (dSeq (dPut 4 (dVar 8) (d2 gIx (dVar 7) (dC (.int 2))))
  (dAsg 5 (dVar 8))))))
def sm_read_plan : SFn := (dSeq (dAsg 1 (d2 gSplit (dVar 0) (dC (.str "\n"))))
  (dSeq (dAsgX 2 (dFunX fn_told_numbers (dConsA (dVar 1) (dConsA (dC (.int 0)) (dConsA (dC (.str "hands")) dNilA))) []))
  (dSeq (dIfS (tOrF (DL.tB (d2 gNe (dCall gLen (dConsA (dVar 2) dNilA)) (dC (.int 1)))) (tNotF (DL.tB (dChain gLe gLe (dC (.int 2)) (d2 gIx (dVar 2) (dC (.int 0))) (dC (.int 6)))))) (dRaise .NoText (dC (.int 1))) dNext)
  (dSeq (dAsgX 3 (dFunX fn_told_numbers (dConsA (dVar 1) (dConsA (dC (.int 1)) (dConsA (dC (.str "leaders")) dNilA))) []))
  (dSeq (dIfS (tOrF (DL.tB (d2 gEq (dVar 3) (dLst dNilA))) (tOrF (DL.tB (d2 gGe (d2 gIx (dVar 3) (d1 gNeg (dC (.int 1)))) (d2 gIx (dVar 2) (dC (.int 0))))) (DL.tB (d2 gNe (d1 gSortSet (dVar 3)) (dVar 3))))) (dRaise .NoText (dC (.int 2))) dNext)
  (dSeq (dAsg 4 (dC (.dT [])))
  (dSeq (dAsg 5 (dTup (dConsA (d1 gNeg (dC (.int 1))) (dConsA (d1 gNeg (dC (.int 1))) dNilA))))
  (dSeq (dFor (iRange2 (dC (.int 2)) (dCall gLen (dConsA (dVar 1) dNilA))) (uName 6) sb_read_plan_0)
  (dRet (dFun fn_Plan_init (dConsA (dFun fn_Web_init (dConsA (d2 gIx (dVar 2) (dC (.int 0))) (dConsA (d1 gKeysD (dVar 4)) dNilA)) []) (dConsA (dVar 3) (dConsA (dVar 4) dNilA))) []))))))))))
def fn_read_plan : List D → Rs := runF false 8 sm_read_plan
theorem sc_read_plan : FnScope ["text", "rows", "hands", "leaders", "limits", "last", "k", "numbers", "passing"] ["text"] (defScope (top 22)) := ⟨rfl, rfl, rfl, by decide +kernel, rfl, by decide +kernel, by decide +kernel⟩
theorem ok_read_plan (Z : Fc K mg) : ∃ fd, FnOk P w K mg base (L2.CX P w) 4 (He.fAd K dd_read_plan.at_) fd ["text"] (SpD ⟨K, ca K⟩ [.s] false fn_read_plan) ∧ PySem.W.keepIn K (.ref (He.fAd K dd_read_plan.at_)) = true ∧ Binds K fd ["text"] [] := by
  obtain ⟨fd, F⟩ := Z.d_read_plan
  obtain ⟨fd_told_numbers, F_told_numbers, kp_told_numbers, B_told_numbers⟩ := ok_told_numbers (P := P) (w := w) (base := base) Z
  obtain ⟨fd_SwapError_init, F_SwapError_init, B_SwapError_init⟩ := ok_SwapError_init (P := P) (w := w) (base := base) Z
  have xO := Z.x_ok
  have xT := Z.x_t
  obtain ⟨fd_is_passing, F_is_passing, kp_is_passing, B_is_passing⟩ := ok_is_passing (P := P) (w := w) (base := base) Z
  obtain ⟨fd_Plan_init, F_Plan_init, kp_Plan_init, B_Plan_init⟩ := ok_Plan_init (P := P) (w := w) (base := base) Z
  obtain ⟨fd_Web_init, F_Web_init, kp_Web_init, B_Web_init⟩ := ok_Web_init (P := P) (w := w) (base := base) Z
  have g_told_numbers := Z.g_told_numbers
  have f_len := Z.f_len
  obtain ⟨t_LEAST_HANDS, c_LEAST_HANDS⟩ := Z.c_LEAST_HANDS
  obtain ⟨t_MOST_HANDS, c_MOST_HANDS⟩ := Z.c_MOST_HANDS
  have g_NoText := Z.g_NoText
  have f_sorted := Z.f_sorted
  have f_set := Z.f_set
  have f_range := Z.f_range
  have f_tuple := Z.f_tuple
  have g_is_passing := Z.g_is_passing
  have g_Plan := Z.g_Plan
  have M_Plan := Z.M_Plan
  have g_Web := Z.g_Web
  have M_Web := Z.M_Web
  have f_list := Z.f_list
  refine ⟨fd, ?_, F.kp, F.bindsN fun _ _ _ _ _ _ us hl => match us, hl with | [_], _ => rfl⟩
  refine fn_D (Γ' := []) (Γ0 := [.s]) (n := 8) (N := ["text", "rows", "hands", "leaders", "limits", "last", "k", "numbers", "passing"]) F sc_read_plan rfl rfl (fun cdv A outer s H E hr => ?_)
  have hN := sc_read_plan.nd
  exact (pdss_cons (pds_set 1 (pd_new (pd_split (pd_var 0) pd_str)) hN)
  (pdss_cons (pds_setX 2 (pd_callX (takes_of rfl rfl rfl rfl) F_told_numbers (hr.mono (by decide)) g_told_numbers kp_told_numbers B_told_numbers .nil .nil (pda_cons (pd_var 1) (pda_cons pd_int (pda_cons pd_str pda_nil)))) hN)
  (pdss_cons (pds_if (Γ' := [.s, .s, .s, .n, .n, .n, .n, .n, .n]) (pdt_w (pdw_or (pdt_cmp (og_ne hr) (pd_callB cg_len (pda_cons (pd_var 2) pda_nil) f_len) pd_int) (pdw_or1 (pdt_not (pdt_chain og_le og_le (pd_glob (v := .int 2) (d := .int 2) c_LEAST_HANDS ⟨_, rfl⟩ (fun _ _ => .int 2)) (pd_ix (pd_var 2) pd_int) (pd_glob (v := .int 6) (d := .int 6) c_MOST_HANDS ⟨_, rfl⟩ (fun _ _ => .int 6))))))) (pdss_one (pds_raise .NoText (takes_of rfl rfl rfl rfl) (xO.rai .NoText (by decide)) xT F_SwapError_init (hr.mono (by decide)) B_SwapError_init g_NoText pd_int)) pdss_nil)
  (pdss_cons (pds_setX 3 (pd_callX (takes_of rfl rfl rfl rfl) F_told_numbers (hr.mono (by decide)) g_told_numbers kp_told_numbers B_told_numbers .nil .nil (pda_cons (pd_var 1) (pda_cons pd_int (pda_cons pd_str pda_nil)))) hN)
  (pdss_cons (pds_if (Γ' := [.s, .s, .s, .s, .n, .n, .n, .n, .n]) (pdt_w (pdw_or (pdt_cmp (og_eq hr) (pd_var 3) (pd_new (pd_lst pda_nil))) (pdw_or (pdt_cmp og_ge (pd_ix (pd_var 3) (pd_neg pd_int)) (pd_ix (pd_var 2) pd_int)) (pdw_or1 (pdt_cmp (og_ne hr) (pd_new (pd_sortSet (pd_var 3) f_sorted f_set)) (pd_var 3)))))) (pdss_one (pds_raise .NoText (takes_of rfl rfl rfl rfl) (xO.rai .NoText (by decide)) xT F_SwapError_init (hr.mono (by decide)) B_SwapError_init g_NoText pd_int)) pdss_nil)
  (pdss_cons (pds_setn 4 pd_dT hN)
  (pdss_cons (pds_set 5 (pd_tup (pda_cons (pd_neg pd_int) (pda_cons (pd_neg pd_int) pda_nil))) hN)
  (pdss_cons (pds_for (sh := true) (Γ := [.s, .s, .s, .s, .f, .s, .n, .n, .n]) (passes_of rfl) (pdi_range2 pd_int (pd_callB cg_len (pda_cons (pd_var 1) pda_nil) f_len) f_range) (pdg_name 6 hN)
  (pdss_after (Γ1 := [.s, .s, .s, .s, .f, .s, .s, .s, .s]) (pdss_cons (pds_setX 7 (pd_callX (takes_of rfl rfl rfl rfl) F_told_numbers (hr.mono (by decide)) g_told_numbers kp_told_numbers B_told_numbers .nil .nil (pda_cons (pd_var 1) (pda_cons (pd_var 6) (pda_cons pd_str pda_nil)))) hN)
  (pdss_cons (pds_set 8 (pd_tupOf (pd_new (pd_cut (pd_var 7) pdo_none (pdo_some pd_int))) f_tuple) hN)
  (pdss_cons (pds_if (Γ' := [.s, .s, .s, .s, .f, .s, .s, .s, .s]) (pdt_w (pdw_or (pdt_cmp (og_ne hr) (pd_callB cg_len (pda_cons (pd_var 7) pda_nil) f_len) pd_int) (pdw_or (pdt_not (pdt_val (pd_call F_is_passing (hr.mono (by decide)) g_is_passing kp_is_passing B_is_passing .nil .nil (pda_cons (pd_ix (pd_var 2) pd_int) (pda_cons (pd_var 8) pda_nil))))) (pdw_or1 (pdt_cmp (og_leT hr) (pd_var 8) (pd_var 5)))))) (pdss_one (pds_raise .NoText (takes_of rfl rfl rfl rfl) (xO.rai .NoText (by decide)) xT F_SwapError_init (hr.mono (by decide)) B_SwapError_init g_NoText (pd_bin bg_add (pd_var 6) pd_int))) pdss_nil)
  (pdss_cons (pds_put 4 hr.units1 (pd_var 8) (pd_ix (pd_var 7) pd_int))
  (pdss_one (pds_set 5 (pd_var 8) hN))))))))
  (pdss_ahead (Γ1 := [.s, .s, .s, .s, .s, .s, .n, .n, .n]) (pdss_one (pds_ret (pd_new (pd_make .Plan M_Plan F_Plan_init (hr.mono (by decide)) g_Plan B_Plan_init .nil .nil (pda_cons (pd_new (pd_make .Web M_Web F_Web_init (hr.mono (by decide)) g_Web B_Web_init .nil .nil (pda_cons (pd_ix (pd_var 2) pd_int) (pda_cons (pd_new (pd_keysD (pd_var 4) f_list)) pda_nil)))) (pda_cons (pd_var 3) (pda_cons (pd_var 4) pda_nil))))))))))))))))
def sm_l_right : SFn := (dSeq (dIfS (tOrF (tNotF (DL.tB (d1 (gIsO .Plan) (dVar 0)))) (tOrF (DL.tB (d2 gNe (dFld .Web 0 (dFld .Plan 0 (dVar 0))) (dVar 1))) (DL.tB (d2 gNe (dFld .Web 1 (dFld .Plan 0 (dVar 0))) (dCallN gSort (dVar 2)))))) (dRet (dC (.bl false))) dNext)
  (dSeq (dIfS (tOrF (DL.tB (d2 gNe (dFld .Plan 1 (dVar 0)) (dVar 3))) (DL.tB (d2 gNeT (dFld .Plan 2 (dVar 0)) (dVar 4)))) (dRet (dC (.bl false))) dNext)
  (dRet (d2 gEq (dLc (iLst (dVar 2)) (uName 5) (DL.tB (d2 gNe (dMeth .Plan fn_Plan_limit (dVar 0) (dConsA (dVar 5) dNilA) []) (d2 gDIx (dVar 4) (dVar 5)))) (dVar 5)) (dLst dNilA)))))
def fn_l_right : List D → Rs := runF false 1 sm_l_right
theorem sc_l_right : FnScope ["_law_plan", "_law_number", "_law_passings", "_law_leaders_here", "_law_limits_here", "_law_pair"] ["_law_plan", "_law_number", "_law_passings", "_law_leaders_here", "_law_limits_here"] (defScope (top 30)) := ⟨rfl, rfl, rfl, by decide +kernel, rfl, by decide +kernel, by decide +kernel⟩
theorem ok_l_right (Z : Fc K mg) : ∃ fd, FnOk P w K mg base (L2.CX P w) 2 (He.fAd K dd_l_right.at_) fd ["_law_plan", "_law_number", "_law_passings", "_law_leaders_here", "_law_limits_here"] (SpD ⟨K, ca K⟩ [.s, .s, .s, .s, .s] false fn_l_right) ∧ PySem.W.keepIn K (.ref (He.fAd K dd_l_right.at_)) = true ∧ Binds K fd ["_law_plan", "_law_number", "_law_passings", "_law_leaders_here", "_law_limits_here"] [] := by
  obtain ⟨fd, F⟩ := Z.d_l_right
  obtain ⟨fd_Plan_limit, F_Plan_limit, kp_Plan_limit, B_Plan_limit⟩ := ok_Plan_limit (P := P) (w := w) (base := base) Z
  have f_isinstance := Z.f_isinstance
  have g_Plan := Z.g_Plan
  have k_Plan := Z.k_Plan
  have o_Plan := Z.o_Plan
  have k_Web := Z.k_Web
  have f_sorted := Z.f_sorted
  have m_Plan_limit := Z.m_Plan_limit
  refine ⟨fd, ?_, F.kp, F.bindsN fun _ _ _ _ _ _ us hl => match us, hl with | [_, _, _, _, _], _ => rfl⟩
  refine fn_D (Γ' := []) (Γ0 := [.s, .s, .s, .s, .s]) (n := 1) (N := ["_law_plan", "_law_number", "_law_passings", "_law_leaders_here", "_law_limits_here", "_law_pair"]) F sc_l_right rfl rfl (fun cdv A outer s H E hr => ?_)
  have hN := sc_l_right.nd
  exact (pdss_cons (pds_if (Γ' := [.s, .s, .s, .s, .s, .n]) (pdt_w (pdw_or (pdt_not (pdt_val (pd_isO .Plan o_Plan (pd_var 0) f_isinstance g_Plan))) (pdw_or (pdt_cmp (og_ne hr) (pd_fld .Web 0 k_Web (pd_fld .Plan 0 k_Plan (pd_var 0))) (pd_var 1)) (pdw_or1 (pdt_cmp (og_ne hr) (pd_fld .Web 1 k_Web (pd_fld .Plan 0 k_Plan (pd_var 0))) (pd_new (pd_callBN (cn_sorted hr) (pd_var 2) f_sorted))))))) (pdss_one (pds_ret pd_bl)) pdss_nil)
  (pdss_cons (pds_if (Γ' := [.s, .s, .s, .s, .s, .n]) (pdt_w (pdw_or (pdt_cmp (og_ne hr) (pd_fld .Plan 1 k_Plan (pd_var 0)) (pd_var 3)) (pdw_or1 (pdt_cmp (og_neT hr.units1) (pd_fld .Plan 2 k_Plan (pd_var 0)) (pd_var 4))))) (pdss_one (pds_ret pd_bl)) pdss_nil)
  (pdss_one (pds_ret (pd_cmp (og_eq hr) (pd_new (pd_lc (sh := true) [("_law_pair", 5)] (pdi_list (pd_var 2)) hN (blkB_ok (by kernel_rfl)) (fun _ _ _ _ _ => (pdg_name 5 hN)) (fun _ _ _ _ _ => (pdts_one (pdt_cmp (og_ne hr) (pd_meth .Plan F_Plan_limit k_Plan m_Plan_limit (hr.mono (by decide)) B_Plan_limit .nil .nil (pd_var 0) (pda_cons (pd_var 5) pda_nil)) (pd_dix hr.units1 (pd_var 4) (pd_var 5))))) (fun _ _ _ _ _ => (pd_var 5)))) (pd_new (pd_lst pda_nil)))))))
def sm_law : SFn := (dSeq (dUnpk (dFun fn_l_web (dConsA (dFun fn_l_cell_at (dConsA (dVar 0) (dConsA (dC (.int 0)) dNilA)) []) dNilA) []) (uTup (uCons (uName 1) (uCons (uName 2) uNil))))
  (dSeq (dAsg 3 (dFun fn_l_leaders (dConsA (dFun fn_l_cell_at (dConsA (dVar 0) (dConsA (dC (.int 1)) dNilA)) []) (dConsA (dVar 1) dNilA)) []))
  (dSeq (dAsg 4 (dFun fn_l_limits (dConsA (dFun fn_l_cell_at (dConsA (dVar 0) (dConsA (dC (.int 2)) dNilA)) []) (dConsA (dVar 2) dNilA)) []))
  (dSeq (dAsg 5 (dFun fn_Plan_init (dConsA (dFun fn_Web_init (dConsA (dVar 1) (dConsA (dCallN seqOf (dVar 2)) dNilA)) []) (dConsA (dCallN seqOf (dVar 3)) (dConsA (d1 gCopyD (dVar 4)) dNilA))) []))
  (dSeq (dAsg 6 (dFun fn_written_plan (dConsA (dVar 5) dNilA) []))
  (dSeq (dIfS (tOrF (tNotF (DL.tB (d1 (gIsi "str") (dVar 6)))) (DL.tB (d2 gNe (dVar 6) (dFun fn_l_text (dConsA (dVar 1) (dConsA (dVar 2) (dConsA (dVar 3) (dConsA (dVar 4) dNilA)))) [])))) (dRet (dC (.bl false))) dNext)
  (dSeq (dAsg 7 (dFun fn_read_plan (dConsA (dVar 6) dNilA) []))
  (dSeq (dIfS (tOrF (tNotF (DL.tB (dFun fn_l_right (dConsA (dVar 7) (dConsA (dVar 1) (dConsA (dVar 2) (dConsA (dVar 3) (dConsA (dVar 4) dNilA))))) []))) (DL.tB (d2 gNe (dFun fn_written_plan (dConsA (dVar 7) dNilA) []) (dVar 6)))) (dRet (dC (.bl false))) dNext)
  (dRet (dFun fn_l_right (dConsA (dFun fn_read_plan (dConsA (dVar 6) dNilA) []) (dConsA (dVar 1) (dConsA (dVar 2) (dConsA (dVar 3) (dConsA (dVar 4) dNilA))))) []))))))))))
def fn_law : List D → Rs := runF false 7 sm_law
theorem sc_law : FnScope ["_law_script", "_law_number", "_law_passings", "_law_leaders_here", "_law_limits_here", "_law_plan", "_law_text_here", "_law_found"] ["_law_script"] (defScope (top 31)) := ⟨rfl, rfl, rfl, by decide +kernel, rfl, by decide +kernel, by decide +kernel⟩
theorem ok_law (Z : Fc K mg) {fd : FuncData} (F : FunD K dd_law.name dd_law.qual dd_law.params dd_law.body dd_law.scope (dd_law.dvs K) (dd_law.kws K) (He.fAd K dd_law.at_) fd) : FnOk P w K mg base (L2.CX P w) 5 (He.fAd K dd_law.at_) fd ["_law_script"] (SpD ⟨K, ca K⟩ [.s] false fn_law) := by
  obtain ⟨fd_l_web, F_l_web, kp_l_web, B_l_web⟩ := ok_l_web (P := P) (w := w) (base := base) Z
  obtain ⟨fd_l_cell_at, F_l_cell_at, kp_l_cell_at, B_l_cell_at⟩ := ok_l_cell_at (P := P) (w := w) (base := base) Z
  obtain ⟨fd_l_leaders, F_l_leaders, kp_l_leaders, B_l_leaders⟩ := ok_l_leaders (P := P) (w := w) (base := base) Z
  obtain ⟨fd_l_limits, F_l_limits, kp_l_limits, B_l_limits⟩ := ok_l_limits (P := P) (w := w) (base := base) Z
  obtain ⟨fd_Plan_init, F_Plan_init, kp_Plan_init, B_Plan_init⟩ := ok_Plan_init (P := P) (w := w) (base := base) Z
  obtain ⟨fd_Web_init, F_Web_init, kp_Web_init, B_Web_init⟩ := ok_Web_init (P := P) (w := w) (base := base) Z
  obtain ⟨fd_written_plan, F_written_plan, kp_written_plan, B_written_plan⟩ := ok_written_plan (P := P) (w := w) (base := base) Z
  obtain ⟨fd_l_text, F_l_text, kp_l_text, B_l_text⟩ := ok_l_text (P := P) (w := w) (base := base) Z
  obtain ⟨fd_read_plan, F_read_plan, kp_read_plan, B_read_plan⟩ := ok_read_plan (P := P) (w := w) (base := base) Z
  obtain ⟨fd_l_right, F_l_right, kp_l_right, B_l_right⟩ := ok_l_right (P := P) (w := w) (base := base) Z
  have g_l_web := Z.g_l_web
  have g_l_cell_at := Z.g_l_cell_at
  have g_l_leaders := Z.g_l_leaders
  have g_l_limits := Z.g_l_limits
  have g_Plan := Z.g_Plan
  have M_Plan := Z.M_Plan
  have g_Web := Z.g_Web
  have M_Web := Z.M_Web
  have f_list := Z.f_list
  have f_dict := Z.f_dict
  have g_written_plan := Z.g_written_plan
  have f_isinstance := Z.f_isinstance
  have f_str := Z.f_str
  have g_l_text := Z.g_l_text
  have g_read_plan := Z.g_read_plan
  have g_l_right := Z.g_l_right
  refine fn_D (Γ' := []) (Γ0 := [.s]) (n := 7) (N := ["_law_script", "_law_number", "_law_passings", "_law_leaders_here", "_law_limits_here", "_law_plan", "_law_text_here", "_law_found"]) F sc_law rfl rfl (fun cdv A outer s H E hr => ?_)
  have hN := sc_law.nd
  exact (pdss_cons (pds_unpk (sh := true) (pd_call F_l_web (hr.mono (by decide)) g_l_web kp_l_web B_l_web .nil .nil (pda_cons (pd_call F_l_cell_at (hr.mono (by decide)) g_l_cell_at kp_l_cell_at B_l_cell_at .nil .nil (pda_cons (pd_var 0) (pda_cons pd_int pda_nil))) pda_nil)) (pdg_tup (pdgs_cons (pdg_name 1 hN) (pdgs_cons (pdg_name 2 hN) pdgs_nil))))
  (pdss_cons (pds_set 3 (pd_call F_l_leaders (hr.mono (by decide)) g_l_leaders kp_l_leaders B_l_leaders .nil .nil (pda_cons (pd_call F_l_cell_at (hr.mono (by decide)) g_l_cell_at kp_l_cell_at B_l_cell_at .nil .nil (pda_cons (pd_var 0) (pda_cons pd_int pda_nil))) (pda_cons (pd_var 1) pda_nil))) hN)
  (pdss_cons (pds_set 4 (pd_call F_l_limits (hr.mono (by decide)) g_l_limits kp_l_limits B_l_limits .nil .nil (pda_cons (pd_call F_l_cell_at (hr.mono (by decide)) g_l_cell_at kp_l_cell_at B_l_cell_at .nil .nil (pda_cons (pd_var 0) (pda_cons pd_int pda_nil))) (pda_cons (pd_var 2) pda_nil))) hN)
  (pdss_cons (pds_set 5 (pd_new (pd_make .Plan M_Plan F_Plan_init (hr.mono (by decide)) g_Plan B_Plan_init .nil .nil (pda_cons (pd_new (pd_make .Web M_Web F_Web_init (hr.mono (by decide)) g_Web B_Web_init .nil .nil (pda_cons (pd_var 1) (pda_cons (pd_new (pd_callTyN cn_list (pd_var 2) f_list)) pda_nil)))) (pda_cons (pd_new (pd_callTyN cn_list (pd_var 3) f_list)) (pda_cons (pd_new (pd_copyD hr (pd_var 4) f_dict)) pda_nil))))) hN)
  (pdss_cons (pds_set 6 (pd_call F_written_plan (hr.mono (by decide)) g_written_plan kp_written_plan B_written_plan .nil .nil (pda_cons (pd_var 5) pda_nil)) hN)
  (pdss_cons (pds_if (Γ' := [.s, .s, .s, .s, .s, .s, .s, .n]) (pdt_w (pdw_or (pdt_not (pdt_val (pd_isi (pd_var 6) f_isinstance f_str))) (pdw_or1 (pdt_cmp (og_ne hr) (pd_var 6) (pd_call F_l_text (hr.mono (by decide)) g_l_text kp_l_text B_l_text .nil .nil (pda_cons (pd_var 1) (pda_cons (pd_var 2) (pda_cons (pd_var 3) (pda_cons (pd_var 4) pda_nil))))))))) (pdss_one (pds_ret pd_bl)) pdss_nil)
  (pdss_cons (pds_set 7 (pd_call F_read_plan (hr.mono (by decide)) g_read_plan kp_read_plan B_read_plan .nil .nil (pda_cons (pd_var 6) pda_nil)) hN)
  (pdss_cons (pds_if (Γ' := [.s, .s, .s, .s, .s, .s, .s, .s]) (pdt_w (pdw_or (pdt_not (pdt_val (pd_call F_l_right (hr.mono (by decide)) g_l_right kp_l_right B_l_right .nil .nil (pda_cons (pd_var 7) (pda_cons (pd_var 1) (pda_cons (pd_var 2) (pda_cons (pd_var 3) (pda_cons (pd_var 4) pda_nil)))))))) (pdw_or1 (pdt_cmp (og_ne hr) (pd_call F_written_plan (hr.mono (by decide)) g_written_plan kp_written_plan B_written_plan .nil .nil (pda_cons (pd_var 7) pda_nil)) (pd_var 6))))) (pdss_one (pds_ret pd_bl)) pdss_nil)
  (pdss_one (pds_ret (pd_call F_l_right (hr.mono (by decide)) g_l_right kp_l_right B_l_right .nil .nil (pda_cons (pd_call F_read_plan (hr.mono (by decide)) g_read_plan kp_read_plan B_read_plan .nil .nil (pda_cons (pd_var 6) pda_nil)) (pda_cons (pd_var 1) (pda_cons (pd_var 2) (pda_cons (pd_var 3) (pda_cons (pd_var 4) pda_nil))))))))))))))))
end
def looseL : List PySem.Str := (["_wall", "SwapError", "NoWeb", "NoPlan", "NoText", "are_leaders", "Plan", "LEAST_HANDS", "MOST_HANDS", "is_passing", "Web", "FIGURES", "MOST_FIGURES", "joined", "written_plan", "number_of", "numbers_of", "told_numbers", "read_plan", "_law_cell_at", "_law_stream", "_law_web", "_law_leaders", "_law_limits", "_law_text", "_law_right"] : List PySem.Str)
abbrev RL : PySem.W.OpenRow := PySem.W.OpenLaw.row PySem.Challenge.rw_wordswap_k71_plans_written
abbrev hkL : PySem.W.Hook := hookX 6 xsL faL fnL
def obL (s : PySem.W.SharedT) : Bool × He.AlD := obsX 6 xsL faL fnL (HandSHeadRun.getT s)
theorem obL_eq (s : PySem.W.SharedT) : obL s = hkL.obs s.abs := obsX_eq (HandSHeadRun.getT_eq s)
theorem runL (w : World) : HandSHeadRun.RunEq RL (PySem.W.view RL.prog [31]) hkL obL 4000 looseL w := by
  intro os
  kernel_rfl
theorem endL (hG : ∀ ns : List Int, ns.length ≤ 63 → fn_law [.scr ns] = .ok (.bl true)) : PySem.Challenge.rw_wordswap_k71_plans_written.Holds := by
  w_on; o_law
  refine HandSHeadRun.head_any (r := PySem.W.OpenLaw.row PySem.Challenge.rw_wordswap_k71_plans_written) (q := PySem.W.view (PySem.W.OpenLaw.row PySem.Challenge.rw_wordswap_k71_plans_written).prog [31]) (H := hkL) (ob := obL) (M := 4000) (loose := looseL) (d := HandSHeadRun.topDef (PySem.W.OpenLaw.row PySem.Challenge.rw_wordswap_k71_plans_written).prog 31) (kwd := []) obL_eq
    (by kernel_rfl) (fun s => by kernel_rfl) runL (by kernel_rfl) (by kernel_rfl) (by kernel_rfl) (by rfl) (by first | assumption | decide +kernel) (by decide +kernel) ⟨rfl, rfl, rfl, rfl, rfl, by decide +kernel⟩ ?hw ?hc
  case hw => w_witness2
  case hc =>
    refine walk_ofX (l := PySem.Challenge.rw_wordswap_k71_plans_written) (n := 63) (k := 5) (x := "_law_script") rfl (by decide) (by kernel_rfl) ⟨rfl, by decide, by decide⟩ ?F
    intro w mg fa h Y G hmg0
    obtain ⟨K, KX, c⟩ := Y
    have hmg : mg ("law" : PySem.Str) = some (.ref fa) := by
      have e : (HandSHeadRun.topDef (PySem.W.OpenLaw.row PySem.Challenge.rw_wordswap_k71_plans_written).prog 31).name = ("law" : PySem.Str) := by kernel_rfl
      rw [← e]
      exact hmg0
    have Z := fc_of KX G c
    have e := hmg.symm.trans (He.glo_ok KX G (c.d.fact 43 (f := .glo "law") rfl))
    cases e
    obtain ⟨fd, F⟩ := Z.d_law
    have b := FunD.bindsA (ps := ["_law_script"]) F fun _ _ _ _ _ _ us hl => match us, hl with | [_], _ => rfl
    refine ⟨K, fd, SpD ⟨K, ca K⟩ [.s] false fn_law, KX, fun s v => b s [v] rfl, fun H a ns hl _ hS => spD_law (c := ⟨K, ca K⟩) hS (hG ns hl), fun base _ _ => ?_⟩
    exact ok_law (P := (PySem.Challenge.rw_wordswap_k71_plans_written).prog) (w := w) (base := base) Z F
end DL

namespace DL
open PySem PySem.Spec PyProof.Rows L2 Enc
theorem cell_at_eq (ns : List Int) (k : Nat) : fn_l_cell_at [.scr ns, .int k] = .ok (.int (ns.getD k 0)) := by
  unfold fn_l_cell_at sm_l_cell_at
  simp only [bindS, mapS, rng_len, dSeq_ap, seqK_nx, seqK_ret, seqK_cont, seqK_brk, seqK_exc, dNext_ap, dAsg_ap, asgK_some, dRet_ap, retK_some, dIfS_ap, ifK_true, ifK_false, dDrop_ap, dropK_some, dApp_ap, appK_some, dExt_ap, extK_some, dClear_ap, clearK_some, dFor_ap, forK_some, dUnpk_ap, unpK_some, dFst_ap, fstK_some, dRaise_ap, raiK_some, runF_ap, runK_ret, runK_nx, runK_exc, runI_ap, runIK_nx, runIK_exc, dVar_ap, dC_ap, d1_ap, d2_ap, tB_ap, asB_bl, tAndF_ap, tOrF_ap, tNotF_ap, dAnd_ap, dOr_ap, dNot_ap, dIf_ap, ite_and, ite_or, ite_andD, ite_orD, dNilA_ap, dConsA_ap, dTup_ap, dLst_ap, dImm_ap, oNone_ap, oSome_ap, asI_int, dCut_ap, cutK_lst, cutK_scr, dFld_ap, fldK_obj, dCall_ap, dCallN_ap, dFun_ap, okR_ok, dFunN_ap, okRN_lst, okRN_dI, okRN_dT, dMethN_ap, dMeth_ap, isObj_obj, uName_ap, uNil_ap, uCons_ap, uTup_ap, iLst_ap, lstOf_lst, lstOf_scr, iTupD_ap, tupOf_tup, iRev_ap, iEnum_ap, iRange1_ap, rng1K_int, iRange2_ap, rng2K_int, dLc_ap, tTrue_ap, dChain_ap, seqOf_lst, seqOf_tup, seqOf_scr, gLen_lst, gLen_tup, gLen_scr, gCat_lst, gAdd_int, gSub_int, gMul_int, gMod_int, gDiv_int, gLt_int, gLe_int, gGt_int, gGe_int, gMax2_int, gMin2_int, gIsi_lst, gEq_int, gNe_int, bindS, mapS, rng_len, Int.toNat_natCast, List.getElem?_cons_zero, List.getElem?_cons_succ, List.set_cons_zero, List.set_cons_succ, List.append_nil, List.nil_append, List.cons_append, List.replicate_succ, List.replicate_zero, List.length_map, List.length_cons, List.length_nil, Bool.not_true, Bool.not_false, decide_true, decide_false, reduceIte, Bool.false_eq_true, and_true, true_and, or_true, true_or, and_self, Bool.and_true, Bool.true_and, Bool.and_false, Bool.false_and, Bool.or_false, Bool.false_or, Bool.or_true, Bool.true_or, Int.reduceLT, Int.reduceLE, Int.reducePow, Int.reduceNeg, Int.reduceAdd, Int.reduceSub, Int.reduceMul, Int.reduceToNat, Nat.reduceLT, Nat.reduceAdd, Nat.reduceLeDiff, Nat.reducePow]
  by_cases h : (k : Int) < ns.length
  · rw [decide_eq_true h]
    simp only [bindS, mapS, rng_len, dSeq_ap, seqK_nx, seqK_ret, seqK_cont, seqK_brk, seqK_exc, dNext_ap, dAsg_ap, asgK_some, dRet_ap, retK_some, dIfS_ap, ifK_true, ifK_false, dDrop_ap, dropK_some, dApp_ap, appK_some, dExt_ap, extK_some, dClear_ap, clearK_some, dFor_ap, forK_some, dUnpk_ap, unpK_some, dFst_ap, fstK_some, dRaise_ap, raiK_some, runF_ap, runK_ret, runK_nx, runK_exc, runI_ap, runIK_nx, runIK_exc, dVar_ap, dC_ap, d1_ap, d2_ap, tB_ap, asB_bl, tAndF_ap, tOrF_ap, tNotF_ap, dAnd_ap, dOr_ap, dNot_ap, dIf_ap, ite_and, ite_or, ite_andD, ite_orD, dNilA_ap, dConsA_ap, dTup_ap, dLst_ap, dImm_ap, oNone_ap, oSome_ap, asI_int, dCut_ap, cutK_lst, cutK_scr, dFld_ap, fldK_obj, dCall_ap, dCallN_ap, dFun_ap, okR_ok, dFunN_ap, okRN_lst, okRN_dI, okRN_dT, dMethN_ap, dMeth_ap, isObj_obj, uName_ap, uNil_ap, uCons_ap, uTup_ap, iLst_ap, lstOf_lst, lstOf_scr, iTupD_ap, tupOf_tup, iRev_ap, iEnum_ap, iRange1_ap, rng1K_int, iRange2_ap, rng2K_int, dLc_ap, tTrue_ap, dChain_ap, seqOf_lst, seqOf_tup, seqOf_scr, gLen_lst, gLen_tup, gLen_scr, gCat_lst, gAdd_int, gSub_int, gMul_int, gMod_int, gDiv_int, gLt_int, gLe_int, gGt_int, gGe_int, gMax2_int, gMin2_int, gIsi_lst, gEq_int, gNe_int, bindS, mapS, rng_len, Int.toNat_natCast, List.getElem?_cons_zero, List.getElem?_cons_succ, List.set_cons_zero, List.set_cons_succ, List.append_nil, List.nil_append, List.cons_append, List.replicate_succ, List.replicate_zero, List.length_map, List.length_cons, List.length_nil, Bool.not_true, Bool.not_false, decide_true, decide_false, reduceIte, Bool.false_eq_true, and_true, true_and, or_true, true_or, and_self, Bool.and_true, Bool.true_and, Bool.and_false, Bool.false_and, Bool.or_false, Bool.false_or, Bool.or_true, Bool.true_or, Int.reduceLT, Int.reduceLE, Int.reducePow, Int.reduceNeg, Int.reduceAdd, Int.reduceSub, Int.reduceMul, Int.reduceToNat, Nat.reduceLT, Nat.reduceAdd, Nat.reduceLeDiff, Nat.reducePow]
    have h' : k < ns.length := by omega
    rw [gIx_scr (x := ns[k]) (by omega) (by simp [h'])]
    simp only [bindS, mapS, rng_len, dSeq_ap, seqK_nx, seqK_ret, seqK_cont, seqK_brk, seqK_exc, dNext_ap, dAsg_ap, asgK_some, dRet_ap, retK_some, dIfS_ap, ifK_true, ifK_false, dDrop_ap, dropK_some, dApp_ap, appK_some, dExt_ap, extK_some, dClear_ap, clearK_some, dFor_ap, forK_some, dUnpk_ap, unpK_some, dFst_ap, fstK_some, dRaise_ap, raiK_some, runF_ap, runK_ret, runK_nx, runK_exc, runI_ap, runIK_nx, runIK_exc, dVar_ap, dC_ap, d1_ap, d2_ap, tB_ap, asB_bl, tAndF_ap, tOrF_ap, tNotF_ap, dAnd_ap, dOr_ap, dNot_ap, dIf_ap, ite_and, ite_or, ite_andD, ite_orD, dNilA_ap, dConsA_ap, dTup_ap, dLst_ap, dImm_ap, oNone_ap, oSome_ap, asI_int, dCut_ap, cutK_lst, cutK_scr, dFld_ap, fldK_obj, dCall_ap, dCallN_ap, dFun_ap, okR_ok, dFunN_ap, okRN_lst, okRN_dI, okRN_dT, dMethN_ap, dMeth_ap, isObj_obj, uName_ap, uNil_ap, uCons_ap, uTup_ap, iLst_ap, lstOf_lst, lstOf_scr, iTupD_ap, tupOf_tup, iRev_ap, iEnum_ap, iRange1_ap, rng1K_int, iRange2_ap, rng2K_int, dLc_ap, tTrue_ap, dChain_ap, seqOf_lst, seqOf_tup, seqOf_scr, gLen_lst, gLen_tup, gLen_scr, gCat_lst, gAdd_int, gSub_int, gMul_int, gMod_int, gDiv_int, gLt_int, gLe_int, gGt_int, gGe_int, gMax2_int, gMin2_int, gIsi_lst, gEq_int, gNe_int, bindS, mapS, rng_len, Int.toNat_natCast, List.getElem?_cons_zero, List.getElem?_cons_succ, List.set_cons_zero, List.set_cons_succ, List.append_nil, List.nil_append, List.cons_append, List.replicate_succ, List.replicate_zero, List.length_map, List.length_cons, List.length_nil, Bool.not_true, Bool.not_false, decide_true, decide_false, reduceIte, Bool.false_eq_true, and_true, true_and, or_true, true_or, and_self, Bool.and_true, Bool.true_and, Bool.and_false, Bool.false_and, Bool.or_false, Bool.false_or, Bool.or_true, Bool.true_or, Int.reduceLT, Int.reduceLE, Int.reducePow, Int.reduceNeg, Int.reduceAdd, Int.reduceSub, Int.reduceMul, Int.reduceToNat, Nat.reduceLT, Nat.reduceAdd, Nat.reduceLeDiff, Nat.reducePow]
    simp [h']
  · rw [decide_eq_false h]
    simp only [bindS, mapS, rng_len, dSeq_ap, seqK_nx, seqK_ret, seqK_cont, seqK_brk, seqK_exc, dNext_ap, dAsg_ap, asgK_some, dRet_ap, retK_some, dIfS_ap, ifK_true, ifK_false, dDrop_ap, dropK_some, dApp_ap, appK_some, dExt_ap, extK_some, dClear_ap, clearK_some, dFor_ap, forK_some, dUnpk_ap, unpK_some, dFst_ap, fstK_some, dRaise_ap, raiK_some, runF_ap, runK_ret, runK_nx, runK_exc, runI_ap, runIK_nx, runIK_exc, dVar_ap, dC_ap, d1_ap, d2_ap, tB_ap, asB_bl, tAndF_ap, tOrF_ap, tNotF_ap, dAnd_ap, dOr_ap, dNot_ap, dIf_ap, ite_and, ite_or, ite_andD, ite_orD, dNilA_ap, dConsA_ap, dTup_ap, dLst_ap, dImm_ap, oNone_ap, oSome_ap, asI_int, dCut_ap, cutK_lst, cutK_scr, dFld_ap, fldK_obj, dCall_ap, dCallN_ap, dFun_ap, okR_ok, dFunN_ap, okRN_lst, okRN_dI, okRN_dT, dMethN_ap, dMeth_ap, isObj_obj, uName_ap, uNil_ap, uCons_ap, uTup_ap, iLst_ap, lstOf_lst, lstOf_scr, iTupD_ap, tupOf_tup, iRev_ap, iEnum_ap, iRange1_ap, rng1K_int, iRange2_ap, rng2K_int, dLc_ap, tTrue_ap, dChain_ap, seqOf_lst, seqOf_tup, seqOf_scr, gLen_lst, gLen_tup, gLen_scr, gCat_lst, gAdd_int, gSub_int, gMul_int, gMod_int, gDiv_int, gLt_int, gLe_int, gGt_int, gGe_int, gMax2_int, gMin2_int, gIsi_lst, gEq_int, gNe_int, bindS, mapS, rng_len, Int.toNat_natCast, List.getElem?_cons_zero, List.getElem?_cons_succ, List.set_cons_zero, List.set_cons_succ, List.append_nil, List.nil_append, List.cons_append, List.replicate_succ, List.replicate_zero, List.length_map, List.length_cons, List.length_nil, Bool.not_true, Bool.not_false, decide_true, decide_false, reduceIte, Bool.false_eq_true, and_true, true_and, or_true, true_or, and_self, Bool.and_true, Bool.true_and, Bool.and_false, Bool.false_and, Bool.or_false, Bool.false_or, Bool.or_true, Bool.true_or, Int.reduceLT, Int.reduceLE, Int.reducePow, Int.reduceNeg, Int.reduceAdd, Int.reduceSub, Int.reduceMul, Int.reduceToNat, Nat.reduceLT, Nat.reduceAdd, Nat.reduceLeDiff, Nat.reducePow]
    have h' : ¬ k < ns.length := by omega
    simp [h']

theorem P31 (a : Int) : 0 ≤ a % 2147483647 ∧ a % 2147483647 < 2147483647 := ⟨Int.emod_nonneg a (by omega), Int.emod_lt_of_pos a (by omega)⟩
theorem l_stream_eq (c : Int) (n : Nat) (hn : n ≤ 100000) : ∃ xs : List Int, xs.length = n ∧ (∀ x ∈ xs, 0 ≤ x ∧ x < 2147483647) ∧ fn_l_stream [.int c, .int n] = .ok (.lst (xs.map .int)) := by
  have hr : -(2 ^ 62) ≤ (n : Int) ∧ (n : Int) < 2 ^ 62 := by omega
  unfold fn_l_stream sm_l_stream
  simp only [bindS, mapS, rng_len, dSeq_ap, seqK_nx, seqK_ret, seqK_cont, seqK_brk, seqK_exc, dNext_ap, dAsg_ap, asgK_some, dRet_ap, retK_some, dIfS_ap, ifK_true, ifK_false, dDrop_ap, dropK_some, dApp_ap, appK_some, dExt_ap, extK_some, dClear_ap, clearK_some, dFor_ap, forK_some, dUnpk_ap, unpK_some, dFst_ap, fstK_some, dRaise_ap, raiK_some, runF_ap, runK_ret, runK_nx, runK_exc, runI_ap, runIK_nx, runIK_exc, dVar_ap, dC_ap, d1_ap, d2_ap, tB_ap, asB_bl, tAndF_ap, tOrF_ap, tNotF_ap, dAnd_ap, dOr_ap, dNot_ap, dIf_ap, ite_and, ite_or, ite_andD, ite_orD, dNilA_ap, dConsA_ap, dTup_ap, dLst_ap, dImm_ap, oNone_ap, oSome_ap, asI_int, dCut_ap, cutK_lst, cutK_scr, dFld_ap, fldK_obj, dCall_ap, dCallN_ap, dFun_ap, okR_ok, dFunN_ap, okRN_lst, okRN_dI, okRN_dT, dMethN_ap, dMeth_ap, isObj_obj, uName_ap, uNil_ap, uCons_ap, uTup_ap, iLst_ap, lstOf_lst, lstOf_scr, iTupD_ap, tupOf_tup, iRev_ap, iEnum_ap, iRange1_ap, rng1K_int, iRange2_ap, rng2K_int, dLc_ap, tTrue_ap, dChain_ap, seqOf_lst, seqOf_tup, seqOf_scr, gLen_lst, gLen_tup, gLen_scr, gCat_lst, gAdd_int, gSub_int, gMul_int, gMod_int, gDiv_int, gLt_int, gLe_int, gGt_int, gGe_int, gMax2_int, gMin2_int, gIsi_lst, gEq_int, gNe_int, bindS, mapS, rng_len, Int.toNat_natCast, List.getElem?_cons_zero, List.getElem?_cons_succ, List.set_cons_zero, List.set_cons_succ, List.append_nil, List.nil_append, List.cons_append, List.replicate_succ, List.replicate_zero, List.length_map, List.length_cons, List.length_nil, Bool.not_true, Bool.not_false, decide_true, decide_false, reduceIte, Bool.false_eq_true, and_true, true_and, or_true, true_or, and_self, Bool.and_true, Bool.true_and, Bool.and_false, Bool.false_and, Bool.or_false, Bool.false_or, Bool.or_true, Bool.true_or, Int.reduceLT, Int.reduceLE, Int.reducePow, Int.reduceNeg, Int.reduceAdd, Int.reduceSub, Int.reduceMul, Int.reduceToNat, Nat.reduceLT, Nat.reduceAdd, Nat.reduceLeDiff, Nat.reducePow]
  by_cases h : c % 2 = 1
  · rw [decide_eq_true h]
    simp only [bindS, mapS, rng_len, dSeq_ap, seqK_nx, seqK_ret, seqK_cont, seqK_brk, seqK_exc, dNext_ap, dAsg_ap, asgK_some, dRet_ap, retK_some, dIfS_ap, ifK_true, ifK_false, dDrop_ap, dropK_some, dApp_ap, appK_some, dExt_ap, extK_some, dClear_ap, clearK_some, dFor_ap, forK_some, dUnpk_ap, unpK_some, dFst_ap, fstK_some, dRaise_ap, raiK_some, runF_ap, runK_ret, runK_nx, runK_exc, runI_ap, runIK_nx, runIK_exc, dVar_ap, dC_ap, d1_ap, d2_ap, tB_ap, asB_bl, tAndF_ap, tOrF_ap, tNotF_ap, dAnd_ap, dOr_ap, dNot_ap, dIf_ap, ite_and, ite_or, ite_andD, ite_orD, dNilA_ap, dConsA_ap, dTup_ap, dLst_ap, dImm_ap, oNone_ap, oSome_ap, asI_int, dCut_ap, cutK_lst, cutK_scr, dFld_ap, fldK_obj, dCall_ap, dCallN_ap, dFun_ap, okR_ok, dFunN_ap, okRN_lst, okRN_dI, okRN_dT, dMethN_ap, dMeth_ap, isObj_obj, uName_ap, uNil_ap, uCons_ap, uTup_ap, iLst_ap, lstOf_lst, lstOf_scr, iTupD_ap, tupOf_tup, iRev_ap, iEnum_ap, iRange1_ap, rng1K_int, iRange2_ap, rng2K_int, dLc_ap, tTrue_ap, dChain_ap, seqOf_lst, seqOf_tup, seqOf_scr, gLen_lst, gLen_tup, gLen_scr, gCat_lst, gAdd_int, gSub_int, gMul_int, gMod_int, gDiv_int, gLt_int, gLe_int, gGt_int, gGe_int, gMax2_int, gMin2_int, gIsi_lst, gEq_int, gNe_int, bindS, mapS, rng_len, Int.toNat_natCast, List.getElem?_cons_zero, List.getElem?_cons_succ, List.set_cons_zero, List.set_cons_succ, List.append_nil, List.nil_append, List.cons_append, List.replicate_succ, List.replicate_zero, List.length_map, List.length_cons, List.length_nil, Bool.not_true, Bool.not_false, decide_true, decide_false, reduceIte, Bool.false_eq_true, and_true, true_and, or_true, true_or, and_self, Bool.and_true, Bool.true_and, Bool.and_false, Bool.false_and, Bool.or_false, Bool.false_or, Bool.or_true, Bool.true_or, Int.reduceLT, Int.reduceLE, Int.reducePow, Int.reduceNeg, Int.reduceAdd, Int.reduceSub, Int.reduceMul, Int.reduceToNat, Nat.reduceLT, Nat.reduceAdd, Nat.reduceLeDiff, Nat.reducePow, rng1K_int hr, Int.toNat_natCast]
    obtain ⟨ρ', e, xs, q, z, hl, hb, rfl⟩ := forD_rng (u := uName 4) (F := sb_l_stream_0) (lo := 0) (n := n) (ρ := [.int c, .int n, .lst [], .non, .non, .int (c / 2)])
      (fun i ρ => ∃ (xs : List Int) (q : Int) (z : D), xs.length = i ∧ (∀ x ∈ xs, 0 ≤ x ∧ x < 2147483647) ∧ ρ = [.int c, .int n, .lst (xs.map .int), .non, z, .int q])
      ⟨[], c / 2, .non, rfl, fun x hx => (nomatch hx), rfl⟩ fun i ρ hi ⟨xs, q, z, hl, hb, e⟩ => by
        subst e
        refine ⟨_, _, rfl, .inl ?_, xs ++ [q % 5040], q / 5040, .int (0 + i), by rw [List.length_append, hl]; rfl, fun x hx => ?_, rfl⟩
        · unfold sb_l_stream_0
          have hlt : (xs.map D.int).length < 100000 := by rw [List.length_map]; omega
          simp only [bindS, mapS, rng_len, dSeq_ap, seqK_nx, seqK_ret, seqK_cont, seqK_brk, seqK_exc, dNext_ap, dAsg_ap, asgK_some, dRet_ap, retK_some, dIfS_ap, ifK_true, ifK_false, dDrop_ap, dropK_some, dApp_ap, appK_some, dExt_ap, extK_some, dClear_ap, clearK_some, dFor_ap, forK_some, dUnpk_ap, unpK_some, dFst_ap, fstK_some, dRaise_ap, raiK_some, runF_ap, runK_ret, runK_nx, runK_exc, runI_ap, runIK_nx, runIK_exc, dVar_ap, dC_ap, d1_ap, d2_ap, tB_ap, asB_bl, tAndF_ap, tOrF_ap, tNotF_ap, dAnd_ap, dOr_ap, dNot_ap, dIf_ap, ite_and, ite_or, ite_andD, ite_orD, dNilA_ap, dConsA_ap, dTup_ap, dLst_ap, dImm_ap, oNone_ap, oSome_ap, asI_int, dCut_ap, cutK_lst, cutK_scr, dFld_ap, fldK_obj, dCall_ap, dCallN_ap, dFun_ap, okR_ok, dFunN_ap, okRN_lst, okRN_dI, okRN_dT, dMethN_ap, dMeth_ap, isObj_obj, uName_ap, uNil_ap, uCons_ap, uTup_ap, iLst_ap, lstOf_lst, lstOf_scr, iTupD_ap, tupOf_tup, iRev_ap, iEnum_ap, iRange1_ap, rng1K_int, iRange2_ap, rng2K_int, dLc_ap, tTrue_ap, dChain_ap, seqOf_lst, seqOf_tup, seqOf_scr, gLen_lst, gLen_tup, gLen_scr, gCat_lst, gAdd_int, gSub_int, gMul_int, gMod_int, gDiv_int, gLt_int, gLe_int, gGt_int, gGe_int, gMax2_int, gMin2_int, gIsi_lst, gEq_int, gNe_int, bindS, mapS, rng_len, Int.toNat_natCast, List.getElem?_cons_zero, List.getElem?_cons_succ, List.set_cons_zero, List.set_cons_succ, List.append_nil, List.nil_append, List.cons_append, List.replicate_succ, List.replicate_zero, List.length_map, List.length_cons, List.length_nil, Bool.not_true, Bool.not_false, decide_true, decide_false, reduceIte, Bool.false_eq_true, and_true, true_and, or_true, true_or, and_self, Bool.and_true, Bool.true_and, Bool.and_false, Bool.false_and, Bool.or_false, Bool.false_or, Bool.or_true, Bool.true_or, Int.reduceLT, Int.reduceLE, Int.reducePow, Int.reduceNeg, Int.reduceAdd, Int.reduceSub, Int.reduceMul, Int.reduceToNat, Nat.reduceLT, Nat.reduceAdd, Nat.reduceLeDiff, Nat.reducePow, appK_some hlt]
          simp only [List.map_append, List.map_cons, List.map_nil]
        · rcases List.mem_append.mp hx with hx | hx
          · exact hb x hx
          · have := List.mem_singleton.mp hx
            omega
    rw [e]
    simp only [bindS, mapS, rng_len, dSeq_ap, seqK_nx, seqK_ret, seqK_cont, seqK_brk, seqK_exc, dNext_ap, dAsg_ap, asgK_some, dRet_ap, retK_some, dIfS_ap, ifK_true, ifK_false, dDrop_ap, dropK_some, dApp_ap, appK_some, dExt_ap, extK_some, dClear_ap, clearK_some, dFor_ap, forK_some, dUnpk_ap, unpK_some, dFst_ap, fstK_some, dRaise_ap, raiK_some, runF_ap, runK_ret, runK_nx, runK_exc, runI_ap, runIK_nx, runIK_exc, dVar_ap, dC_ap, d1_ap, d2_ap, tB_ap, asB_bl, tAndF_ap, tOrF_ap, tNotF_ap, dAnd_ap, dOr_ap, dNot_ap, dIf_ap, ite_and, ite_or, ite_andD, ite_orD, dNilA_ap, dConsA_ap, dTup_ap, dLst_ap, dImm_ap, oNone_ap, oSome_ap, asI_int, dCut_ap, cutK_lst, cutK_scr, dFld_ap, fldK_obj, dCall_ap, dCallN_ap, dFun_ap, okR_ok, dFunN_ap, okRN_lst, okRN_dI, okRN_dT, dMethN_ap, dMeth_ap, isObj_obj, uName_ap, uNil_ap, uCons_ap, uTup_ap, iLst_ap, lstOf_lst, lstOf_scr, iTupD_ap, tupOf_tup, iRev_ap, iEnum_ap, iRange1_ap, rng1K_int, iRange2_ap, rng2K_int, dLc_ap, tTrue_ap, dChain_ap, seqOf_lst, seqOf_tup, seqOf_scr, gLen_lst, gLen_tup, gLen_scr, gCat_lst, gAdd_int, gSub_int, gMul_int, gMod_int, gDiv_int, gLt_int, gLe_int, gGt_int, gGe_int, gMax2_int, gMin2_int, gIsi_lst, gEq_int, gNe_int, bindS, mapS, rng_len, Int.toNat_natCast, List.getElem?_cons_zero, List.getElem?_cons_succ, List.set_cons_zero, List.set_cons_succ, List.append_nil, List.nil_append, List.cons_append, List.replicate_succ, List.replicate_zero, List.length_map, List.length_cons, List.length_nil, Bool.not_true, Bool.not_false, decide_true, decide_false, reduceIte, Bool.false_eq_true, and_true, true_and, or_true, true_or, and_self, Bool.and_true, Bool.true_and, Bool.and_false, Bool.false_and, Bool.or_false, Bool.false_or, Bool.or_true, Bool.true_or, Int.reduceLT, Int.reduceLE, Int.reducePow, Int.reduceNeg, Int.reduceAdd, Int.reduceSub, Int.reduceMul, Int.reduceToNat, Nat.reduceLT, Nat.reduceAdd, Nat.reduceLeDiff, Nat.reducePow]
    exact ⟨xs, hl, hb, rfl⟩
  · rw [decide_eq_false h]
    simp only [bindS, mapS, rng_len, dSeq_ap, seqK_nx, seqK_ret, seqK_cont, seqK_brk, seqK_exc, dNext_ap, dAsg_ap, asgK_some, dRet_ap, retK_some, dIfS_ap, ifK_true, ifK_false, dDrop_ap, dropK_some, dApp_ap, appK_some, dExt_ap, extK_some, dClear_ap, clearK_some, dFor_ap, forK_some, dUnpk_ap, unpK_some, dFst_ap, fstK_some, dRaise_ap, raiK_some, runF_ap, runK_ret, runK_nx, runK_exc, runI_ap, runIK_nx, runIK_exc, dVar_ap, dC_ap, d1_ap, d2_ap, tB_ap, asB_bl, tAndF_ap, tOrF_ap, tNotF_ap, dAnd_ap, dOr_ap, dNot_ap, dIf_ap, ite_and, ite_or, ite_andD, ite_orD, dNilA_ap, dConsA_ap, dTup_ap, dLst_ap, dImm_ap, oNone_ap, oSome_ap, asI_int, dCut_ap, cutK_lst, cutK_scr, dFld_ap, fldK_obj, dCall_ap, dCallN_ap, dFun_ap, okR_ok, dFunN_ap, okRN_lst, okRN_dI, okRN_dT, dMethN_ap, dMeth_ap, isObj_obj, uName_ap, uNil_ap, uCons_ap, uTup_ap, iLst_ap, lstOf_lst, lstOf_scr, iTupD_ap, tupOf_tup, iRev_ap, iEnum_ap, iRange1_ap, rng1K_int, iRange2_ap, rng2K_int, dLc_ap, tTrue_ap, dChain_ap, seqOf_lst, seqOf_tup, seqOf_scr, gLen_lst, gLen_tup, gLen_scr, gCat_lst, gAdd_int, gSub_int, gMul_int, gMod_int, gDiv_int, gLt_int, gLe_int, gGt_int, gGe_int, gMax2_int, gMin2_int, gIsi_lst, gEq_int, gNe_int, bindS, mapS, rng_len, Int.toNat_natCast, List.getElem?_cons_zero, List.getElem?_cons_succ, List.set_cons_zero, List.set_cons_succ, List.append_nil, List.nil_append, List.cons_append, List.replicate_succ, List.replicate_zero, List.length_map, List.length_cons, List.length_nil, Bool.not_true, Bool.not_false, decide_true, decide_false, reduceIte, Bool.false_eq_true, and_true, true_and, or_true, true_or, and_self, Bool.and_true, Bool.true_and, Bool.and_false, Bool.false_and, Bool.or_false, Bool.false_or, Bool.or_true, Bool.true_or, Int.reduceLT, Int.reduceLE, Int.reducePow, Int.reduceNeg, Int.reduceAdd, Int.reduceSub, Int.reduceMul, Int.reduceToNat, Nat.reduceLT, Nat.reduceAdd, Nat.reduceLeDiff, Nat.reducePow, rng1K_int hr, Int.toNat_natCast]
    obtain ⟨ρ', e, xs, q, z, hl, hb, hq, rfl⟩ := forD_rng (u := uName 4) (F := sb_l_stream_1) (lo := 0) (n := n) (ρ := [.int c, .int n, .lst [], .int ((c * 48271 + 7919) % 2147483647), .non, .non])
      (fun i ρ => ∃ (xs : List Int) (q : Int) (z : D), xs.length = i ∧ (∀ x ∈ xs, 0 ≤ x ∧ x < 2147483647) ∧ (0 ≤ q ∧ q < 2147483647) ∧ ρ = [.int c, .int n, .lst (xs.map .int), .int q, z, .non])
      ⟨[], (c * 48271 + 7919) % 2147483647, .non, rfl, fun x hx => (nomatch hx), P31 _, rfl⟩ fun i ρ hi ⟨xs, q, z, hl, hb, hq, e⟩ => by
        subst e
        have h64 : (-(2 ^ 64) < q ∧ q < 2 ^ 64) ∨ (-(2 ^ 64) < (q / 1009 + 69621) ∧ (q / 1009 + 69621) < 2 ^ 64) := by omega
        refine ⟨_, _, rfl, .inl ?_, xs ++ [(q * (q / 1009 + 69621) + (0 + i) + 1) % 2147483647], (q * (q / 1009 + 69621) + (0 + i) + 1) % 2147483647, .int (0 + i), by rw [List.length_append, hl]; rfl, fun x hx => ?_, P31 _, rfl⟩
        · unfold sb_l_stream_1
          have hlt : (xs.map D.int).length < 100000 := by rw [List.length_map]; omega
          simp only [bindS, mapS, rng_len, dSeq_ap, seqK_nx, seqK_ret, seqK_cont, seqK_brk, seqK_exc, dNext_ap, dAsg_ap, asgK_some, dRet_ap, retK_some, dIfS_ap, ifK_true, ifK_false, dDrop_ap, dropK_some, dApp_ap, appK_some, dExt_ap, extK_some, dClear_ap, clearK_some, dFor_ap, forK_some, dUnpk_ap, unpK_some, dFst_ap, fstK_some, dRaise_ap, raiK_some, runF_ap, runK_ret, runK_nx, runK_exc, runI_ap, runIK_nx, runIK_exc, dVar_ap, dC_ap, d1_ap, d2_ap, tB_ap, asB_bl, tAndF_ap, tOrF_ap, tNotF_ap, dAnd_ap, dOr_ap, dNot_ap, dIf_ap, ite_and, ite_or, ite_andD, ite_orD, dNilA_ap, dConsA_ap, dTup_ap, dLst_ap, dImm_ap, oNone_ap, oSome_ap, asI_int, dCut_ap, cutK_lst, cutK_scr, dFld_ap, fldK_obj, dCall_ap, dCallN_ap, dFun_ap, okR_ok, dFunN_ap, okRN_lst, okRN_dI, okRN_dT, dMethN_ap, dMeth_ap, isObj_obj, uName_ap, uNil_ap, uCons_ap, uTup_ap, iLst_ap, lstOf_lst, lstOf_scr, iTupD_ap, tupOf_tup, iRev_ap, iEnum_ap, iRange1_ap, rng1K_int, iRange2_ap, rng2K_int, dLc_ap, tTrue_ap, dChain_ap, seqOf_lst, seqOf_tup, seqOf_scr, gLen_lst, gLen_tup, gLen_scr, gCat_lst, gAdd_int, gSub_int, gMul_int, gMod_int, gDiv_int, gLt_int, gLe_int, gGt_int, gGe_int, gMax2_int, gMin2_int, gIsi_lst, gEq_int, gNe_int, bindS, mapS, rng_len, Int.toNat_natCast, List.getElem?_cons_zero, List.getElem?_cons_succ, List.set_cons_zero, List.set_cons_succ, List.append_nil, List.nil_append, List.cons_append, List.replicate_succ, List.replicate_zero, List.length_map, List.length_cons, List.length_nil, Bool.not_true, Bool.not_false, decide_true, decide_false, reduceIte, Bool.false_eq_true, and_true, true_and, or_true, true_or, and_self, Bool.and_true, Bool.true_and, Bool.and_false, Bool.false_and, Bool.or_false, Bool.false_or, Bool.or_true, Bool.true_or, Int.reduceLT, Int.reduceLE, Int.reducePow, Int.reduceNeg, Int.reduceAdd, Int.reduceSub, Int.reduceMul, Int.reduceToNat, Nat.reduceLT, Nat.reduceAdd, Nat.reduceLeDiff, Nat.reducePow, appK_some hlt, gMul_int h64]
          simp only [List.map_append, List.map_cons, List.map_nil]
        · rcases List.mem_append.mp hx with hx | hx
          · exact hb x hx
          · have := List.mem_singleton.mp hx
            subst this
            exact P31 _
    rw [e]
    simp only [bindS, mapS, rng_len, dSeq_ap, seqK_nx, seqK_ret, seqK_cont, seqK_brk, seqK_exc, dNext_ap, dAsg_ap, asgK_some, dRet_ap, retK_some, dIfS_ap, ifK_true, ifK_false, dDrop_ap, dropK_some, dApp_ap, appK_some, dExt_ap, extK_some, dClear_ap, clearK_some, dFor_ap, forK_some, dUnpk_ap, unpK_some, dFst_ap, fstK_some, dRaise_ap, raiK_some, runF_ap, runK_ret, runK_nx, runK_exc, runI_ap, runIK_nx, runIK_exc, dVar_ap, dC_ap, d1_ap, d2_ap, tB_ap, asB_bl, tAndF_ap, tOrF_ap, tNotF_ap, dAnd_ap, dOr_ap, dNot_ap, dIf_ap, ite_and, ite_or, ite_andD, ite_orD, dNilA_ap, dConsA_ap, dTup_ap, dLst_ap, dImm_ap, oNone_ap, oSome_ap, asI_int, dCut_ap, cutK_lst, cutK_scr, dFld_ap, fldK_obj, dCall_ap, dCallN_ap, dFun_ap, okR_ok, dFunN_ap, okRN_lst, okRN_dI, okRN_dT, dMethN_ap, dMeth_ap, isObj_obj, uName_ap, uNil_ap, uCons_ap, uTup_ap, iLst_ap, lstOf_lst, lstOf_scr, iTupD_ap, tupOf_tup, iRev_ap, iEnum_ap, iRange1_ap, rng1K_int, iRange2_ap, rng2K_int, dLc_ap, tTrue_ap, dChain_ap, seqOf_lst, seqOf_tup, seqOf_scr, gLen_lst, gLen_tup, gLen_scr, gCat_lst, gAdd_int, gSub_int, gMul_int, gMod_int, gDiv_int, gLt_int, gLe_int, gGt_int, gGe_int, gMax2_int, gMin2_int, gIsi_lst, gEq_int, gNe_int, bindS, mapS, rng_len, Int.toNat_natCast, List.getElem?_cons_zero, List.getElem?_cons_succ, List.set_cons_zero, List.set_cons_succ, List.append_nil, List.nil_append, List.cons_append, List.replicate_succ, List.replicate_zero, List.length_map, List.length_cons, List.length_nil, Bool.not_true, Bool.not_false, decide_true, decide_false, reduceIte, Bool.false_eq_true, and_true, true_and, or_true, true_or, and_self, Bool.and_true, Bool.true_and, Bool.and_false, Bool.false_and, Bool.or_false, Bool.false_or, Bool.or_true, Bool.true_or, Int.reduceLT, Int.reduceLE, Int.reducePow, Int.reduceNeg, Int.reduceAdd, Int.reduceSub, Int.reduceMul, Int.reduceToNat, Nat.reduceLT, Nat.reduceAdd, Nat.reduceLeDiff, Nat.reducePow]
    exact ⟨xs, hl, hb, rfl⟩

structure Valid (n : Int) (ps : List (Int × Int)) : Prop where
  nd : ps.Nodup
  ok : ∀ p ∈ ps, 0 ≤ p.1 ∧ p.1 < n ∧ 0 ≤ p.2 ∧ p.2 < n ∧ p.1 ≠ p.2
theorem Valid.nil {n : Int} : Valid n [] := ⟨List.nodup_nil, fun _ h => nomatch h⟩
theorem Valid.snoc {n : Int} {ps : List (Int × Int)} (v : Valid n ps) {a b : Int} (h : (a, b) ∉ ps) (ha : 0 ≤ a ∧ a < n) (hb : 0 ≤ b ∧ b < n) (hn : a ≠ b) : Valid n (ps ++ [(a, b)]) := by
  refine ⟨?_, fun p hp => ?_⟩
  · rw [List.nodup_append]
    refine ⟨v.nd, by simp, fun x hx y hy => ?_⟩
    rw [List.mem_singleton] at hy
    subst hy
    exact fun e => h (e ▸ hx)
  · rcases List.mem_append.mp hp with hp | hp
    · exact v.ok p hp
    · rw [List.mem_singleton] at hp
      subst hp
      exact ⟨ha.1, ha.2, hb.1, hb.2, hn⟩
theorem Valid.perm {n : Int} {ps qs : List (Int × Int)} (v : Valid n ps) (h : qs.Perm ps) : Valid n qs := ⟨h.nodup_iff.mpr v.nd, fun p hp => v.ok p (h.mem_iff.mp hp)⟩
theorem nodup_rngI (lo : Int) (n : Nat) : (rngI lo n).Nodup := by
  unfold rngI
  rw [List.nodup_iff_pairwise_ne, List.pairwise_map]
  refine List.Pairwise.imp ?_ (List.nodup_iff_pairwise_ne.mp List.nodup_range)
  intro a b h e
  exact h (by omega)
/-- draws sorted with their places: an order of the places -/
theorem order_ok (X : Int → Int) (n : Nat) : ((sortE ((rngI 0 n).map fun k => (X k, k))).map (·.2)).Perm (rngI 0 n) := by
  unfold sortE
  refine ((List.mergeSort_perm _ _).map _).trans ?_
  rw [List.map_map]
  show (List.map (fun k => k) (rngI 0 n)).Perm _
  rw [List.map_id']
theorem notIn_pair (a b : Int) (ps : List (Int × Int)) : gNotIn (.tup [.int a, .int b]) (.lst (ps.map enc)) = some (.bl (!decide ((a, b) ∈ ps))) := (gNotIn_enc (a, b) ps).trans (by congr)
theorem l_web_eq (c : Int) : ∃ (n : Nat) (ps : List (Int × Int)), 2 ≤ n ∧ n ≤ 6 ∧ Valid n ps ∧ ps.length ≤ 42 ∧ fn_l_web [.int c] = .ok (.tup [.int n, .lst (ps.map enc)]) := by
  obtain ⟨xs, hl, hb, hs⟩ := l_stream_eq c 46 (by decide)
  have hs' : fn_l_stream [.int c, .int 46] = .ok (.lst (xs.map .int)) := hs
  obtain ⟨X, hX⟩ : ∃ X : Int → Int, X = fun i => xs.getD i.toNat 0 := ⟨_, rfl⟩
  have hx : ∀ i : Int, 0 ≤ i ∧ i < 46 → gIx (.lst (xs.map .int)) (.int i) = some (.int (X i)) := fun i h => by
    have h2 : i.toNat < xs.length := by omega
    exact gIx_nn h.1 (by rw [hX]; show xs[i.toNat]? = some (xs.getD i.toNat 0); rw [List.getD_eq_getElem?_getD, List.getElem?_eq_getElem h2]; rfl)
  obtain ⟨n, hn⟩ : ∃ n : Nat, (n : Int) = 2 + X 45 % 5 := ⟨(2 + X 45 % 5).toNat, by omega⟩
  have n2 : 2 ≤ n := by omega
  have n6 : n ≤ 6 := by omega
  have hrn : -(2 ^ 62) ≤ (n : Int) ∧ (n : Int) < 2 ^ 62 := by omega
  obtain ⟨or, hor⟩ : ∃ or, or = (sortE ((rngI 0 n).map fun k => (X (36 + k), k))).map (·.2) := ⟨_, rfl⟩
  have po : or.Perm (rngI 0 n) := by rw [hor]; exact order_ok (fun k => X (36 + k)) n
  have hin : lcD (uName 7) tTrue (dTup (dConsA (d2 gIx (dVar 1) (d2 gAdd (dC (.int 36)) (dVar 7))) (dConsA (dVar 7) dNilA))) [.int c, .lst (xs.map .int), .int n, .non, .non, .non, .non, .non, .non, .non, .non] (rng 0 n) = some (((rngI 0 n).map fun k => (X (36 + k), k)).map enc) := by
    rw [rng_eq]
    have q := lcD_map (en := D.int) (en' := (enc : Int × Int → D)) (u := uName 7) (t := tTrue) (f := dTup (dConsA (d2 gIx (dVar 1) (d2 gAdd (dC (.int 36)) (dVar 7))) (dConsA (dVar 7) dNilA))) (ρ := [.int c, .lst (xs.map .int), .int n, .non, .non, .non, .non, .non, .non, .non, .non]) (fun _ => true) (fun k => (X (36 + k), k)) (xs := rngI 0 n) fun k hk => by
      have hk' := mem_rngI.mp hk
      refine ⟨_, rfl, rfl, fun _ => ?_⟩
      simp only [bindS, mapS, rng_len, dSeq_ap, seqK_nx, seqK_ret, seqK_cont, seqK_brk, seqK_exc, dNext_ap, dAsg_ap, asgK_some, dRet_ap, retK_some, dIfS_ap, ifK_true, ifK_false, dDrop_ap, dropK_some, dApp_ap, appK_some, dExt_ap, extK_some, dClear_ap, clearK_some, dFor_ap, forK_some, dUnpk_ap, unpK_some, dFst_ap, fstK_some, dRaise_ap, raiK_some, runF_ap, runK_ret, runK_nx, runK_exc, runI_ap, runIK_nx, runIK_exc, dVar_ap, dC_ap, d1_ap, d2_ap, tB_ap, asB_bl, tAndF_ap, tOrF_ap, tNotF_ap, dAnd_ap, dOr_ap, dNot_ap, dIf_ap, ite_and, ite_or, ite_andD, ite_orD, dNilA_ap, dConsA_ap, dTup_ap, dLst_ap, dImm_ap, oNone_ap, oSome_ap, asI_int, dCut_ap, cutK_lst, cutK_scr, dFld_ap, fldK_obj, dCall_ap, dCallN_ap, dFun_ap, okR_ok, dFunN_ap, okRN_lst, okRN_dI, okRN_dT, dMethN_ap, dMeth_ap, isObj_obj, uName_ap, uNil_ap, uCons_ap, uTup_ap, iLst_ap, lstOf_lst, lstOf_scr, iTupD_ap, tupOf_tup, iRev_ap, iEnum_ap, iRange1_ap, rng1K_int, iRange2_ap, rng2K_int, dLc_ap, tTrue_ap, dChain_ap, seqOf_lst, seqOf_tup, seqOf_scr, gLen_lst, gLen_tup, gLen_scr, gCat_lst, gAdd_int, gSub_int, gMul_int, gMod_int, gDiv_int, gLt_int, gLe_int, gGt_int, gGe_int, gMax2_int, gMin2_int, gIsi_lst, gEq_int, gNe_int, bindS, mapS, rng_len, Int.toNat_natCast, List.getElem?_cons_zero, List.getElem?_cons_succ, List.set_cons_zero, List.set_cons_succ, List.append_nil, List.nil_append, List.cons_append, List.replicate_succ, List.replicate_zero, List.length_map, List.length_cons, List.length_nil, Bool.not_true, Bool.not_false, decide_true, decide_false, reduceIte, Bool.false_eq_true, and_true, true_and, or_true, true_or, and_self, Bool.and_true, Bool.true_and, Bool.and_false, Bool.false_and, Bool.or_false, Bool.false_or, Bool.or_true, Bool.true_or, Int.reduceLT, Int.reduceLE, Int.reducePow, Int.reduceNeg, Int.reduceAdd, Int.reduceSub, Int.reduceMul, Int.reduceToNat, Nat.reduceLT, Nat.reduceAdd, Nat.reduceLeDiff, Nat.reducePow, hx (36 + k) (by omega)]
      rfl
    rw [q, List.filter_eq_self.mpr fun _ _ => rfl]
  have hout : lcD (uTup (uCons (uName 9) (uCons (uName 7) uNil))) tTrue (dVar 7) [.int c, .lst (xs.map .int), .int n, .non, .non, .non, .non, .non, .non, .non, .non] ((sortE ((rngI 0 n).map fun k => (X (36 + k), k))).map enc) = some (or.map .int) := by
    have q := lcD_map (en := (enc : Int × Int → D)) (en' := D.int) (u := uTup (uCons (uName 9) (uCons (uName 7) uNil))) (t := tTrue) (f := dVar 7) (ρ := [.int c, .lst (xs.map .int), .int n, .non, .non, .non, .non, .non, .non, .non, .non]) (fun _ => true) (fun p => p.2) (xs := sortE ((rngI 0 n).map fun k => (X (36 + k), k))) fun p hp => ⟨_, rfl, rfl, fun _ => rfl⟩
    rw [q, List.filter_eq_self.mpr fun _ _ => rfl, hor]
  have lin : ((rngI 0 n).map fun k => (X (36 + k), k)).length = n := by rw [List.length_map, rngI_length]
  have hsort : gSort (.lst (((rngI 0 n).map fun k => (X (36 + k), k)).map enc)) = some ((sortE ((rngI 0 n).map fun k => (X (36 + k), k))).map enc) := gSort_enc _ (by rw [lin]; omega)
  have lor : or.length = n := by rw [po.length_eq, rngI_length]
  have lso : (sortE ((rngI 0 n).map fun k => (X (36 + k), k))).length = n := by
    have q := lor
    rw [hor, List.length_map] at q
    exact q
  have nor : or.Nodup := po.nodup_iff.mpr (nodup_rngI 0 n)
  have bor : ∀ x ∈ or, 0 ≤ x ∧ x < n := fun x h => by have := mem_rngI.mp (po.mem_iff.mp h); omega
  obtain ⟨O, hO⟩ : ∃ O : Nat → Int, O = fun i => or.getD i 0 := ⟨_, rfl⟩
  have gO : ∀ k : Nat, k < n → or[k]? = some (O k) := fun k h => by rw [hO]; simp [List.getD_eq_getElem?_getD, lor, h]
  have bO : ∀ k : Nat, k < n → 0 ≤ O k ∧ O k < n := fun k h => bor _ (List.mem_of_getElem? (gO k h))
  have iO : ∀ j k : Nat, j < n → k < n → O j = O k → j = k := fun j k hj hk e => by
    have h1 := gO j hj
    have h2 := gO k hk
    rw [e, ← h2] at h1
    exact (List.getElem?_inj (by rw [lor]; exact hj) nor).mp h1
  have n100 : n ≤ 100000 := by omega
  unfold fn_l_web sm_l_web
  simp only [bindS, mapS, rng_len, dSeq_ap, seqK_nx, seqK_ret, seqK_cont, seqK_brk, seqK_exc, dNext_ap, dAsg_ap, asgK_some, dRet_ap, retK_some, dIfS_ap, ifK_true, ifK_false, dDrop_ap, dropK_some, dApp_ap, appK_some, dExt_ap, extK_some, dClear_ap, clearK_some, dFor_ap, forK_some, dUnpk_ap, unpK_some, dFst_ap, fstK_some, dRaise_ap, raiK_some, runF_ap, runK_ret, runK_nx, runK_exc, runI_ap, runIK_nx, runIK_exc, dVar_ap, dC_ap, d1_ap, d2_ap, tB_ap, asB_bl, tAndF_ap, tOrF_ap, tNotF_ap, dAnd_ap, dOr_ap, dNot_ap, dIf_ap, ite_and, ite_or, ite_andD, ite_orD, dNilA_ap, dConsA_ap, dTup_ap, dLst_ap, dImm_ap, oNone_ap, oSome_ap, asI_int, dCut_ap, cutK_lst, cutK_scr, dFld_ap, fldK_obj, dCall_ap, dCallN_ap, dFun_ap, okR_ok, dFunN_ap, okRN_lst, okRN_dI, okRN_dT, dMethN_ap, dMeth_ap, isObj_obj, uName_ap, uNil_ap, uCons_ap, uTup_ap, iLst_ap, lstOf_lst, lstOf_scr, iTupD_ap, tupOf_tup, iRev_ap, iEnum_ap, iRange1_ap, rng1K_int, iRange2_ap, rng2K_int, dLc_ap, tTrue_ap, dChain_ap, seqOf_lst, seqOf_tup, seqOf_scr, gLen_lst, gLen_tup, gLen_scr, gCat_lst, gAdd_int, gSub_int, gMul_int, gMod_int, gDiv_int, gLt_int, gLe_int, gGt_int, gGe_int, gMax2_int, gMin2_int, gIsi_lst, gEq_int, gNe_int, bindS, mapS, rng_len, Int.toNat_natCast, List.getElem?_cons_zero, List.getElem?_cons_succ, List.set_cons_zero, List.set_cons_succ, List.append_nil, List.nil_append, List.cons_append, List.replicate_succ, List.replicate_zero, List.length_map, List.length_cons, List.length_nil, Bool.not_true, Bool.not_false, decide_true, decide_false, reduceIte, Bool.false_eq_true, and_true, true_and, or_true, true_or, and_self, Bool.and_true, Bool.true_and, Bool.and_false, Bool.false_and, Bool.or_false, Bool.false_or, Bool.or_true, Bool.true_or, Int.reduceLT, Int.reduceLE, Int.reducePow, Int.reduceNeg, Int.reduceAdd, Int.reduceSub, Int.reduceMul, Int.reduceToNat, Nat.reduceLT, Nat.reduceAdd, Nat.reduceLeDiff, Nat.reducePow, hs', hx 45 (by decide), ← hn, rng1K_int hrn, hin, hsort, hout, lin, lso, n100]
  -- the ring
  obtain ⟨ps1, z1, v1, l1, e1⟩ : ∃ (ps : List (Int × Int)) (z : D), Valid n ps ∧ ps.length ≤ 6 ∧
      dIfS (DL.tB (d2 gGt (d2 gMod (d2 gIx (dVar 1) (dC (.int 42))) (dC (.int 3))) (dC (.int 0)))) (dFor (iRange1 (dVar 2)) (uName 7) sb_l_web_0) dNext [.int c, .lst (xs.map .int), .int n, .lst (or.map .int), .lst [], .non, .non, .non, .non, .non, .non] =
        .nx [.int c, .lst (xs.map .int), .int n, .lst (or.map .int), .lst (ps.map enc), .non, .non, z, .non, .non, .non] := by
    simp only [bindS, mapS, rng_len, dSeq_ap, seqK_nx, seqK_ret, seqK_cont, seqK_brk, seqK_exc, dNext_ap, dAsg_ap, asgK_some, dRet_ap, retK_some, dIfS_ap, ifK_true, ifK_false, dDrop_ap, dropK_some, dApp_ap, appK_some, dExt_ap, extK_some, dClear_ap, clearK_some, dFor_ap, forK_some, dUnpk_ap, unpK_some, dFst_ap, fstK_some, dRaise_ap, raiK_some, runF_ap, runK_ret, runK_nx, runK_exc, runI_ap, runIK_nx, runIK_exc, dVar_ap, dC_ap, d1_ap, d2_ap, tB_ap, asB_bl, tAndF_ap, tOrF_ap, tNotF_ap, dAnd_ap, dOr_ap, dNot_ap, dIf_ap, ite_and, ite_or, ite_andD, ite_orD, dNilA_ap, dConsA_ap, dTup_ap, dLst_ap, dImm_ap, oNone_ap, oSome_ap, asI_int, dCut_ap, cutK_lst, cutK_scr, dFld_ap, fldK_obj, dCall_ap, dCallN_ap, dFun_ap, okR_ok, dFunN_ap, okRN_lst, okRN_dI, okRN_dT, dMethN_ap, dMeth_ap, isObj_obj, uName_ap, uNil_ap, uCons_ap, uTup_ap, iLst_ap, lstOf_lst, lstOf_scr, iTupD_ap, tupOf_tup, iRev_ap, iEnum_ap, iRange1_ap, rng1K_int, iRange2_ap, rng2K_int, dLc_ap, tTrue_ap, dChain_ap, seqOf_lst, seqOf_tup, seqOf_scr, gLen_lst, gLen_tup, gLen_scr, gCat_lst, gAdd_int, gSub_int, gMul_int, gMod_int, gDiv_int, gLt_int, gLe_int, gGt_int, gGe_int, gMax2_int, gMin2_int, gIsi_lst, gEq_int, gNe_int, bindS, mapS, rng_len, Int.toNat_natCast, List.getElem?_cons_zero, List.getElem?_cons_succ, List.set_cons_zero, List.set_cons_succ, List.append_nil, List.nil_append, List.cons_append, List.replicate_succ, List.replicate_zero, List.length_map, List.length_cons, List.length_nil, Bool.not_true, Bool.not_false, decide_true, decide_false, reduceIte, Bool.false_eq_true, and_true, true_and, or_true, true_or, and_self, Bool.and_true, Bool.true_and, Bool.and_false, Bool.false_and, Bool.or_false, Bool.false_or, Bool.or_true, Bool.true_or, Int.reduceLT, Int.reduceLE, Int.reducePow, Int.reduceNeg, Int.reduceAdd, Int.reduceSub, Int.reduceMul, Int.reduceToNat, Nat.reduceLT, Nat.reduceAdd, Nat.reduceLeDiff, Nat.reducePow, hx 42 (by decide)]
    by_cases h42 : 0 < X 42 % 3
    · rw [decide_eq_true h42]
      simp only [bindS, mapS, rng_len, dSeq_ap, seqK_nx, seqK_ret, seqK_cont, seqK_brk, seqK_exc, dNext_ap, dAsg_ap, asgK_some, dRet_ap, retK_some, dIfS_ap, ifK_true, ifK_false, dDrop_ap, dropK_some, dApp_ap, appK_some, dExt_ap, extK_some, dClear_ap, clearK_some, dFor_ap, forK_some, dUnpk_ap, unpK_some, dFst_ap, fstK_some, dRaise_ap, raiK_some, runF_ap, runK_ret, runK_nx, runK_exc, runI_ap, runIK_nx, runIK_exc, dVar_ap, dC_ap, d1_ap, d2_ap, tB_ap, asB_bl, tAndF_ap, tOrF_ap, tNotF_ap, dAnd_ap, dOr_ap, dNot_ap, dIf_ap, ite_and, ite_or, ite_andD, ite_orD, dNilA_ap, dConsA_ap, dTup_ap, dLst_ap, dImm_ap, oNone_ap, oSome_ap, asI_int, dCut_ap, cutK_lst, cutK_scr, dFld_ap, fldK_obj, dCall_ap, dCallN_ap, dFun_ap, okR_ok, dFunN_ap, okRN_lst, okRN_dI, okRN_dT, dMethN_ap, dMeth_ap, isObj_obj, uName_ap, uNil_ap, uCons_ap, uTup_ap, iLst_ap, lstOf_lst, lstOf_scr, iTupD_ap, tupOf_tup, iRev_ap, iEnum_ap, iRange1_ap, rng1K_int, iRange2_ap, rng2K_int, dLc_ap, tTrue_ap, dChain_ap, seqOf_lst, seqOf_tup, seqOf_scr, gLen_lst, gLen_tup, gLen_scr, gCat_lst, gAdd_int, gSub_int, gMul_int, gMod_int, gDiv_int, gLt_int, gLe_int, gGt_int, gGe_int, gMax2_int, gMin2_int, gIsi_lst, gEq_int, gNe_int, bindS, mapS, rng_len, Int.toNat_natCast, List.getElem?_cons_zero, List.getElem?_cons_succ, List.set_cons_zero, List.set_cons_succ, List.append_nil, List.nil_append, List.cons_append, List.replicate_succ, List.replicate_zero, List.length_map, List.length_cons, List.length_nil, Bool.not_true, Bool.not_false, decide_true, decide_false, reduceIte, Bool.false_eq_true, and_true, true_and, or_true, true_or, and_self, Bool.and_true, Bool.true_and, Bool.and_false, Bool.false_and, Bool.or_false, Bool.false_or, Bool.or_true, Bool.true_or, Int.reduceLT, Int.reduceLE, Int.reducePow, Int.reduceNeg, Int.reduceAdd, Int.reduceSub, Int.reduceMul, Int.reduceToNat, Nat.reduceLT, Nat.reduceAdd, Nat.reduceLeDiff, Nat.reducePow, rng1K_int hrn]
      obtain ⟨ρ', e, ps, z, v, hl', hm, rfl⟩ := forD_rng (u := uName 7) (F := sb_l_web_0) (lo := 0) (n := n) (ρ := [.int c, .lst (xs.map .int), .int n, .lst (or.map .int), .lst [], .non, .non, .non, .non, .non, .non])
        (fun i ρ => ∃ (ps : List (Int × Int)) (z : D), Valid n ps ∧ ps.length = i ∧ (∀ p ∈ ps, ∃ j, j < i ∧ p.2 = O j) ∧ ρ = [.int c, .lst (xs.map .int), .int n, .lst (or.map .int), .lst (ps.map enc), .non, .non, z, .non, .non, .non])
        ⟨[], .non, .nil, rfl, fun p hp => (nomatch hp), rfl⟩ fun i ρ hi ⟨ps, z, v, hl', hm, e⟩ => by
          subst e
          obtain ⟨q, hq1, hq2⟩ : ∃ q : Nat, (q < n ∧ q ≠ i) ∧ gIx (.lst (or.map .int)) (.int (0 + (i : Int) - 1)) = some (.int (O q)) := by
            by_cases h0 : i = 0
            · refine ⟨n - 1, ⟨by omega, by omega⟩, gIx_neg (by omega) (by omega) ?_⟩
              rw [← gO (n - 1) (by omega)]
              congr 1
              omega
            · refine ⟨i - 1, ⟨by omega, by omega⟩, gIx_nn (by omega) ?_⟩
              rw [← gO (i - 1) (by omega)]
              congr 1
              omega
          have hq3 : gIx (.lst (or.map .int)) (.int (0 + (i : Int))) = some (.int (O i)) := gIx_nn (by omega) (by rw [← gO i hi]; congr 1; omega)
          have hlt : (ps.map (enc : Int × Int → D)).length < 100000 := by rw [List.length_map]; omega
          refine ⟨_, _, rfl, .inl ?_, ps ++ [(O q, O i)], .int (0 + i), v.snoc (fun hc => ?_) (bO q hq1.1) (bO i hi) (fun hc => hq1.2 (iO q i hq1.1 hi hc)), by rw [List.length_append, hl']; rfl, fun p hp => ?_, rfl⟩
          · unfold sb_l_web_0
            simp only [bindS, mapS, rng_len, dSeq_ap, seqK_nx, seqK_ret, seqK_cont, seqK_brk, seqK_exc, dNext_ap, dAsg_ap, asgK_some, dRet_ap, retK_some, dIfS_ap, ifK_true, ifK_false, dDrop_ap, dropK_some, dApp_ap, appK_some, dExt_ap, extK_some, dClear_ap, clearK_some, dFor_ap, forK_some, dUnpk_ap, unpK_some, dFst_ap, fstK_some, dRaise_ap, raiK_some, runF_ap, runK_ret, runK_nx, runK_exc, runI_ap, runIK_nx, runIK_exc, dVar_ap, dC_ap, d1_ap, d2_ap, tB_ap, asB_bl, tAndF_ap, tOrF_ap, tNotF_ap, dAnd_ap, dOr_ap, dNot_ap, dIf_ap, ite_and, ite_or, ite_andD, ite_orD, dNilA_ap, dConsA_ap, dTup_ap, dLst_ap, dImm_ap, oNone_ap, oSome_ap, asI_int, dCut_ap, cutK_lst, cutK_scr, dFld_ap, fldK_obj, dCall_ap, dCallN_ap, dFun_ap, okR_ok, dFunN_ap, okRN_lst, okRN_dI, okRN_dT, dMethN_ap, dMeth_ap, isObj_obj, uName_ap, uNil_ap, uCons_ap, uTup_ap, iLst_ap, lstOf_lst, lstOf_scr, iTupD_ap, tupOf_tup, iRev_ap, iEnum_ap, iRange1_ap, rng1K_int, iRange2_ap, rng2K_int, dLc_ap, tTrue_ap, dChain_ap, seqOf_lst, seqOf_tup, seqOf_scr, gLen_lst, gLen_tup, gLen_scr, gCat_lst, gAdd_int, gSub_int, gMul_int, gMod_int, gDiv_int, gLt_int, gLe_int, gGt_int, gGe_int, gMax2_int, gMin2_int, gIsi_lst, gEq_int, gNe_int, bindS, mapS, rng_len, Int.toNat_natCast, List.getElem?_cons_zero, List.getElem?_cons_succ, List.set_cons_zero, List.set_cons_succ, List.append_nil, List.nil_append, List.cons_append, List.replicate_succ, List.replicate_zero, List.length_map, List.length_cons, List.length_nil, Bool.not_true, Bool.not_false, decide_true, decide_false, reduceIte, Bool.false_eq_true, and_true, true_and, or_true, true_or, and_self, Bool.and_true, Bool.true_and, Bool.and_false, Bool.false_and, Bool.or_false, Bool.false_or, Bool.or_true, Bool.true_or, Int.reduceLT, Int.reduceLE, Int.reducePow, Int.reduceNeg, Int.reduceAdd, Int.reduceSub, Int.reduceMul, Int.reduceToNat, Nat.reduceLT, Nat.reduceAdd, Nat.reduceLeDiff, Nat.reducePow, hq2, hq3, appK_some hlt]
            simp only [List.map_append, List.map_cons, List.map_nil, enc_pair]
          · obtain ⟨j, hj, e⟩ := hm _ hc
            have := iO i j hi (by omega) e
            omega
          · rcases List.mem_append.mp hp with hp | hp
            · obtain ⟨j, hj, e⟩ := hm p hp
              exact ⟨j, by omega, e⟩
            · rw [List.mem_singleton] at hp
              subst hp
              exact ⟨i, by omega, rfl⟩
      rw [e]
      exact ⟨ps, z, v, by omega, rfl⟩
    · rw [decide_eq_false h42]
      simp only [bindS, mapS, rng_len, dSeq_ap, seqK_nx, seqK_ret, seqK_cont, seqK_brk, seqK_exc, dNext_ap, dAsg_ap, asgK_some, dRet_ap, retK_some, dIfS_ap, ifK_true, ifK_false, dDrop_ap, dropK_some, dApp_ap, appK_some, dExt_ap, extK_some, dClear_ap, clearK_some, dFor_ap, forK_some, dUnpk_ap, unpK_some, dFst_ap, fstK_some, dRaise_ap, raiK_some, runF_ap, runK_ret, runK_nx, runK_exc, runI_ap, runIK_nx, runIK_exc, dVar_ap, dC_ap, d1_ap, d2_ap, tB_ap, asB_bl, tAndF_ap, tOrF_ap, tNotF_ap, dAnd_ap, dOr_ap, dNot_ap, dIf_ap, ite_and, ite_or, ite_andD, ite_orD, dNilA_ap, dConsA_ap, dTup_ap, dLst_ap, dImm_ap, oNone_ap, oSome_ap, asI_int, dCut_ap, cutK_lst, cutK_scr, dFld_ap, fldK_obj, dCall_ap, dCallN_ap, dFun_ap, okR_ok, dFunN_ap, okRN_lst, okRN_dI, okRN_dT, dMethN_ap, dMeth_ap, isObj_obj, uName_ap, uNil_ap, uCons_ap, uTup_ap, iLst_ap, lstOf_lst, lstOf_scr, iTupD_ap, tupOf_tup, iRev_ap, iEnum_ap, iRange1_ap, rng1K_int, iRange2_ap, rng2K_int, dLc_ap, tTrue_ap, dChain_ap, seqOf_lst, seqOf_tup, seqOf_scr, gLen_lst, gLen_tup, gLen_scr, gCat_lst, gAdd_int, gSub_int, gMul_int, gMod_int, gDiv_int, gLt_int, gLe_int, gGt_int, gGe_int, gMax2_int, gMin2_int, gIsi_lst, gEq_int, gNe_int, bindS, mapS, rng_len, Int.toNat_natCast, List.getElem?_cons_zero, List.getElem?_cons_succ, List.set_cons_zero, List.set_cons_succ, List.append_nil, List.nil_append, List.cons_append, List.replicate_succ, List.replicate_zero, List.length_map, List.length_cons, List.length_nil, Bool.not_true, Bool.not_false, decide_true, decide_false, reduceIte, Bool.false_eq_true, and_true, true_and, or_true, true_or, and_self, Bool.and_true, Bool.true_and, Bool.and_false, Bool.false_and, Bool.or_false, Bool.false_or, Bool.or_true, Bool.true_or, Int.reduceLT, Int.reduceLE, Int.reducePow, Int.reduceNeg, Int.reduceAdd, Int.reduceSub, Int.reduceMul, Int.reduceToNat, Nat.reduceLT, Nat.reduceAdd, Nat.reduceLeDiff, Nat.reducePow]
      exact ⟨[], .non, .nil, by simp, rfl⟩
  simp only [bindS, mapS, rng_len, dSeq_ap, seqK_nx, seqK_ret, seqK_cont, seqK_brk, seqK_exc, dNext_ap, dAsg_ap, asgK_some, dRet_ap, retK_some, dIfS_ap, ifK_true, ifK_false, dDrop_ap, dropK_some, dApp_ap, appK_some, dExt_ap, extK_some, dClear_ap, clearK_some, dFor_ap, forK_some, dUnpk_ap, unpK_some, dFst_ap, fstK_some, dRaise_ap, raiK_some, runF_ap, runK_ret, runK_nx, runK_exc, runI_ap, runIK_nx, runIK_exc, dVar_ap, dC_ap, d1_ap, d2_ap, tB_ap, asB_bl, tAndF_ap, tOrF_ap, tNotF_ap, dAnd_ap, dOr_ap, dNot_ap, dIf_ap, ite_and, ite_or, ite_andD, ite_orD, dNilA_ap, dConsA_ap, dTup_ap, dLst_ap, dImm_ap, oNone_ap, oSome_ap, asI_int, dCut_ap, cutK_lst, cutK_scr, dFld_ap, fldK_obj, dCall_ap, dCallN_ap, dFun_ap, okR_ok, dFunN_ap, okRN_lst, okRN_dI, okRN_dT, dMethN_ap, dMeth_ap, isObj_obj, uName_ap, uNil_ap, uCons_ap, uTup_ap, iLst_ap, lstOf_lst, lstOf_scr, iTupD_ap, tupOf_tup, iRev_ap, iEnum_ap, iRange1_ap, rng1K_int, iRange2_ap, rng2K_int, dLc_ap, tTrue_ap, dChain_ap, seqOf_lst, seqOf_tup, seqOf_scr, gLen_lst, gLen_tup, gLen_scr, gCat_lst, gAdd_int, gSub_int, gMul_int, gMod_int, gDiv_int, gLt_int, gLe_int, gGt_int, gGe_int, gMax2_int, gMin2_int, gIsi_lst, gEq_int, gNe_int, bindS, mapS, rng_len, Int.toNat_natCast, List.getElem?_cons_zero, List.getElem?_cons_succ, List.set_cons_zero, List.set_cons_succ, List.append_nil, List.nil_append, List.cons_append, List.replicate_succ, List.replicate_zero, List.length_map, List.length_cons, List.length_nil, Bool.not_true, Bool.not_false, decide_true, decide_false, reduceIte, Bool.false_eq_true, and_true, true_and, or_true, true_or, and_self, Bool.and_true, Bool.true_and, Bool.and_false, Bool.false_and, Bool.or_false, Bool.false_or, Bool.or_true, Bool.true_or, Int.reduceLT, Int.reduceLE, Int.reducePow, Int.reduceNeg, Int.reduceAdd, Int.reduceSub, Int.reduceMul, Int.reduceToNat, Nat.reduceLT, Nat.reduceAdd, Nat.reduceLeDiff, Nat.reducePow] at e1
  rw [e1]
  simp only [bindS, mapS, rng_len, dSeq_ap, seqK_nx, seqK_ret, seqK_cont, seqK_brk, seqK_exc, dNext_ap, dAsg_ap, asgK_some, dRet_ap, retK_some, dIfS_ap, ifK_true, ifK_false, dDrop_ap, dropK_some, dApp_ap, appK_some, dExt_ap, extK_some, dClear_ap, clearK_some, dFor_ap, forK_some, dUnpk_ap, unpK_some, dFst_ap, fstK_some, dRaise_ap, raiK_some, runF_ap, runK_ret, runK_nx, runK_exc, runI_ap, runIK_nx, runIK_exc, dVar_ap, dC_ap, d1_ap, d2_ap, tB_ap, asB_bl, tAndF_ap, tOrF_ap, tNotF_ap, dAnd_ap, dOr_ap, dNot_ap, dIf_ap, ite_and, ite_or, ite_andD, ite_orD, dNilA_ap, dConsA_ap, dTup_ap, dLst_ap, dImm_ap, oNone_ap, oSome_ap, asI_int, dCut_ap, cutK_lst, cutK_scr, dFld_ap, fldK_obj, dCall_ap, dCallN_ap, dFun_ap, okR_ok, dFunN_ap, okRN_lst, okRN_dI, okRN_dT, dMethN_ap, dMeth_ap, isObj_obj, uName_ap, uNil_ap, uCons_ap, uTup_ap, iLst_ap, lstOf_lst, lstOf_scr, iTupD_ap, tupOf_tup, iRev_ap, iEnum_ap, iRange1_ap, rng1K_int, iRange2_ap, rng2K_int, dLc_ap, tTrue_ap, dChain_ap, seqOf_lst, seqOf_tup, seqOf_scr, gLen_lst, gLen_tup, gLen_scr, gCat_lst, gAdd_int, gSub_int, gMul_int, gMod_int, gDiv_int, gLt_int, gLe_int, gGt_int, gGe_int, gMax2_int, gMin2_int, gIsi_lst, gEq_int, gNe_int, bindS, mapS, rng_len, Int.toNat_natCast, List.getElem?_cons_zero, List.getElem?_cons_succ, List.set_cons_zero, List.set_cons_succ, List.append_nil, List.nil_append, List.cons_append, List.replicate_succ, List.replicate_zero, List.length_map, List.length_cons, List.length_nil, Bool.not_true, Bool.not_false, decide_true, decide_false, reduceIte, Bool.false_eq_true, and_true, true_and, or_true, true_or, and_self, Bool.and_true, Bool.true_and, Bool.and_false, Bool.false_and, Bool.or_false, Bool.false_or, Bool.or_true, Bool.true_or, Int.reduceLT, Int.reduceLE, Int.reducePow, Int.reduceNeg, Int.reduceAdd, Int.reduceSub, Int.reduceMul, Int.reduceToNat, Nat.reduceLT, Nat.reduceAdd, Nat.reduceLeDiff, Nat.reducePow, rng1K_int hrn]
  -- the rest
  obtain ⟨ps2, a2, b2, c2, v2, l2, e2⟩ : ∃ (ps : List (Int × Int)) (a b d : D), Valid n ps ∧ ps.length ≤ 42 ∧
      forD (uName 5) sb_l_web_2 (rng 0 n) [.int c, .lst (xs.map .int), .int n, .lst (or.map .int), .lst (ps1.map enc), .non, .non, z1, .non, .non, .non] =
        .nx [.int c, .lst (xs.map .int), .int n, .lst (or.map .int), .lst (ps.map enc), a, .non, z1, b, .non, d] := by
    obtain ⟨ρ', e, ps, a, b, d, v, hl', rfl⟩ := forD_rng (u := uName 5) (F := sb_l_web_2) (lo := 0) (n := n) (ρ := [.int c, .lst (xs.map .int), .int n, .lst (or.map .int), .lst (ps1.map enc), .non, .non, z1, .non, .non, .non])
      (fun i ρ => ∃ (ps : List (Int × Int)) (a b d : D), Valid n ps ∧ ps.length ≤ 6 + 6 * i ∧ ρ = [.int c, .lst (xs.map .int), .int n, .lst (or.map .int), .lst (ps.map enc), a, .non, z1, b, .non, d])
      ⟨ps1, .non, .non, .non, v1, by omega, rfl⟩ fun i ρ hi ⟨ps, a, b, d, v, hl', e⟩ => by
        subst e
        obtain ⟨ρ', e, qs, b', d', w, hl2, rfl⟩ := forD_rng (u := uName 8) (F := sb_l_web_1) (lo := 0) (n := n) (ρ := [.int c, .lst (xs.map .int), .int n, .lst (or.map .int), .lst (ps.map enc), .int (0 + i), .non, z1, b, .non, d])
          (fun j ρ => ∃ (ps : List (Int × Int)) (b d : D), Valid n ps ∧ ps.length ≤ 6 + 6 * i + j ∧ ρ = [.int c, .lst (xs.map .int), .int n, .lst (or.map .int), .lst (ps.map enc), .int (0 + i), .non, z1, b, .non, d])
          ⟨ps, b, d, v, by omega, rfl⟩ fun j ρ hj ⟨ps, b, d, v, hl', e⟩ => by
            subst e
            have hlt : (ps.map (enc : Int × Int → D)).length < 100000 := by rw [List.length_map]; omega
            have h43 : 0 < 2 + X 43 % 5 := by omega
            by_cases hc : ((0 + (i : Int)) ≠ 0 + (j : Int)) ∧ (X (6 * (0 + (i : Int)) + (0 + (j : Int))) % (2 + X 43 % 5) = 0) ∧ (0 + (i : Int), 0 + (j : Int)) ∉ ps
            · refine ⟨_, _, rfl, .inl ?_, ps ++ [(0 + (i : Int), 0 + (j : Int))], .int (0 + j), .bl true, v.snoc hc.2.2 (by omega) (by omega) hc.1, by rw [List.length_append]; simp; omega, rfl⟩
              unfold sb_l_web_1
              simp only [bindS, mapS, rng_len, dSeq_ap, seqK_nx, seqK_ret, seqK_cont, seqK_brk, seqK_exc, dNext_ap, dAsg_ap, asgK_some, dRet_ap, retK_some, dIfS_ap, ifK_true, ifK_false, dDrop_ap, dropK_some, dApp_ap, appK_some, dExt_ap, extK_some, dClear_ap, clearK_some, dFor_ap, forK_some, dUnpk_ap, unpK_some, dFst_ap, fstK_some, dRaise_ap, raiK_some, runF_ap, runK_ret, runK_nx, runK_exc, runI_ap, runIK_nx, runIK_exc, dVar_ap, dC_ap, d1_ap, d2_ap, tB_ap, asB_bl, tAndF_ap, tOrF_ap, tNotF_ap, dAnd_ap, dOr_ap, dNot_ap, dIf_ap, ite_and, ite_or, ite_andD, ite_orD, dNilA_ap, dConsA_ap, dTup_ap, dLst_ap, dImm_ap, oNone_ap, oSome_ap, asI_int, dCut_ap, cutK_lst, cutK_scr, dFld_ap, fldK_obj, dCall_ap, dCallN_ap, dFun_ap, okR_ok, dFunN_ap, okRN_lst, okRN_dI, okRN_dT, dMethN_ap, dMeth_ap, isObj_obj, uName_ap, uNil_ap, uCons_ap, uTup_ap, iLst_ap, lstOf_lst, lstOf_scr, iTupD_ap, tupOf_tup, iRev_ap, iEnum_ap, iRange1_ap, rng1K_int, iRange2_ap, rng2K_int, dLc_ap, tTrue_ap, dChain_ap, seqOf_lst, seqOf_tup, seqOf_scr, gLen_lst, gLen_tup, gLen_scr, gCat_lst, gAdd_int, gSub_int, gMul_int, gMod_int, gDiv_int, gLt_int, gLe_int, gGt_int, gGe_int, gMax2_int, gMin2_int, gIsi_lst, gEq_int, gNe_int, bindS, mapS, rng_len, Int.toNat_natCast, List.getElem?_cons_zero, List.getElem?_cons_succ, List.set_cons_zero, List.set_cons_succ, List.append_nil, List.nil_append, List.cons_append, List.replicate_succ, List.replicate_zero, List.length_map, List.length_cons, List.length_nil, Bool.not_true, Bool.not_false, decide_true, decide_false, reduceIte, Bool.false_eq_true, and_true, true_and, or_true, true_or, and_self, Bool.and_true, Bool.true_and, Bool.and_false, Bool.false_and, Bool.or_false, Bool.false_or, Bool.or_true, Bool.true_or, Int.reduceLT, Int.reduceLE, Int.reducePow, Int.reduceNeg, Int.reduceAdd, Int.reduceSub, Int.reduceMul, Int.reduceToNat, Nat.reduceLT, Nat.reduceAdd, Nat.reduceLeDiff, Nat.reducePow, hx (6 * (0 + (i : Int)) + (0 + (j : Int))) (by omega), hx 43 (by decide), gMod_int h43, notIn_pair, decide_eq_true hc.2.1, decide_eq_false hc.1, decide_eq_false hc.2.2, appK_some hlt]
              simp only [List.map_append, List.map_cons, List.map_nil, enc_pair]
            · refine ⟨_, _, rfl, .inl ?_, ps, .int (0 + j), .bl (decide (X (6 * (0 + (i : Int)) + (0 + (j : Int))) % (2 + X 43 % 5) = 0)), v, by omega, rfl⟩
              unfold sb_l_web_1
              simp only [bindS, mapS, rng_len, dSeq_ap, seqK_nx, seqK_ret, seqK_cont, seqK_brk, seqK_exc, dNext_ap, dAsg_ap, asgK_some, dRet_ap, retK_some, dIfS_ap, ifK_true, ifK_false, dDrop_ap, dropK_some, dApp_ap, appK_some, dExt_ap, extK_some, dClear_ap, clearK_some, dFor_ap, forK_some, dUnpk_ap, unpK_some, dFst_ap, fstK_some, dRaise_ap, raiK_some, runF_ap, runK_ret, runK_nx, runK_exc, runI_ap, runIK_nx, runIK_exc, dVar_ap, dC_ap, d1_ap, d2_ap, tB_ap, asB_bl, tAndF_ap, tOrF_ap, tNotF_ap, dAnd_ap, dOr_ap, dNot_ap, dIf_ap, ite_and, ite_or, ite_andD, ite_orD, dNilA_ap, dConsA_ap, dTup_ap, dLst_ap, dImm_ap, oNone_ap, oSome_ap, asI_int, dCut_ap, cutK_lst, cutK_scr, dFld_ap, fldK_obj, dCall_ap, dCallN_ap, dFun_ap, okR_ok, dFunN_ap, okRN_lst, okRN_dI, okRN_dT, dMethN_ap, dMeth_ap, isObj_obj, uName_ap, uNil_ap, uCons_ap, uTup_ap, iLst_ap, lstOf_lst, lstOf_scr, iTupD_ap, tupOf_tup, iRev_ap, iEnum_ap, iRange1_ap, rng1K_int, iRange2_ap, rng2K_int, dLc_ap, tTrue_ap, dChain_ap, seqOf_lst, seqOf_tup, seqOf_scr, gLen_lst, gLen_tup, gLen_scr, gCat_lst, gAdd_int, gSub_int, gMul_int, gMod_int, gDiv_int, gLt_int, gLe_int, gGt_int, gGe_int, gMax2_int, gMin2_int, gIsi_lst, gEq_int, gNe_int, bindS, mapS, rng_len, Int.toNat_natCast, List.getElem?_cons_zero, List.getElem?_cons_succ, List.set_cons_zero, List.set_cons_succ, List.append_nil, List.nil_append, List.cons_append, List.replicate_succ, List.replicate_zero, List.length_map, List.length_cons, List.length_nil, Bool.not_true, Bool.not_false, decide_true, decide_false, reduceIte, Bool.false_eq_true, and_true, true_and, or_true, true_or, and_self, Bool.and_true, Bool.true_and, Bool.and_false, Bool.false_and, Bool.or_false, Bool.false_or, Bool.or_true, Bool.true_or, Int.reduceLT, Int.reduceLE, Int.reducePow, Int.reduceNeg, Int.reduceAdd, Int.reduceSub, Int.reduceMul, Int.reduceToNat, Nat.reduceLT, Nat.reduceAdd, Nat.reduceLeDiff, Nat.reducePow, hx (6 * (0 + (i : Int)) + (0 + (j : Int))) (by omega), hx 43 (by decide), gMod_int h43, notIn_pair]
              have hf : (!decide ((0 + (i : Int)) = 0 + (j : Int)) && (decide (X (6 * (0 + (i : Int)) + (0 + (j : Int))) % (2 + X 43 % 5) = 0) && !decide ((0 + (i : Int), 0 + (j : Int)) ∈ ps))) = false := by
                cases hh : (!decide ((0 + (i : Int)) = 0 + (j : Int)) && (decide (X (6 * (0 + (i : Int)) + (0 + (j : Int))) % (2 + X 43 % 5) = 0) && !decide ((0 + (i : Int), 0 + (j : Int)) ∈ ps))) with
                | false => rfl
                | true =>
                  simp only [Bool.and_eq_true, Bool.not_eq_true', decide_eq_true_eq, decide_eq_false_iff_not] at hh
                  exact absurd hh hc
              rw [hf]
              simp only [bindS, mapS, rng_len, dSeq_ap, seqK_nx, seqK_ret, seqK_cont, seqK_brk, seqK_exc, dNext_ap, dAsg_ap, asgK_some, dRet_ap, retK_some, dIfS_ap, ifK_true, ifK_false, dDrop_ap, dropK_some, dApp_ap, appK_some, dExt_ap, extK_some, dClear_ap, clearK_some, dFor_ap, forK_some, dUnpk_ap, unpK_some, dFst_ap, fstK_some, dRaise_ap, raiK_some, runF_ap, runK_ret, runK_nx, runK_exc, runI_ap, runIK_nx, runIK_exc, dVar_ap, dC_ap, d1_ap, d2_ap, tB_ap, asB_bl, tAndF_ap, tOrF_ap, tNotF_ap, dAnd_ap, dOr_ap, dNot_ap, dIf_ap, ite_and, ite_or, ite_andD, ite_orD, dNilA_ap, dConsA_ap, dTup_ap, dLst_ap, dImm_ap, oNone_ap, oSome_ap, asI_int, dCut_ap, cutK_lst, cutK_scr, dFld_ap, fldK_obj, dCall_ap, dCallN_ap, dFun_ap, okR_ok, dFunN_ap, okRN_lst, okRN_dI, okRN_dT, dMethN_ap, dMeth_ap, isObj_obj, uName_ap, uNil_ap, uCons_ap, uTup_ap, iLst_ap, lstOf_lst, lstOf_scr, iTupD_ap, tupOf_tup, iRev_ap, iEnum_ap, iRange1_ap, rng1K_int, iRange2_ap, rng2K_int, dLc_ap, tTrue_ap, dChain_ap, seqOf_lst, seqOf_tup, seqOf_scr, gLen_lst, gLen_tup, gLen_scr, gCat_lst, gAdd_int, gSub_int, gMul_int, gMod_int, gDiv_int, gLt_int, gLe_int, gGt_int, gGe_int, gMax2_int, gMin2_int, gIsi_lst, gEq_int, gNe_int, bindS, mapS, rng_len, Int.toNat_natCast, List.getElem?_cons_zero, List.getElem?_cons_succ, List.set_cons_zero, List.set_cons_succ, List.append_nil, List.nil_append, List.cons_append, List.replicate_succ, List.replicate_zero, List.length_map, List.length_cons, List.length_nil, Bool.not_true, Bool.not_false, decide_true, decide_false, reduceIte, Bool.false_eq_true, and_true, true_and, or_true, true_or, and_self, Bool.and_true, Bool.true_and, Bool.and_false, Bool.false_and, Bool.or_false, Bool.false_or, Bool.or_true, Bool.true_or, Int.reduceLT, Int.reduceLE, Int.reducePow, Int.reduceNeg, Int.reduceAdd, Int.reduceSub, Int.reduceMul, Int.reduceToNat, Nat.reduceLT, Nat.reduceAdd, Nat.reduceLeDiff, Nat.reducePow]
        refine ⟨_, _, rfl, .inl ?_, qs, .int (0 + i), b', d', w, by omega, rfl⟩
        unfold sb_l_web_2
        simp only [bindS, mapS, rng_len, dSeq_ap, seqK_nx, seqK_ret, seqK_cont, seqK_brk, seqK_exc, dNext_ap, dAsg_ap, asgK_some, dRet_ap, retK_some, dIfS_ap, ifK_true, ifK_false, dDrop_ap, dropK_some, dApp_ap, appK_some, dExt_ap, extK_some, dClear_ap, clearK_some, dFor_ap, forK_some, dUnpk_ap, unpK_some, dFst_ap, fstK_some, dRaise_ap, raiK_some, runF_ap, runK_ret, runK_nx, runK_exc, runI_ap, runIK_nx, runIK_exc, dVar_ap, dC_ap, d1_ap, d2_ap, tB_ap, asB_bl, tAndF_ap, tOrF_ap, tNotF_ap, dAnd_ap, dOr_ap, dNot_ap, dIf_ap, ite_and, ite_or, ite_andD, ite_orD, dNilA_ap, dConsA_ap, dTup_ap, dLst_ap, dImm_ap, oNone_ap, oSome_ap, asI_int, dCut_ap, cutK_lst, cutK_scr, dFld_ap, fldK_obj, dCall_ap, dCallN_ap, dFun_ap, okR_ok, dFunN_ap, okRN_lst, okRN_dI, okRN_dT, dMethN_ap, dMeth_ap, isObj_obj, uName_ap, uNil_ap, uCons_ap, uTup_ap, iLst_ap, lstOf_lst, lstOf_scr, iTupD_ap, tupOf_tup, iRev_ap, iEnum_ap, iRange1_ap, rng1K_int, iRange2_ap, rng2K_int, dLc_ap, tTrue_ap, dChain_ap, seqOf_lst, seqOf_tup, seqOf_scr, gLen_lst, gLen_tup, gLen_scr, gCat_lst, gAdd_int, gSub_int, gMul_int, gMod_int, gDiv_int, gLt_int, gLe_int, gGt_int, gGe_int, gMax2_int, gMin2_int, gIsi_lst, gEq_int, gNe_int, bindS, mapS, rng_len, Int.toNat_natCast, List.getElem?_cons_zero, List.getElem?_cons_succ, List.set_cons_zero, List.set_cons_succ, List.append_nil, List.nil_append, List.cons_append, List.replicate_succ, List.replicate_zero, List.length_map, List.length_cons, List.length_nil, Bool.not_true, Bool.not_false, decide_true, decide_false, reduceIte, Bool.false_eq_true, and_true, true_and, or_true, true_or, and_self, Bool.and_true, Bool.true_and, Bool.and_false, Bool.false_and, Bool.or_false, Bool.false_or, Bool.or_true, Bool.true_or, Int.reduceLT, Int.reduceLE, Int.reducePow, Int.reduceNeg, Int.reduceAdd, Int.reduceSub, Int.reduceMul, Int.reduceToNat, Nat.reduceLT, Nat.reduceAdd, Nat.reduceLeDiff, Nat.reducePow, rng1K_int hrn]
        exact e
    exact ⟨ps, a, b, d, v, by omega, e⟩
  have hcut : 0 < (ps2.length : Int) + 1 := by omega
  have hcp : 0 ≤ X 44 % ((ps2.length : Int) + 1) := Int.emod_nonneg _ (by omega)
  refine ⟨n, ps2.drop (X 44 % ((ps2.length : Int) + 1)).toNat ++ ps2.take (X 44 % ((ps2.length : Int) + 1)).toNat, n2, n6, v2.perm ?_, ?_, ?_⟩
  · refine List.perm_append_comm.trans ?_
    rw [List.take_append_drop]
  · rw [List.length_append, List.length_drop, List.length_take]
    omega
  · have hcat : ((ps2.drop (X 44 % ((ps2.length : Int) + 1)).toNat).map (enc : Int × Int → D)).length + ((ps2.take (X 44 % ((ps2.length : Int) + 1)).toNat).map (enc : Int × Int → D)).length ≤ 100000 := by
      rw [List.length_map, List.length_map, List.length_drop, List.length_take]
      omega
    simp only [bindS, mapS, rng_len, dSeq_ap, seqK_nx, seqK_ret, seqK_cont, seqK_brk, seqK_exc, dNext_ap, dAsg_ap, asgK_some, dRet_ap, retK_some, dIfS_ap, ifK_true, ifK_false, dDrop_ap, dropK_some, dApp_ap, appK_some, dExt_ap, extK_some, dClear_ap, clearK_some, dFor_ap, forK_some, dUnpk_ap, unpK_some, dFst_ap, fstK_some, dRaise_ap, raiK_some, runF_ap, runK_ret, runK_nx, runK_exc, runI_ap, runIK_nx, runIK_exc, dVar_ap, dC_ap, d1_ap, d2_ap, tB_ap, asB_bl, tAndF_ap, tOrF_ap, tNotF_ap, dAnd_ap, dOr_ap, dNot_ap, dIf_ap, ite_and, ite_or, ite_andD, ite_orD, dNilA_ap, dConsA_ap, dTup_ap, dLst_ap, dImm_ap, oNone_ap, oSome_ap, asI_int, dCut_ap, cutK_lst, cutK_scr, dFld_ap, fldK_obj, dCall_ap, dCallN_ap, dFun_ap, okR_ok, dFunN_ap, okRN_lst, okRN_dI, okRN_dT, dMethN_ap, dMeth_ap, isObj_obj, uName_ap, uNil_ap, uCons_ap, uTup_ap, iLst_ap, lstOf_lst, lstOf_scr, iTupD_ap, tupOf_tup, iRev_ap, iEnum_ap, iRange1_ap, rng1K_int, iRange2_ap, rng2K_int, dLc_ap, tTrue_ap, dChain_ap, seqOf_lst, seqOf_tup, seqOf_scr, gLen_lst, gLen_tup, gLen_scr, gCat_lst, gAdd_int, gSub_int, gMul_int, gMod_int, gDiv_int, gLt_int, gLe_int, gGt_int, gGe_int, gMax2_int, gMin2_int, gIsi_lst, gEq_int, gNe_int, bindS, mapS, rng_len, Int.toNat_natCast, List.getElem?_cons_zero, List.getElem?_cons_succ, List.set_cons_zero, List.set_cons_succ, List.append_nil, List.nil_append, List.cons_append, List.replicate_succ, List.replicate_zero, List.length_map, List.length_cons, List.length_nil, Bool.not_true, Bool.not_false, decide_true, decide_false, reduceIte, Bool.false_eq_true, and_true, true_and, or_true, true_or, and_self, Bool.and_true, Bool.true_and, Bool.and_false, Bool.false_and, Bool.or_false, Bool.false_or, Bool.or_true, Bool.true_or, Int.reduceLT, Int.reduceLE, Int.reducePow, Int.reduceNeg, Int.reduceAdd, Int.reduceSub, Int.reduceMul, Int.reduceToNat, Nat.reduceLT, Nat.reduceAdd, Nat.reduceLeDiff, Nat.reducePow, e2, hx 44 (by decide), gMod_int hcut, cut_lo hcp, cut_hi hcp, gCat_lst hcat, List.map_append]

theorem is_passing_eq (n a b : Int) : fn_is_passing [.int n, .tup [.int a, .int b]] = .ok (.bl ((decide (0 ≤ a) && decide (a < n)) && ((decide (0 ≤ b) && decide (b < n)) && !decide (a = b)))) := by
  unfold fn_is_passing sm_is_passing
  simp only [bindS, mapS, rng_len, dSeq_ap, seqK_nx, seqK_ret, seqK_cont, seqK_brk, seqK_exc, dNext_ap, dAsg_ap, asgK_some, dRet_ap, retK_some, dIfS_ap, ifK_true, ifK_false, dDrop_ap, dropK_some, dApp_ap, appK_some, dExt_ap, extK_some, dClear_ap, clearK_some, dFor_ap, forK_some, dUnpk_ap, unpK_some, dFst_ap, fstK_some, dRaise_ap, raiK_some, runF_ap, runK_ret, runK_nx, runK_exc, runI_ap, runIK_nx, runIK_exc, dVar_ap, dC_ap, d1_ap, d2_ap, tB_ap, asB_bl, tAndF_ap, tOrF_ap, tNotF_ap, dAnd_ap, dOr_ap, dNot_ap, dIf_ap, ite_and, ite_or, ite_andD, ite_orD, dNilA_ap, dConsA_ap, dTup_ap, dLst_ap, dImm_ap, oNone_ap, oSome_ap, asI_int, dCut_ap, cutK_lst, cutK_scr, dFld_ap, fldK_obj, dCall_ap, dCallN_ap, dFun_ap, okR_ok, dFunN_ap, okRN_lst, okRN_dI, okRN_dT, dMethN_ap, dMeth_ap, isObj_obj, uName_ap, uNil_ap, uCons_ap, uTup_ap, iLst_ap, lstOf_lst, lstOf_scr, iTupD_ap, tupOf_tup, iRev_ap, iEnum_ap, iRange1_ap, rng1K_int, iRange2_ap, rng2K_int, dLc_ap, tTrue_ap, dChain_ap, seqOf_lst, seqOf_tup, seqOf_scr, gLen_lst, gLen_tup, gLen_scr, gCat_lst, gAdd_int, gSub_int, gMul_int, gMod_int, gDiv_int, gLt_int, gLe_int, gGt_int, gGe_int, gMax2_int, gMin2_int, gIsi_lst, gEq_int, gNe_int, bindS, mapS, rng_len, Int.toNat_natCast, List.getElem?_cons_zero, List.getElem?_cons_succ, List.set_cons_zero, List.set_cons_succ, List.append_nil, List.nil_append, List.cons_append, List.replicate_succ, List.replicate_zero, List.length_map, List.length_cons, List.length_nil, Bool.not_true, Bool.not_false, decide_true, decide_false, reduceIte, Bool.false_eq_true, and_true, true_and, or_true, true_or, and_self, Bool.and_true, Bool.true_and, Bool.and_false, Bool.false_and, Bool.or_false, Bool.false_or, Bool.or_true, Bool.true_or, Int.reduceLT, Int.reduceLE, Int.reducePow, Int.reduceNeg, Int.reduceAdd, Int.reduceSub, Int.reduceMul, Int.reduceToNat, Nat.reduceLT, Nat.reduceAdd, Nat.reduceLeDiff, Nat.reducePow, gLe_int, gLt_int, ite_andD]
theorem passing_ok {n : Int} {ps : List (Int × Int)} (v : Valid n ps) {p : Int × Int} (h : p ∈ ps) : fn_is_passing [.int n, enc p] = .ok (.bl true) := by
  obtain ⟨a, b⟩ := p
  obtain ⟨h1, h2, h3, h4, h5⟩ := v.ok _ h
  rw [enc_pair, is_passing_eq, decide_eq_true h1, decide_eq_true h2, decide_eq_true h3, decide_eq_true h4, decide_eq_false h5]
  rfl
theorem in_pair (p : Int × Int) (ps : List (Int × Int)) : gIn (enc p) (.lst (ps.map enc)) = some (.bl (decide (p ∈ ps))) := (gIn_enc p ps).trans (by congr)
def webD (n : Int) (ps : List (Int × Int)) : D := .obj .Web [.int n, .lst ((sortE ps).map enc)]
theorem Web_init_eq {n : Nat} {ps : List (Int × Int)} (h2 : 2 ≤ n) (h6 : n ≤ 6) (v : Valid n ps) (hl : ps.length ≤ 100000) : fn_Web_init [.int n, .lst (ps.map enc)] = .ok (webD n ps) := by
  have g2 : (2 : Int) ≤ n := by omega
  have g6 : (n : Int) ≤ 6 := by omega
  unfold fn_Web_init sm_Web_init
  simp only [bindS, mapS, rng_len, dSeq_ap, seqK_nx, seqK_ret, seqK_cont, seqK_brk, seqK_exc, dNext_ap, dAsg_ap, asgK_some, dRet_ap, retK_some, dIfS_ap, ifK_true, ifK_false, dDrop_ap, dropK_some, dApp_ap, appK_some, dExt_ap, extK_some, dClear_ap, clearK_some, dFor_ap, forK_some, dUnpk_ap, unpK_some, dFst_ap, fstK_some, dRaise_ap, raiK_some, runF_ap, runK_ret, runK_nx, runK_exc, runI_ap, runIK_nx, runIK_exc, dVar_ap, dC_ap, d1_ap, d2_ap, tB_ap, asB_bl, tAndF_ap, tOrF_ap, tNotF_ap, dAnd_ap, dOr_ap, dNot_ap, dIf_ap, ite_and, ite_or, ite_andD, ite_orD, dNilA_ap, dConsA_ap, dTup_ap, dLst_ap, dImm_ap, oNone_ap, oSome_ap, asI_int, dCut_ap, cutK_lst, cutK_scr, dFld_ap, fldK_obj, dCall_ap, dCallN_ap, dFun_ap, okR_ok, dFunN_ap, okRN_lst, okRN_dI, okRN_dT, dMethN_ap, dMeth_ap, isObj_obj, uName_ap, uNil_ap, uCons_ap, uTup_ap, iLst_ap, lstOf_lst, lstOf_scr, iTupD_ap, tupOf_tup, iRev_ap, iEnum_ap, iRange1_ap, rng1K_int, iRange2_ap, rng2K_int, dLc_ap, tTrue_ap, dChain_ap, seqOf_lst, seqOf_tup, seqOf_scr, gLen_lst, gLen_tup, gLen_scr, gCat_lst, gAdd_int, gSub_int, gMul_int, gMod_int, gDiv_int, gLt_int, gLe_int, gGt_int, gGe_int, gMax2_int, gMin2_int, gIsi_lst, gEq_int, gNe_int, bindS, mapS, rng_len, Int.toNat_natCast, List.getElem?_cons_zero, List.getElem?_cons_succ, List.set_cons_zero, List.set_cons_succ, List.append_nil, List.nil_append, List.cons_append, List.replicate_succ, List.replicate_zero, List.length_map, List.length_cons, List.length_nil, Bool.not_true, Bool.not_false, decide_true, decide_false, reduceIte, Bool.false_eq_true, and_true, true_and, or_true, true_or, and_self, Bool.and_true, Bool.true_and, Bool.and_false, Bool.false_and, Bool.or_false, Bool.false_or, Bool.or_true, Bool.true_or, Int.reduceLT, Int.reduceLE, Int.reducePow, Int.reduceNeg, Int.reduceAdd, Int.reduceSub, Int.reduceMul, Int.reduceToNat, Nat.reduceLT, Nat.reduceAdd, Nat.reduceLeDiff, Nat.reducePow, decide_eq_true g2, decide_eq_true g6]
  obtain ⟨ρ', e, z, z', rfl⟩ := forD_enum (en := (enc : Int × Int → D)) (u := uTup (uCons (uName 3) (uCons (uName 4) uNil))) (F := sb_Web_init_0) (xs := ps) (ρ := [.obj .Web [], .int n, .lst (ps.map enc), .non, .non])
    (fun i ρ => ∃ z z' : D, ρ = [.obj .Web [], .int n, .lst (ps.map enc), z, z']) ⟨_, _, rfl⟩ fun i p ρ hp ⟨z, z', e⟩ => by
      subst e
      have hm : p ∈ ps := List.mem_of_getElem? hp
      have hnt : p ∉ ps.take i := fun hc => by
        obtain ⟨j, hj, ej⟩ := List.mem_iff_getElem.mp hc
        rw [List.length_take] at hj
        rw [List.getElem_take] at ej
        have e2 : ps[j]? = some p := by rw [List.getElem?_eq_getElem (by omega), ej]
        rw [← hp] at e2
        have := (List.getElem?_inj (by omega) v.nd).mp e2
        omega
      refine ⟨_, _, rfl, .inl ?_, .int i, enc p, rfl⟩
      unfold sb_Web_init_0
      simp only [bindS, mapS, rng_len, dSeq_ap, seqK_nx, seqK_ret, seqK_cont, seqK_brk, seqK_exc, dNext_ap, dAsg_ap, asgK_some, dRet_ap, retK_some, dIfS_ap, ifK_true, ifK_false, dDrop_ap, dropK_some, dApp_ap, appK_some, dExt_ap, extK_some, dClear_ap, clearK_some, dFor_ap, forK_some, dUnpk_ap, unpK_some, dFst_ap, fstK_some, dRaise_ap, raiK_some, runF_ap, runK_ret, runK_nx, runK_exc, runI_ap, runIK_nx, runIK_exc, dVar_ap, dC_ap, d1_ap, d2_ap, tB_ap, asB_bl, tAndF_ap, tOrF_ap, tNotF_ap, dAnd_ap, dOr_ap, dNot_ap, dIf_ap, ite_and, ite_or, ite_andD, ite_orD, dNilA_ap, dConsA_ap, dTup_ap, dLst_ap, dImm_ap, oNone_ap, oSome_ap, asI_int, dCut_ap, cutK_lst, cutK_scr, dFld_ap, fldK_obj, dCall_ap, dCallN_ap, dFun_ap, okR_ok, dFunN_ap, okRN_lst, okRN_dI, okRN_dT, dMethN_ap, dMeth_ap, isObj_obj, uName_ap, uNil_ap, uCons_ap, uTup_ap, iLst_ap, lstOf_lst, lstOf_scr, iTupD_ap, tupOf_tup, iRev_ap, iEnum_ap, iRange1_ap, rng1K_int, iRange2_ap, rng2K_int, dLc_ap, tTrue_ap, dChain_ap, seqOf_lst, seqOf_tup, seqOf_scr, gLen_lst, gLen_tup, gLen_scr, gCat_lst, gAdd_int, gSub_int, gMul_int, gMod_int, gDiv_int, gLt_int, gLe_int, gGt_int, gGe_int, gMax2_int, gMin2_int, gIsi_lst, gEq_int, gNe_int, bindS, mapS, rng_len, Int.toNat_natCast, List.getElem?_cons_zero, List.getElem?_cons_succ, List.set_cons_zero, List.set_cons_succ, List.append_nil, List.nil_append, List.cons_append, List.replicate_succ, List.replicate_zero, List.length_map, List.length_cons, List.length_nil, Bool.not_true, Bool.not_false, decide_true, decide_false, reduceIte, Bool.false_eq_true, and_true, true_and, or_true, true_or, and_self, Bool.and_true, Bool.true_and, Bool.and_false, Bool.false_and, Bool.or_false, Bool.false_or, Bool.or_true, Bool.true_or, Int.reduceLT, Int.reduceLE, Int.reducePow, Int.reduceNeg, Int.reduceAdd, Int.reduceSub, Int.reduceMul, Int.reduceToNat, Nat.reduceLT, Nat.reduceAdd, Nat.reduceLeDiff, Nat.reducePow, passing_ok v hm, cut_lo (Int.natCast_nonneg i), in_pair, decide_eq_false hnt]
  rw [e]
  have hs : gSort (.lst (ps.map enc)) = some ((sortE ps).map enc) := gSort_enc ps hl
  simp only [bindS, mapS, rng_len, dSeq_ap, seqK_nx, seqK_ret, seqK_cont, seqK_brk, seqK_exc, dNext_ap, dAsg_ap, asgK_some, dRet_ap, retK_some, dIfS_ap, ifK_true, ifK_false, dDrop_ap, dropK_some, dApp_ap, appK_some, dExt_ap, extK_some, dClear_ap, clearK_some, dFor_ap, forK_some, dUnpk_ap, unpK_some, dFst_ap, fstK_some, dRaise_ap, raiK_some, runF_ap, runK_ret, runK_nx, runK_exc, runI_ap, runIK_nx, runIK_exc, dVar_ap, dC_ap, d1_ap, d2_ap, tB_ap, asB_bl, tAndF_ap, tOrF_ap, tNotF_ap, dAnd_ap, dOr_ap, dNot_ap, dIf_ap, ite_and, ite_or, ite_andD, ite_orD, dNilA_ap, dConsA_ap, dTup_ap, dLst_ap, dImm_ap, oNone_ap, oSome_ap, asI_int, dCut_ap, cutK_lst, cutK_scr, dFld_ap, fldK_obj, dCall_ap, dCallN_ap, dFun_ap, okR_ok, dFunN_ap, okRN_lst, okRN_dI, okRN_dT, dMethN_ap, dMeth_ap, isObj_obj, uName_ap, uNil_ap, uCons_ap, uTup_ap, iLst_ap, lstOf_lst, lstOf_scr, iTupD_ap, tupOf_tup, iRev_ap, iEnum_ap, iRange1_ap, rng1K_int, iRange2_ap, rng2K_int, dLc_ap, tTrue_ap, dChain_ap, seqOf_lst, seqOf_tup, seqOf_scr, gLen_lst, gLen_tup, gLen_scr, gCat_lst, gAdd_int, gSub_int, gMul_int, gMod_int, gDiv_int, gLt_int, gLe_int, gGt_int, gGe_int, gMax2_int, gMin2_int, gIsi_lst, gEq_int, gNe_int, bindS, mapS, rng_len, Int.toNat_natCast, List.getElem?_cons_zero, List.getElem?_cons_succ, List.set_cons_zero, List.set_cons_succ, List.append_nil, List.nil_append, List.cons_append, List.replicate_succ, List.replicate_zero, List.length_map, List.length_cons, List.length_nil, Bool.not_true, Bool.not_false, decide_true, decide_false, reduceIte, Bool.false_eq_true, and_true, true_and, or_true, true_or, and_self, Bool.and_true, Bool.true_and, Bool.and_false, Bool.false_and, Bool.or_false, Bool.false_or, Bool.or_true, Bool.true_or, Int.reduceLT, Int.reduceLE, Int.reducePow, Int.reduceNeg, Int.reduceAdd, Int.reduceSub, Int.reduceMul, Int.reduceToNat, Nat.reduceLT, Nat.reduceAdd, Nat.reduceLeDiff, Nat.reducePow, hs, fstK_some]
  rfl
theorem le_pair {p q : Int × Int} (h : (EncS.le p q : Bool) = true) : p.1 < q.1 ∨ (p.1 = q.1 ∧ p.2 ≤ q.2) := by
  have h' : leP p q = true := h
  unfold leP at h'
  simpa using h'
theorem givers_sorted (ps : List (Int × Int)) (h : Int) : ((sortE ps).filter fun p => decide (p.2 = h)).map (·.1) = sortE ((ps.filter fun p => decide (p.2 = h)).map (·.1)) := by
  refine sortE_of anti_int ?_ (((sortE_perm ps).filter _).map _)
  rw [List.pairwise_map, List.pairwise_filter]
  refine (sortE_pw ps).imp fun {a b} hab ha hb => ?_
  have := le_pair hab
  have ha' := of_decide_eq_true ha
  have hb' := of_decide_eq_true hb
  exact decide_eq_true (by omega)
theorem takers_sorted (ps : List (Int × Int)) (h : Int) : ((sortE ps).filter fun p => decide (p.1 = h)).map (·.2) = sortE ((ps.filter fun p => decide (p.1 = h)).map (·.2)) := by
  refine sortE_of anti_int ?_ (((sortE_perm ps).filter _).map _)
  rw [List.pairwise_map, List.pairwise_filter]
  refine (sortE_pw ps).imp fun {a b} hab ha hb => ?_
  have := le_pair hab
  have ha' := of_decide_eq_true ha
  have hb' := of_decide_eq_true hb
  exact decide_eq_true (by omega)

theorem nodup_len : ∀ {xs ys : List Int}, xs.Nodup → (∀ x ∈ xs, x ∈ ys) → xs.length ≤ ys.length
  | [], _, _, _ => Nat.zero_le _
  | x :: xs, ys, h, s => by
    obtain ⟨h1, h2⟩ := List.nodup_cons.mp h
    have hx := s x (.head _)
    have := nodup_len (ys := ys.erase x) h2 fun y hy => (List.mem_erase_of_ne (fun e => h1 (by rw [← e]; exact hy))).mpr (s y (.tail _ hy))
    rw [List.length_erase_of_mem hx] at this
    have : 0 < ys.length := List.length_pos_of_mem hx
    rw [List.length_cons]
    omega
theorem nodup_rng {xs : List Int} {n : Nat} (h : xs.Nodup) (b : ∀ x ∈ xs, 0 ≤ x ∧ x < n) : xs.length ≤ n := by
  have := nodup_len (ys := rngI 0 n) h fun x hx => mem_rngI.mpr (by have := b x hx; omega)
  rwa [rngI_length] at this

def lastI (c : List Int) : Int := c.getLast?.getD 0
theorem lastI_snoc (c : List Int) (t : Int) : lastI (c ++ [t]) = t := by
  unfold lastI
  rw [List.getLast?_concat]
  rfl

/-- a tuple of ints -/
def encT (c : List Int) : D := .tup (c.map .int)
theorem gd_encT (c : List Int) : gd 1 (encT c) = true := by
  unfold encT gd
  rw [List.all_eq_true]
  intro x hx
  obtain ⟨y, _, rfl⟩ := List.mem_map.mp hx
  rfl
theorem encT_inj {a b : List Int} (h : encT a = encT b) : a = b := map_inj (fun x y h => D.int.inj h) (D.tup.inj h)
theorem in_tup (x : Int) (ns : List Int) : gIn (.int x) (encT ns) = some (.bl (decide (x ∈ ns))) := in_int x ns
theorem notIn_tup (x : Int) (ns : List Int) : gNotIn (.int x) (encT ns) = some (.bl (!decide (x ∈ ns))) := notIn_int x ns
theorem ne_tups (cs : List (List Int)) : gNe (.lst (cs.map encT)) (.lst []) = some (.bl (!decide (cs = []))) := by
  have g1 : gd 2 (.lst (cs.map encT)) = true := by
    unfold gd
    rw [List.all_eq_true]
    intro x hx
    obtain ⟨y, _, rfl⟩ := List.mem_map.mp hx
    exact gd_encT y
  have g2 : gd 2 (.lst []) = true := by
    unfold gd
    rfl
  have h := gd_deq g1 g2
  unfold gNe
  rw [if_pos (okEq_gd g1 g2 (by decide))]
  unfold deq
  cases cs with
  | nil => rw [h.mpr rfl]; rfl
  | cons c cs =>
    cases q : PyData.eqv (toP (.lst ((c :: cs).map encT))) (toP (.lst [])) with
    | false => rfl
    | true => exact nomatch (D.lst.inj (h.mp q))
theorem gIx_tnn {c : List Int} {i : Int} {x : Int} (h : 0 ≤ i) (hx : c[i.toNat]? = some x) : gIx (encT c) (.int i) = some (.int x) := gIx_nn (en := D.int) h hx
theorem gIx_tlast {c : List Int} (h : c ≠ []) : gIx (encT c) (.int (-1)) = some (.int (lastI c)) := by
  have hl : 0 < c.length := List.length_pos_iff.mpr h
  refine gIx_neg (en := D.int) (xs := c) (by omega) (by omega) ?_
  unfold lastI
  rw [List.getLast?_eq_getElem?, show (-1 + (c.length : Int)).toNat = c.length - 1 by omega, List.getElem?_eq_getElem (by omega)]
  rfl
theorem gNeg_int {a : Int} : gNeg (.int a) = some (.int (-a)) := (rfl)
theorem gCatT_tup {ds es : List D} (h : ds.length + es.length ≤ 100000) : gCatT (.tup ds) (.tup es) = some (.tup (ds ++ es)) := by
  unfold gCatT
  first | exact if_pos h | simp [h]
theorem gLen_encT (c : List Int) : gLen [encT c] = some (.int c.length) := by
  unfold encT
  rw [gLen_tup, List.length_map]

theorem gIsi_tup (c : List Int) : gIsi "tuple" (encT c) = some (.bl true) := by
  show (kitB "tuple" "tuple").map D.bl = _
  rfl
theorem gIsi_bool_int (i : Int) : gIsi "bool" (.int i) = some (.bl false) := by
  show (kitB "int" "bool").map D.bl = _
  rfl

theorem gEq_self {n : Nat} {a : D} (h : gd n a = true) (hn : n ≤ 60) : gEq a a = some (.bl true) := by
  unfold gEq deq
  rw [if_pos (okEq_gd h h hn), (gd_deq h h).mpr rfl]
theorem gNe_self {n : Nat} {a : D} (h : gd n a = true) (hn : n ≤ 60) : gNe a a = some (.bl false) := by
  unfold gNe deq
  rw [if_pos (okEq_gd h h hn), (gd_deq h h).mpr rfl]
  rfl

structure Tp where
  v : List Int
  deriving DecidableEq
instance : Enc Tp := ⟨fun t => encT t.v, 1, fun t => gd_encT t.v, fun x y h => by
  have := encT_inj h
  cases x
  cases y
  simp_all, by decide⟩
theorem tups_enc (cs : List (List Int)) : cs.map encT = (cs.map Tp.mk).map enc := by
  rw [List.map_map]
  rfl
theorem mem_tp {c : List Int} {cs : List (List Int)} : Tp.mk c ∈ cs.map Tp.mk ↔ c ∈ cs := by
  rw [List.mem_map]
  constructor
  · rintro ⟨d, h, e⟩
    cases e
    exact h
  · intro h
    exact ⟨c, h, rfl⟩
theorem notIn_tups (c : List Int) (cs : List (List Int)) : gNotIn (encT c) (.lst (cs.map encT)) = some (.bl (!decide (c ∈ cs))) := by
  rw [tups_enc]
  have h := gNotIn_enc (Tp.mk c) (cs.map Tp.mk)
  have h2 : gNotIn (encT c) (.lst ((cs.map Tp.mk).map enc)) = some (.bl (!decide (Tp.mk c ∈ cs.map Tp.mk))) := h
  rw [h2]
  congr 3
  exact decide_eq_decide.mpr mem_tp
theorem ne_tup0 (c : List Int) : gNe (encT c) (.tup []) = some (.bl (!decide (c = []))) := by
  have h := gNe_enc (Tp.mk c) (Tp.mk [])
  have h2 : gNe (encT c) (.tup []) = some (.bl (!decide (Tp.mk c = Tp.mk []))) := h
  rw [h2]
  congr 3
  exact decide_eq_decide.mpr ⟨fun e => by cases e; rfl, fun e => by rw [e]⟩
theorem gEq_bl (a b : Bool) : gEq (.bl a) (.bl b) = some (.bl (decide (a = b))) := by
  cases a <;> cases b <;> rfl

theorem eq_tup0 (c : List Int) : gEq (encT c) (.tup []) = some (.bl (decide (c = []))) := by
  have h := gEq_enc (Tp.mk c) (Tp.mk [])
  have h2 : gEq (encT c) (.tup []) = some (.bl (decide (Tp.mk c = Tp.mk []))) := h
  rw [h2]
  congr 2
  exact decide_eq_decide.mpr ⟨fun e => by cases e; rfl, fun e => by rw [e]⟩
theorem gNe_bl (a b : Bool) : gNe (.bl a) (.bl b) = some (.bl (!decide (a = b))) := by
  cases a <;> cases b <;> rfl
theorem gIsi_bool_bl (b : Bool) : gIsi "bool" (.bl b) = some (.bl true) := by
  show (kitB "bool" "bool").map D.bl = _
  rfl
theorem gIsB_bl (a b : Bool) : gIsB (.bl a) (.bl b) = some (.bl (decide (a = b))) := (rfl)
theorem gIsnotB_bl (a b : Bool) : gIsnotB (.bl a) (.bl b) = some (.bl (!decide (a = b))) := (rfl)
def cutL {α : Type} (xs : List α) (lo hi : Option Int) : List α := (xs.drop (HT.sIx xs.length 0 lo)).take (HT.sIx xs.length xs.length hi - HT.sIx xs.length 0 lo)
theorem cutL_len {α : Type} (xs : List α) (lo hi : Option Int) : (cutL xs lo hi).length ≤ xs.length := by
  unfold cutL
  rw [List.length_take, List.length_drop]
  omega
theorem cutD_map {α : Type} (f : α → D) (xs : List α) (lo hi : Option Int) : cutD (xs.map f) lo hi = (cutL xs lo hi).map f := by
  unfold cutD cutL
  rw [List.length_map, ← List.map_drop, ← List.map_take]
theorem cutL_lo {α : Type} (xs : List α) {k : Int} (h : 0 ≤ k) : cutL xs none (some k) = xs.take k.toNat := by
  unfold cutL
  rw [sIx_nn h, HT.sIx_none, Nat.sub_zero, List.drop_zero, List.take_eq_take_iff.mpr]
  omega
def cutTK (a : D) (l u : Option Int) : Option D := match a with
  | .tup ds => some (.tup (cutD ds l u))
  | _ => none
theorem dCutT_ap {f : DFn} {lo hi : List D → Option (Option Int)} {ρ : List D} : dCutT f lo hi ρ = (f ρ).bind fun a => (lo ρ).bind fun l => (hi ρ).bind fun u => cutTK a l u := (rfl)
theorem cutTK_enc (c : List Int) (l u : Option Int) : cutTK (encT c) l u = some (encT (cutL c l u)) := by
  show some (D.tup (cutD (c.map D.int) l u)) = _
  rw [cutD_map]
  rfl
theorem catT_enc {a b : List Int} (h : a.length + b.length ≤ 100000) : gCatT (encT a) (encT b) = some (encT (a ++ b)) := by
  unfold encT
  rw [gCatT_tup (by rw [List.length_map, List.length_map]; exact h), List.map_append]
theorem catT_one {a : List Int} {x : Int} (h : a.length + 1 ≤ 100000) : gCatT (encT a) (.tup [.int x]) = some (encT (a ++ [x])) := catT_enc (b := [x]) h
theorem gRevT_enc (c : List Int) : gRevT (encT c) = some (encT c.reverse) := by
  show some (D.tup (c.map D.int).reverse) = _
  rw [← List.map_reverse]
  rfl
theorem gTupOf_ints (c : List Int) : gTupOf (.lst (c.map .int)) = some (encT c) := (rfl)

/-- the draws, by their places -/
theorem draws (c : Int) (m : Nat) (hm : m ≤ 100000) : ∃ (xs : List Int) (X : Nat → Int), fn_l_stream [.int c, .int m] = .ok (.lst (xs.map .int)) ∧ xs.length = m ∧ (∀ i, 0 ≤ X i) ∧ ∀ i : Int, 0 ≤ i ∧ i < m → gIx (.lst (xs.map .int)) (.int i) = some (.int (X i.toNat)) := by
  obtain ⟨xs, hl, hb, hs⟩ := l_stream_eq c m hm
  refine ⟨xs, fun i => xs.getD i 0, hs, hl, fun i => ?_, fun i h => ?_⟩
  · show 0 ≤ xs.getD i 0
    by_cases q : i < xs.length
    · rw [List.getD_eq_getElem?_getD, List.getElem?_eq_getElem q]
      exact (hb _ (List.getElem_mem q)).1
    · rw [List.getD_eq_getElem?_getD, List.getElem?_eq_none (by omega)]
      exact Int.le_refl 0
  · have h2 : i.toNat < xs.length := by omega
    exact gIx_nn h.1 (by show xs[i.toNat]? = some (xs.getD i.toNat 0); rw [List.getD_eq_getElem?_getD, List.getElem?_eq_getElem h2]; rfl)

/-! ### texts by their signs -/
abbrev sD (l : List Nat) : D := .str (SX.S l)
theorem lit_sp : D.str (" " : Str) = sD [32] := (rfl)
theorem lit_nl : D.str ("\n" : Str) = sD [10] := (rfl)
theorem lit_e : D.str ("" : Str) = sD [] := (rfl)
theorem lit_0 : D.str ("0" : Str) = sD [48] := (rfl)
theorem lit_fig : D.str ("0123456789" : Str) = sD [48, 49, 50, 51, 52, 53, 54, 55, 56, 57] := (rfl)
theorem lit_lay : D.str ("lay" : Str) = sD [108, 97, 121] := (rfl)
theorem lit_say : D.str ("say" : Str) = sD [115, 97, 121] := (rfl)
theorem sD_inj {a b : List Nat} (h : sD a = sD b) : a = b := SX.S_inj (D.str.inj h)
theorem gEq_sD (a b : List Nat) : gEq (sD a) (sD b) = some (.bl (decide (a = b))) := by
  have h := gEq_enc (SX.S a) (SX.S b)
  have h2 : gEq (sD a) (sD b) = some (.bl (decide (SX.S a = SX.S b))) := h
  rw [h2]
  congr 2
  exact decide_eq_decide.mpr ⟨SX.S_inj, fun e => by rw [e]⟩
theorem gNe_sD (a b : List Nat) : gNe (sD a) (sD b) = some (.bl (!decide (a = b))) := by
  have h := gNe_enc (SX.S a) (SX.S b)
  have h2 : gNe (sD a) (sD b) = some (.bl (!decide (SX.S a = SX.S b))) := h
  rw [h2]
  congr 3
  exact decide_eq_decide.mpr ⟨SX.S_inj, fun e => by rw [e]⟩
theorem gStr_nat {n : Nat} (h : n < 2 ^ 64) : gStr [.int (n : Int)] = some (sD (TL.numL n)) := by
  have hl : ((n : Int).natAbs).log2 < 1920 := by
    rw [Int.natAbs_natCast]
    by_cases q : n = 0
    · subst q
      decide
    · exact Nat.lt_trans ((Nat.log2_lt q).mpr h) (by decide)
  show (if ((n : Int).natAbs).log2 < 1920 then some (D.str (txtI n)) else none) = _
  rw [if_pos hl]
  unfold txtI
  rw [SX.num_S]
theorem gStr_int {i : Int} (h : 0 ≤ i) (h2 : i < 2 ^ 64) : gStr [.int i] = some (sD (TL.numL i.toNat)) := by
  have e : i = (i.toNat : Int) := by omega
  have := gStr_nat (n := i.toNat) (by omega)
  rw [← e] at this
  exact this
theorem gStr_str (x : Str) : gStr [.str x] = some (.str x) := (rfl)
theorem strOf_str (x : Str) : strOf (.str x) = some x := (rfl)
theorem asStrs_S : ∀ ys : List (List Nat), asStrs (ys.map sD) = some (ys.map SX.S)
  | [] => rfl
  | y :: ys => by
    rw [List.map_cons]
    unfold asStrs
    rw [strOf_str, Option.bind_some, asStrs_S ys]
    rfl
theorem gJoin_S {sep : List Nat} {ys : List (List Nat)} (h : (ys.map (·.length)).sum + ys.length * sep.length ≤ 16777216) : gJoin (sD sep) (.lst (ys.map sD)) = some (sD (TL.joinL sep ys)) := by
  unfold gJoin
  rw [strOf_str, Option.bind_some, lstOf_lst, Option.bind_some, asStrs_S, Option.bind_some, if_pos (by rw [SX.lens, List.length_map, SX.S_len]; exact h), SX.join_S]
theorem gSplit_S {a : List Nat} {c : Nat} (hc : c < 256) (h : a.length + 2 ≤ 16777216) : gSplit (sD a) (sD [c]) = some (.lst ((TL.spl [c] 0 [] a).map sD)) := by
  unfold gSplit
  rw [strOf_str, Option.bind_some, strOf_str, Option.bind_some, if_pos ⟨rfl, by rw [SX.S_len]; exact h⟩, SX.split_S (by simp) (by simpa using hc), List.map_map]
  rfl
theorem joinL_len (sep : List Nat) : ∀ ys : List (List Nat), (TL.joinL sep ys).length ≤ (ys.map (·.length)).sum + ys.length * sep.length
  | [] => Nat.zero_le _
  | [y] => by
    show y.length ≤ _
    simp
  | y :: z :: ys => by
    have := joinL_len sep (z :: ys)
    show (y ++ (sep ++ TL.joinL sep (z :: ys))).length ≤ _
    rw [List.length_append, List.length_append, List.map_cons, List.sum_cons, List.length_cons, Nat.succ_mul]
    omega
theorem sum_le {α : Type} {f : α → Nat} {k : Nat} : ∀ {xs : List α}, (∀ x ∈ xs, f x ≤ k) → (xs.map f).sum ≤ xs.length * k
  | [], _ => Nat.zero_le _
  | x :: xs, h => by
    rw [List.map_cons, List.sum_cons, List.length_cons, Nat.succ_mul]
    have h1 := h x (.head _)
    have h2 := sum_le (xs := xs) fun y hy => h y (.tail _ hy)
    omega
/-- a text of short words -/
theorem gJoin_k {sep : List Nat} {ys : List (List Nat)} {k m : Nat} (h : ∀ y ∈ ys, y.length ≤ k) (hm : ys.length ≤ m) (hk : m * (k + sep.length) ≤ 16777216) : gJoin (sD sep) (.lst (ys.map sD)) = some (sD (TL.joinL sep ys)) := by
  refine gJoin_S (Nat.le_trans ?_ hk)
  have h1 : (ys.map (·.length)).sum ≤ ys.length * k := sum_le h
  have h2 : ys.length * (k + sep.length) ≤ m * (k + sep.length) := Nat.mul_le_mul_right _ hm
  rw [Nat.mul_add] at h2
  omega
theorem joinL_k {sep : List Nat} {ys : List (List Nat)} {k m : Nat} (h : ∀ y ∈ ys, y.length ≤ k) (hm : ys.length ≤ m) : (TL.joinL sep ys).length ≤ m * (k + sep.length) := by
  have h0 := joinL_len sep ys
  have h1 : (ys.map (·.length)).sum ≤ ys.length * k := sum_le h
  have h2 : ys.length * (k + sep.length) ≤ m * (k + sep.length) := Nat.mul_le_mul_right _ hm
  rw [Nat.mul_add] at h2
  omega
theorem mem_joinL {sep : List Nat} {c : Nat} : ∀ {ys : List (List Nat)}, c ∈ TL.joinL sep ys → c ∈ sep ∨ ∃ y ∈ ys, c ∈ y
  | [], h => nomatch h
  | [y], h => .inr ⟨y, .head _, h⟩
  | y :: z :: ys, h => by
    have h : c ∈ y ++ (sep ++ TL.joinL sep (z :: ys)) := h
    rcases List.mem_append.mp h with h | h
    · exact .inr ⟨y, .head _, h⟩
    · rcases List.mem_append.mp h with h | h
      · exact .inl h
      · rcases mem_joinL h with h | ⟨w, h1, h2⟩
        · exact .inl h
        · exact .inr ⟨w, .tail _ h1, h2⟩
theorem gLenS_S {l : List Nat} (h : l.length ≤ 16777216) : gLenS [sD l] = some (.int l.length) := by
  show (if (SX.S l).length ≤ sizeLine then some (D.int (SX.S l).length) else none) = _
  rw [SX.S_len, if_pos (show _ ≤ sizeLine from h)]
theorem gIxS_0 {c : Nat} {l : List Nat} (h : (c :: l).length ≤ 16777216) : gIxS (sD (c :: l)) (.int 0) = some (sD [c]) := by
  show (if (SX.S (c :: l)).length ≤ sizeLine then (atI (SX.S (c :: l)).cps.toList 0).map fun c => D.str ⟨#[c]⟩ else none) = _
  rw [SX.S_len, if_pos (show _ ≤ sizeLine from h)]
  have : atI (SX.S (c :: l)).cps.toList 0 = some c := by
    show (ixN (l.length + 1) 0).bind (fun j => (c :: l)[j]?) = some c
    rw [show ixN (l.length + 1) 0 = some 0 by unfold ixN; simp]
    rfl
  rw [this]
  rfl
theorem hasS_one (a : List Nat) (c : Nat) : hasS (SX.S [c]) (SX.S a) = decide (c ∈ a) := SX.in_one a c
theorem gNotInS_one (a : List Nat) (c : Nat) : gNotInS (sD [c]) (sD a) = some (.bl (!decide (c ∈ a))) := by
  show some (D.bl (!hasS (SX.S [c]) (SX.S a))) = _
  rw [hasS_one]
theorem iStrD_S {f : DFn} {ρ : List D} {l : List Nat} (h : f ρ = some (sD l)) : iStrD f ρ = some (l.map fun c => sD [c]) := by
  unfold iStrD
  rw [h, Option.bind_some, strOf_str]
  rfl
def digB (c : Nat) : Bool := decide (48 ≤ c) && decide (c ≤ 57)
theorem gIntS_S {l : List Nat} (hd : l.all digB = true) (hne : l ≠ []) (hl : l.length ≤ 640) : gIntS [sD l] = some (.int (NumText.digitsVal l : Nat)) := by
  show (if (SX.S l).length ≤ 640 then (PySem.intText? (SX.S l)).map D.int else none) = _
  rw [SX.S_len, if_pos hl, SX.int_S hd hne (by omega)]
  rfl

/-! ### numbers told -/
theorem gGt_int' {a b : Int} : gGt (.int a) (.int b) = some (.bl (decide (b < a))) := (rfl)
def oN : Option Nat → D
  | none => .non
  | some n => .int (n : Int)
/-- the number that a word tells -/
def numO (l : List Nat) : Option Nat := if (decide (l = []) || (decide (9 < l.length) || (decide (l.head? = some 48) && !decide (l = [48])))) = true then none else if l.all digB = true then some (NumText.digitsVal l) else none
theorem mem_fig (c : Nat) : decide (c ∈ [48, 49, 50, 51, 52, 53, 54, 55, 56, 57]) = digB c := by
  unfold digB
  rw [← Bool.decide_and]
  refine decide_eq_decide.mpr ?_
  simp only [List.mem_cons, List.not_mem_nil, or_false]
  omega
theorem number_of_eq {l : List Nat} (hl : l.length ≤ 1000) : fn_number_of [sD l] = .ok (oN (numO l)) := by
  have hlen : gLenS [sD l] = some (.int l.length) := gLenS_S (by omega)
  have h9 : ((9 : Int) < (l.length : Int)) ↔ 9 < l.length := by omega
  unfold fn_number_of sm_number_of
  unfold numO
  cases l with
  | nil =>
    simp only [bindS, mapS, rng_len, dSeq_ap, seqK_nx, seqK_ret, seqK_cont, seqK_brk, seqK_exc, dNext_ap, dAsg_ap, asgK_some, dRet_ap, retK_some, dIfS_ap, ifK_true, ifK_false, dDrop_ap, dropK_some, dApp_ap, appK_some, dExt_ap, extK_some, dClear_ap, clearK_some, dFor_ap, forK_some, dUnpk_ap, unpK_some, dFst_ap, fstK_some, dRaise_ap, raiK_some, runF_ap, runK_ret, runK_nx, runK_exc, runI_ap, runIK_nx, runIK_exc, dVar_ap, dC_ap, d1_ap, d2_ap, tB_ap, asB_bl, tAndF_ap, tOrF_ap, tNotF_ap, dAnd_ap, dOr_ap, dNot_ap, dIf_ap, ite_and, ite_or, ite_andD, ite_orD, dNilA_ap, dConsA_ap, dTup_ap, dLst_ap, dImm_ap, oNone_ap, oSome_ap, asI_int, dCut_ap, cutK_lst, cutK_scr, dFld_ap, fldK_obj, dCall_ap, dCallN_ap, dFun_ap, okR_ok, dFunN_ap, okRN_lst, okRN_dI, okRN_dT, dMethN_ap, dMeth_ap, isObj_obj, uName_ap, uNil_ap, uCons_ap, uTup_ap, iLst_ap, lstOf_lst, lstOf_scr, iTupD_ap, tupOf_tup, iRev_ap, iEnum_ap, iRange1_ap, rng1K_int, iRange2_ap, rng2K_int, dLc_ap, tTrue_ap, dChain_ap, seqOf_lst, seqOf_tup, seqOf_scr, gLen_lst, gLen_tup, gLen_scr, gCat_lst, gAdd_int, gSub_int, gMul_int, gMod_int, gDiv_int, gLt_int, gLe_int, gGt_int, gGe_int, gMax2_int, gMin2_int, gIsi_lst, gEq_int, gNe_int, bindS, mapS, rng_len, Int.toNat_natCast, List.getElem?_cons_zero, List.getElem?_cons_succ, List.set_cons_zero, List.set_cons_succ, List.append_nil, List.nil_append, List.cons_append, List.replicate_succ, List.replicate_zero, List.length_map, List.length_cons, List.length_nil, Bool.not_true, Bool.not_false, decide_true, decide_false, reduceIte, Bool.false_eq_true, and_true, true_and, or_true, true_or, and_self, Bool.and_true, Bool.true_and, Bool.and_false, Bool.false_and, Bool.or_false, Bool.false_or, Bool.or_true, Bool.true_or, Int.reduceLT, Int.reduceLE, Int.reducePow, Int.reduceNeg, Int.reduceAdd, Int.reduceSub, Int.reduceMul, Int.reduceToNat, Nat.reduceLT, Nat.reduceAdd, Nat.reduceLeDiff, Nat.reducePow, lit_e, gEq_sD, decide_true]
    rfl
  | cons c r =>
    have h0 : gIxS (sD (c :: r)) (.int 0) = some (sD [c]) := gIxS_0 (by omega)
    have e1 : decide ((c :: r) = []) = false := rfl
    have e3 : decide ([c] = [48]) = decide ((c :: r).head? = some 48) := decide_eq_decide.mpr (by simp)
    have e2 : decide ((9 : Int) < ((r.length + 1 : Nat) : Int)) = decide (9 < r.length + 1) := decide_eq_decide.mpr (by omega)
    rw [List.length_cons] at hlen ⊢
    cases q1 : (decide (9 < r.length + 1) || (decide ((c :: r).head? = some 48) && !decide ((c :: r) = [48]))) with
    | true =>
      rw [e1, Bool.false_or, if_pos rfl]
      simp only [bindS, mapS, rng_len, dSeq_ap, seqK_nx, seqK_ret, seqK_cont, seqK_brk, seqK_exc, dNext_ap, dAsg_ap, asgK_some, dRet_ap, retK_some, dIfS_ap, ifK_true, ifK_false, dDrop_ap, dropK_some, dApp_ap, appK_some, dExt_ap, extK_some, dClear_ap, clearK_some, dFor_ap, forK_some, dUnpk_ap, unpK_some, dFst_ap, fstK_some, dRaise_ap, raiK_some, runF_ap, runK_ret, runK_nx, runK_exc, runI_ap, runIK_nx, runIK_exc, dVar_ap, dC_ap, d1_ap, d2_ap, tB_ap, asB_bl, tAndF_ap, tOrF_ap, tNotF_ap, dAnd_ap, dOr_ap, dNot_ap, dIf_ap, ite_and, ite_or, ite_andD, ite_orD, dNilA_ap, dConsA_ap, dTup_ap, dLst_ap, dImm_ap, oNone_ap, oSome_ap, asI_int, dCut_ap, cutK_lst, cutK_scr, dFld_ap, fldK_obj, dCall_ap, dCallN_ap, dFun_ap, okR_ok, dFunN_ap, okRN_lst, okRN_dI, okRN_dT, dMethN_ap, dMeth_ap, isObj_obj, uName_ap, uNil_ap, uCons_ap, uTup_ap, iLst_ap, lstOf_lst, lstOf_scr, iTupD_ap, tupOf_tup, iRev_ap, iEnum_ap, iRange1_ap, rng1K_int, iRange2_ap, rng2K_int, dLc_ap, tTrue_ap, dChain_ap, seqOf_lst, seqOf_tup, seqOf_scr, gLen_lst, gLen_tup, gLen_scr, gCat_lst, gAdd_int, gSub_int, gMul_int, gMod_int, gDiv_int, gLt_int, gLe_int, gGt_int, gGe_int, gMax2_int, gMin2_int, gIsi_lst, gEq_int, gNe_int, bindS, mapS, rng_len, Int.toNat_natCast, List.getElem?_cons_zero, List.getElem?_cons_succ, List.set_cons_zero, List.set_cons_succ, List.append_nil, List.nil_append, List.cons_append, List.replicate_succ, List.replicate_zero, List.length_map, List.length_cons, List.length_nil, Bool.not_true, Bool.not_false, decide_true, decide_false, reduceIte, Bool.false_eq_true, and_true, true_and, or_true, true_or, and_self, Bool.and_true, Bool.true_and, Bool.and_false, Bool.false_and, Bool.or_false, Bool.false_or, Bool.or_true, Bool.true_or, Int.reduceLT, Int.reduceLE, Int.reducePow, Int.reduceNeg, Int.reduceAdd, Int.reduceSub, Int.reduceMul, Int.reduceToNat, Nat.reduceLT, Nat.reduceAdd, Nat.reduceLeDiff, Nat.reducePow, lit_e, lit_0, gEq_sD, gNe_sD, e1, hlen, gGt_int', e2, h0, e3, ite_or, ite_and, q1]
      rfl
    | false =>
      have hi : iStrD (dVar 0) [sD (c :: r), .non] = some ((c :: r).map fun c => sD [c]) := iStrD_S rfl
      rw [e1, Bool.false_or, if_neg (by decide)]
      simp only [bindS, mapS, rng_len, dSeq_ap, seqK_nx, seqK_ret, seqK_cont, seqK_brk, seqK_exc, dNext_ap, dAsg_ap, asgK_some, dRet_ap, retK_some, dIfS_ap, ifK_true, ifK_false, dDrop_ap, dropK_some, dApp_ap, appK_some, dExt_ap, extK_some, dClear_ap, clearK_some, dFor_ap, forK_some, dUnpk_ap, unpK_some, dFst_ap, fstK_some, dRaise_ap, raiK_some, runF_ap, runK_ret, runK_nx, runK_exc, runI_ap, runIK_nx, runIK_exc, dVar_ap, dC_ap, d1_ap, d2_ap, tB_ap, asB_bl, tAndF_ap, tOrF_ap, tNotF_ap, dAnd_ap, dOr_ap, dNot_ap, dIf_ap, ite_and, ite_or, ite_andD, ite_orD, dNilA_ap, dConsA_ap, dTup_ap, dLst_ap, dImm_ap, oNone_ap, oSome_ap, asI_int, dCut_ap, cutK_lst, cutK_scr, dFld_ap, fldK_obj, dCall_ap, dCallN_ap, dFun_ap, okR_ok, dFunN_ap, okRN_lst, okRN_dI, okRN_dT, dMethN_ap, dMeth_ap, isObj_obj, uName_ap, uNil_ap, uCons_ap, uTup_ap, iLst_ap, lstOf_lst, lstOf_scr, iTupD_ap, tupOf_tup, iRev_ap, iEnum_ap, iRange1_ap, rng1K_int, iRange2_ap, rng2K_int, dLc_ap, tTrue_ap, dChain_ap, seqOf_lst, seqOf_tup, seqOf_scr, gLen_lst, gLen_tup, gLen_scr, gCat_lst, gAdd_int, gSub_int, gMul_int, gMod_int, gDiv_int, gLt_int, gLe_int, gGt_int, gGe_int, gMax2_int, gMin2_int, gIsi_lst, gEq_int, gNe_int, bindS, mapS, rng_len, Int.toNat_natCast, List.getElem?_cons_zero, List.getElem?_cons_succ, List.set_cons_zero, List.set_cons_succ, List.append_nil, List.nil_append, List.cons_append, List.replicate_succ, List.replicate_zero, List.length_map, List.length_cons, List.length_nil, Bool.not_true, Bool.not_false, decide_true, decide_false, reduceIte, Bool.false_eq_true, and_true, true_and, or_true, true_or, and_self, Bool.and_true, Bool.true_and, Bool.and_false, Bool.false_and, Bool.or_false, Bool.false_or, Bool.or_true, Bool.true_or, Int.reduceLT, Int.reduceLE, Int.reducePow, Int.reduceNeg, Int.reduceAdd, Int.reduceSub, Int.reduceMul, Int.reduceToNat, Nat.reduceLT, Nat.reduceAdd, Nat.reduceLeDiff, Nat.reducePow, lit_e, lit_0, gEq_sD, gNe_sD, e1, hlen, gGt_int', e2, h0, e3, ite_or, ite_and, q1, hi]
      rcases forD_find (en := fun (c : Nat) => sD [c]) (u := uName 1) (F := sb_number_of_0) (fun ρ => ∃ z : D, ρ = [sD (c :: r), z]) (fun k => if digB k = true then none else some D.non) (xs := c :: r) (ρ := [sD (c :: r), .non]) ⟨_, rfl⟩ (fun k hk ρ ⟨z, e⟩ => by
        subst e
        refine ⟨_, rfl, ?_⟩
        unfold sb_number_of_0
        cases q : digB k with
        | true =>
          simp only [bindS, mapS, rng_len, dSeq_ap, seqK_nx, seqK_ret, seqK_cont, seqK_brk, seqK_exc, dNext_ap, dAsg_ap, asgK_some, dRet_ap, retK_some, dIfS_ap, ifK_true, ifK_false, dDrop_ap, dropK_some, dApp_ap, appK_some, dExt_ap, extK_some, dClear_ap, clearK_some, dFor_ap, forK_some, dUnpk_ap, unpK_some, dFst_ap, fstK_some, dRaise_ap, raiK_some, runF_ap, runK_ret, runK_nx, runK_exc, runI_ap, runIK_nx, runIK_exc, dVar_ap, dC_ap, d1_ap, d2_ap, tB_ap, asB_bl, tAndF_ap, tOrF_ap, tNotF_ap, dAnd_ap, dOr_ap, dNot_ap, dIf_ap, ite_and, ite_or, ite_andD, ite_orD, dNilA_ap, dConsA_ap, dTup_ap, dLst_ap, dImm_ap, oNone_ap, oSome_ap, asI_int, dCut_ap, cutK_lst, cutK_scr, dFld_ap, fldK_obj, dCall_ap, dCallN_ap, dFun_ap, okR_ok, dFunN_ap, okRN_lst, okRN_dI, okRN_dT, dMethN_ap, dMeth_ap, isObj_obj, uName_ap, uNil_ap, uCons_ap, uTup_ap, iLst_ap, lstOf_lst, lstOf_scr, iTupD_ap, tupOf_tup, iRev_ap, iEnum_ap, iRange1_ap, rng1K_int, iRange2_ap, rng2K_int, dLc_ap, tTrue_ap, dChain_ap, seqOf_lst, seqOf_tup, seqOf_scr, gLen_lst, gLen_tup, gLen_scr, gCat_lst, gAdd_int, gSub_int, gMul_int, gMod_int, gDiv_int, gLt_int, gLe_int, gGt_int, gGe_int, gMax2_int, gMin2_int, gIsi_lst, gEq_int, gNe_int, bindS, mapS, rng_len, Int.toNat_natCast, List.getElem?_cons_zero, List.getElem?_cons_succ, List.set_cons_zero, List.set_cons_succ, List.append_nil, List.nil_append, List.cons_append, List.replicate_succ, List.replicate_zero, List.length_map, List.length_cons, List.length_nil, Bool.not_true, Bool.not_false, decide_true, decide_false, reduceIte, Bool.false_eq_true, and_true, true_and, or_true, true_or, and_self, Bool.and_true, Bool.true_and, Bool.and_false, Bool.false_and, Bool.or_false, Bool.false_or, Bool.or_true, Bool.true_or, Int.reduceLT, Int.reduceLE, Int.reducePow, Int.reduceNeg, Int.reduceAdd, Int.reduceSub, Int.reduceMul, Int.reduceToNat, Nat.reduceLT, Nat.reduceAdd, Nat.reduceLeDiff, Nat.reducePow, lit_fig, gNotInS_one, mem_fig, q]
          exact .inl ⟨_, .inl rfl, _, rfl⟩
        | false =>
          simp only [bindS, mapS, rng_len, dSeq_ap, seqK_nx, seqK_ret, seqK_cont, seqK_brk, seqK_exc, dNext_ap, dAsg_ap, asgK_some, dRet_ap, retK_some, dIfS_ap, ifK_true, ifK_false, dDrop_ap, dropK_some, dApp_ap, appK_some, dExt_ap, extK_some, dClear_ap, clearK_some, dFor_ap, forK_some, dUnpk_ap, unpK_some, dFst_ap, fstK_some, dRaise_ap, raiK_some, runF_ap, runK_ret, runK_nx, runK_exc, runI_ap, runIK_nx, runIK_exc, dVar_ap, dC_ap, d1_ap, d2_ap, tB_ap, asB_bl, tAndF_ap, tOrF_ap, tNotF_ap, dAnd_ap, dOr_ap, dNot_ap, dIf_ap, ite_and, ite_or, ite_andD, ite_orD, dNilA_ap, dConsA_ap, dTup_ap, dLst_ap, dImm_ap, oNone_ap, oSome_ap, asI_int, dCut_ap, cutK_lst, cutK_scr, dFld_ap, fldK_obj, dCall_ap, dCallN_ap, dFun_ap, okR_ok, dFunN_ap, okRN_lst, okRN_dI, okRN_dT, dMethN_ap, dMeth_ap, isObj_obj, uName_ap, uNil_ap, uCons_ap, uTup_ap, iLst_ap, lstOf_lst, lstOf_scr, iTupD_ap, tupOf_tup, iRev_ap, iEnum_ap, iRange1_ap, rng1K_int, iRange2_ap, rng2K_int, dLc_ap, tTrue_ap, dChain_ap, seqOf_lst, seqOf_tup, seqOf_scr, gLen_lst, gLen_tup, gLen_scr, gCat_lst, gAdd_int, gSub_int, gMul_int, gMod_int, gDiv_int, gLt_int, gLe_int, gGt_int, gGe_int, gMax2_int, gMin2_int, gIsi_lst, gEq_int, gNe_int, bindS, mapS, rng_len, Int.toNat_natCast, List.getElem?_cons_zero, List.getElem?_cons_succ, List.set_cons_zero, List.set_cons_succ, List.append_nil, List.nil_append, List.cons_append, List.replicate_succ, List.replicate_zero, List.length_map, List.length_cons, List.length_nil, Bool.not_true, Bool.not_false, decide_true, decide_false, reduceIte, Bool.false_eq_true, and_true, true_and, or_true, true_or, and_self, Bool.and_true, Bool.true_and, Bool.and_false, Bool.false_and, Bool.or_false, Bool.false_or, Bool.or_true, Bool.true_or, Int.reduceLT, Int.reduceLE, Int.reducePow, Int.reduceNeg, Int.reduceAdd, Int.reduceSub, Int.reduceMul, Int.reduceToNat, Nat.reduceLT, Nat.reduceAdd, Nat.reduceLeDiff, Nat.reducePow, lit_fig, gNotInS_one, mem_fig, q]
          exact .inr ⟨_, rfl, rfl⟩) with ⟨d, h1, h2⟩ | ⟨h1, ρ', h2, z, rfl⟩
      · rw [h2]
        obtain ⟨k, hk, e⟩ := List.exists_of_findSome?_eq_some h1
        have hq : digB k = false := by
          cases q : digB k with
          | true => rw [q] at e; cases e
          | false => rfl
        rw [hq] at e
        cases e
        have : (c :: r).all digB = false := by
          rw [List.all_eq_false]
          exact ⟨k, hk, by rw [hq]; decide⟩
        rw [if_neg (by rw [this]; decide)]
        simp only [bindS, mapS, rng_len, dSeq_ap, seqK_nx, seqK_ret, seqK_cont, seqK_brk, seqK_exc, dNext_ap, dAsg_ap, asgK_some, dRet_ap, retK_some, dIfS_ap, ifK_true, ifK_false, dDrop_ap, dropK_some, dApp_ap, appK_some, dExt_ap, extK_some, dClear_ap, clearK_some, dFor_ap, forK_some, dUnpk_ap, unpK_some, dFst_ap, fstK_some, dRaise_ap, raiK_some, runF_ap, runK_ret, runK_nx, runK_exc, runI_ap, runIK_nx, runIK_exc, dVar_ap, dC_ap, d1_ap, d2_ap, tB_ap, asB_bl, tAndF_ap, tOrF_ap, tNotF_ap, dAnd_ap, dOr_ap, dNot_ap, dIf_ap, ite_and, ite_or, ite_andD, ite_orD, dNilA_ap, dConsA_ap, dTup_ap, dLst_ap, dImm_ap, oNone_ap, oSome_ap, asI_int, dCut_ap, cutK_lst, cutK_scr, dFld_ap, fldK_obj, dCall_ap, dCallN_ap, dFun_ap, okR_ok, dFunN_ap, okRN_lst, okRN_dI, okRN_dT, dMethN_ap, dMeth_ap, isObj_obj, uName_ap, uNil_ap, uCons_ap, uTup_ap, iLst_ap, lstOf_lst, lstOf_scr, iTupD_ap, tupOf_tup, iRev_ap, iEnum_ap, iRange1_ap, rng1K_int, iRange2_ap, rng2K_int, dLc_ap, tTrue_ap, dChain_ap, seqOf_lst, seqOf_tup, seqOf_scr, gLen_lst, gLen_tup, gLen_scr, gCat_lst, gAdd_int, gSub_int, gMul_int, gMod_int, gDiv_int, gLt_int, gLe_int, gGt_int, gGe_int, gMax2_int, gMin2_int, gIsi_lst, gEq_int, gNe_int, bindS, mapS, rng_len, Int.toNat_natCast, List.getElem?_cons_zero, List.getElem?_cons_succ, List.set_cons_zero, List.set_cons_succ, List.append_nil, List.nil_append, List.cons_append, List.replicate_succ, List.replicate_zero, List.length_map, List.length_cons, List.length_nil, Bool.not_true, Bool.not_false, decide_true, decide_false, reduceIte, Bool.false_eq_true, and_true, true_and, or_true, true_or, and_self, Bool.and_true, Bool.true_and, Bool.and_false, Bool.false_and, Bool.or_false, Bool.false_or, Bool.or_true, Bool.true_or, Int.reduceLT, Int.reduceLE, Int.reducePow, Int.reduceNeg, Int.reduceAdd, Int.reduceSub, Int.reduceMul, Int.reduceToNat, Nat.reduceLT, Nat.reduceAdd, Nat.reduceLeDiff, Nat.reducePow]
        rfl
      · rw [h2]
        have ha : (c :: r).all digB = true := by
          rw [List.all_eq_true]
          intro k hk
          have := List.findSome?_eq_none_iff.mp h1 k hk
          cases q : digB k with
          | true => rfl
          | false => rw [q] at this; cases this
        simp only [Bool.or_eq_false_iff, decide_eq_false_iff_not] at q1
        have hg := gIntS_S ha (List.cons_ne_nil _ _) (by rw [List.length_cons]; omega)
        rw [if_pos ha]
        simp only [bindS, mapS, rng_len, dSeq_ap, seqK_nx, seqK_ret, seqK_cont, seqK_brk, seqK_exc, dNext_ap, dAsg_ap, asgK_some, dRet_ap, retK_some, dIfS_ap, ifK_true, ifK_false, dDrop_ap, dropK_some, dApp_ap, appK_some, dExt_ap, extK_some, dClear_ap, clearK_some, dFor_ap, forK_some, dUnpk_ap, unpK_some, dFst_ap, fstK_some, dRaise_ap, raiK_some, runF_ap, runK_ret, runK_nx, runK_exc, runI_ap, runIK_nx, runIK_exc, dVar_ap, dC_ap, d1_ap, d2_ap, tB_ap, asB_bl, tAndF_ap, tOrF_ap, tNotF_ap, dAnd_ap, dOr_ap, dNot_ap, dIf_ap, ite_and, ite_or, ite_andD, ite_orD, dNilA_ap, dConsA_ap, dTup_ap, dLst_ap, dImm_ap, oNone_ap, oSome_ap, asI_int, dCut_ap, cutK_lst, cutK_scr, dFld_ap, fldK_obj, dCall_ap, dCallN_ap, dFun_ap, okR_ok, dFunN_ap, okRN_lst, okRN_dI, okRN_dT, dMethN_ap, dMeth_ap, isObj_obj, uName_ap, uNil_ap, uCons_ap, uTup_ap, iLst_ap, lstOf_lst, lstOf_scr, iTupD_ap, tupOf_tup, iRev_ap, iEnum_ap, iRange1_ap, rng1K_int, iRange2_ap, rng2K_int, dLc_ap, tTrue_ap, dChain_ap, seqOf_lst, seqOf_tup, seqOf_scr, gLen_lst, gLen_tup, gLen_scr, gCat_lst, gAdd_int, gSub_int, gMul_int, gMod_int, gDiv_int, gLt_int, gLe_int, gGt_int, gGe_int, gMax2_int, gMin2_int, gIsi_lst, gEq_int, gNe_int, bindS, mapS, rng_len, Int.toNat_natCast, List.getElem?_cons_zero, List.getElem?_cons_succ, List.set_cons_zero, List.set_cons_succ, List.append_nil, List.nil_append, List.cons_append, List.replicate_succ, List.replicate_zero, List.length_map, List.length_cons, List.length_nil, Bool.not_true, Bool.not_false, decide_true, decide_false, reduceIte, Bool.false_eq_true, and_true, true_and, or_true, true_or, and_self, Bool.and_true, Bool.true_and, Bool.and_false, Bool.false_and, Bool.or_false, Bool.false_or, Bool.or_true, Bool.true_or, Int.reduceLT, Int.reduceLE, Int.reducePow, Int.reduceNeg, Int.reduceAdd, Int.reduceSub, Int.reduceMul, Int.reduceToNat, Nat.reduceLT, Nat.reduceAdd, Nat.reduceLeDiff, Nat.reducePow, hg]
        rfl
theorem numL_head : ∀ n : Nat, 0 < n → (TL.numL n).head? ≠ some 48 := by
  intro n
  induction n using Nat.strongRecOn with
  | _ n ih =>
    intro h
    by_cases q : n < 10
    · rw [TL.numL_lt q]
      intro e
      have := Option.some.inj e
      omega
    · rw [TL.numL_step (by omega)]
      have i := ih (n / 10) (by omega) (by omega)
      have n1 := TL.numL_ne (n / 10)
      cases e : TL.numL (n / 10) with
      | nil => exact absurd e n1
      | cons a b =>
        rw [e] at i
        exact i
theorem numO_num {n : Nat} (h : n < 10 ^ 9) : numO (TL.numL n) = some n := by
  have h1 := TL.numL_ne n
  have h2 := TL.numL_len (n := n) (k := 9) (by decide) h
  have hd : (TL.numL n).all digB = true := by
    rw [List.all_eq_true]
    intro c hc
    have := TL.numL_digits n c hc
    unfold digB
    rw [decide_eq_true this.1, decide_eq_true this.2]
    rfl
  have h3 : (decide ((TL.numL n).head? = some 48) && !decide (TL.numL n = [48])) = false := by
    by_cases q : n = 0
    · subst q
      rw [TL.numL_lt (by decide)]
      rfl
    · rw [decide_eq_false (numL_head n (by omega))]
      rfl
  unfold numO
  rw [decide_eq_false h1, decide_eq_false (show ¬ 9 < (TL.numL n).length by omega), h3]
  rw [if_neg (by decide), if_pos hd, TL.numL_val]

/-! ### deeds told -/
def allN : List (List Nat) → Option (List Nat)
  | [] => some []
  | w :: ws => (numO w).bind fun n => (allN ws).map (n :: ·)
instance : Enc (Option Nat) := ⟨oN, 0, fun x => by cases x <;> rfl, fun x y h => by
  cases x <;> cases y
  · rfl
  · cases h
  · cases h
  · have h := D.int.inj h
    rw [show _ = _ from Int.ofNat.inj h], by decide⟩
def nN (o : Option (List Nat)) : D := match o with
  | none => .non
  | some ns => .lst (ns.map fun (n : Nat) => .int (n : Int))
theorem allN_none : ∀ ws : List (List Nat), allN ws = none ↔ none ∈ ws.map numO
  | [] => by simp [allN]
  | w :: ws => by
    have ih := allN_none ws
    unfold allN
    rw [List.map_cons, List.mem_cons]
    cases e : numO w with
    | none => simp
    | some n =>
      rw [Option.bind_some, Option.map_eq_none_iff, ih]
      simp
theorem allN_some : ∀ {ws : List (List Nat)} {ns : List Nat}, allN ws = some ns → ws.map numO = ns.map some
  | [], ns, h => by cases h; rfl
  | w :: ws, ns, h => by
    obtain ⟨n, e1, h⟩ := bind_some (show (numO w).bind (fun n => (allN ws).map (n :: ·)) = some ns from h)
    obtain ⟨ms, e2, h⟩ := Option.map_eq_some_iff.mp h
    subst h
    rw [List.map_cons, e1, allN_some e2]
    rfl
theorem numbers_of_eq {ws : List (List Nat)} (hl : ws.length ≤ 100000) (hw : ∀ w ∈ ws, w.length ≤ 1000) : fn_numbers_of [.lst (ws.map sD)] = .ok (nN (allN ws)) := by
  have hlc : lcD (uName 2) tTrue (dFun fn_number_of (dConsA (dVar 2) dNilA) []) [.lst (ws.map sD), .non, .non] (ws.map sD) = some ((ws.map numO).map oN) := by
    have := lcD_map (en := sD) (en' := oN) (u := uName 2) (t := tTrue) (f := dFun fn_number_of (dConsA (dVar 2) dNilA) []) (ρ := [.lst (ws.map sD), .non, .non]) (fun _ => true) numO (xs := ws) fun x hx => ⟨_, rfl, rfl, fun _ => by
      simp only [bindS, mapS, rng_len, dSeq_ap, seqK_nx, seqK_ret, seqK_cont, seqK_brk, seqK_exc, dNext_ap, dAsg_ap, asgK_some, dRet_ap, retK_some, dIfS_ap, ifK_true, ifK_false, dDrop_ap, dropK_some, dApp_ap, appK_some, dExt_ap, extK_some, dClear_ap, clearK_some, dFor_ap, forK_some, dUnpk_ap, unpK_some, dFst_ap, fstK_some, dRaise_ap, raiK_some, runF_ap, runK_ret, runK_nx, runK_exc, runI_ap, runIK_nx, runIK_exc, dVar_ap, dC_ap, d1_ap, d2_ap, tB_ap, asB_bl, tAndF_ap, tOrF_ap, tNotF_ap, dAnd_ap, dOr_ap, dNot_ap, dIf_ap, ite_and, ite_or, ite_andD, ite_orD, dNilA_ap, dConsA_ap, dTup_ap, dLst_ap, dImm_ap, oNone_ap, oSome_ap, asI_int, dCut_ap, cutK_lst, cutK_scr, dFld_ap, fldK_obj, dCall_ap, dCallN_ap, dFun_ap, okR_ok, dFunN_ap, okRN_lst, okRN_dI, okRN_dT, dMethN_ap, dMeth_ap, isObj_obj, uName_ap, uNil_ap, uCons_ap, uTup_ap, iLst_ap, lstOf_lst, lstOf_scr, iTupD_ap, tupOf_tup, iRev_ap, iEnum_ap, iRange1_ap, rng1K_int, iRange2_ap, rng2K_int, dLc_ap, tTrue_ap, dChain_ap, seqOf_lst, seqOf_tup, seqOf_scr, gLen_lst, gLen_tup, gLen_scr, gCat_lst, gAdd_int, gSub_int, gMul_int, gMod_int, gDiv_int, gLt_int, gLe_int, gGt_int, gGe_int, gMax2_int, gMin2_int, gIsi_lst, gEq_int, gNe_int, bindS, mapS, rng_len, Int.toNat_natCast, List.getElem?_cons_zero, List.getElem?_cons_succ, List.set_cons_zero, List.set_cons_succ, List.append_nil, List.nil_append, List.cons_append, List.replicate_succ, List.replicate_zero, List.length_map, List.length_cons, List.length_nil, Bool.not_true, Bool.not_false, decide_true, decide_false, reduceIte, Bool.false_eq_true, and_true, true_and, or_true, true_or, and_self, Bool.and_true, Bool.true_and, Bool.and_false, Bool.false_and, Bool.or_false, Bool.false_or, Bool.or_true, Bool.true_or, Int.reduceLT, Int.reduceLE, Int.reducePow, Int.reduceNeg, Int.reduceAdd, Int.reduceSub, Int.reduceMul, Int.reduceToNat, Nat.reduceLT, Nat.reduceAdd, Nat.reduceLeDiff, Nat.reducePow, number_of_eq (hw x hx)]⟩
    rw [List.filter_eq_self.mpr fun _ _ => rfl] at this
    exact this
  have hin : gIn .non (.lst ((ws.map numO).map oN)) = some (.bl (decide (none ∈ ws.map numO))) := (gIn_enc (none : Option Nat) (ws.map numO)).trans (by congr)
  have hle : (ws.map sD).length ≤ 100000 := by rw [List.length_map]; exact hl
  unfold fn_numbers_of sm_numbers_of
  have hlk : (if (ws.map sD).length ≤ 100000 then (lcD (uName 2) tTrue (dFun fn_number_of (dConsA (dVar 2) dNilA) []) [.lst (ws.map sD), .non, .non] (ws.map sD)).map D.lst else none) = some (.lst ((ws.map numO).map oN)) := by
    rw [if_pos hle, hlc]
    rfl
  cases e : allN ws with
  | none =>
    have hd : decide (none ∈ ws.map numO) = true := decide_eq_true ((allN_none ws).mp e)
    simp only [bindS, mapS, rng_len, dSeq_ap, seqK_nx, seqK_ret, seqK_cont, seqK_brk, seqK_exc, dNext_ap, dAsg_ap, asgK_some, dRet_ap, retK_some, dIfS_ap, ifK_true, ifK_false, dDrop_ap, dropK_some, dApp_ap, appK_some, dExt_ap, extK_some, dClear_ap, clearK_some, dFor_ap, forK_some, dUnpk_ap, unpK_some, dFst_ap, fstK_some, dRaise_ap, raiK_some, runF_ap, runK_ret, runK_nx, runK_exc, runI_ap, runIK_nx, runIK_exc, dVar_ap, dC_ap, d1_ap, d2_ap, tB_ap, asB_bl, tAndF_ap, tOrF_ap, tNotF_ap, dAnd_ap, dOr_ap, dNot_ap, dIf_ap, ite_and, ite_or, ite_andD, ite_orD, dNilA_ap, dConsA_ap, dTup_ap, dLst_ap, dImm_ap, oNone_ap, oSome_ap, asI_int, dCut_ap, cutK_lst, cutK_scr, dFld_ap, fldK_obj, dCall_ap, dCallN_ap, dFun_ap, okR_ok, dFunN_ap, okRN_lst, okRN_dI, okRN_dT, dMethN_ap, dMeth_ap, isObj_obj, uName_ap, uNil_ap, uCons_ap, uTup_ap, iLst_ap, lstOf_lst, lstOf_scr, iTupD_ap, tupOf_tup, iRev_ap, iEnum_ap, iRange1_ap, rng1K_int, iRange2_ap, rng2K_int, dLc_ap, tTrue_ap, dChain_ap, seqOf_lst, seqOf_tup, seqOf_scr, gLen_lst, gLen_tup, gLen_scr, gCat_lst, gAdd_int, gSub_int, gMul_int, gMod_int, gDiv_int, gLt_int, gLe_int, gGt_int, gGe_int, gMax2_int, gMin2_int, gIsi_lst, gEq_int, gNe_int, bindS, mapS, rng_len, Int.toNat_natCast, List.getElem?_cons_zero, List.getElem?_cons_succ, List.set_cons_zero, List.set_cons_succ, List.append_nil, List.nil_append, List.cons_append, List.replicate_succ, List.replicate_zero, List.length_map, List.length_cons, List.length_nil, Bool.not_true, Bool.not_false, decide_true, decide_false, reduceIte, Bool.false_eq_true, and_true, true_and, or_true, true_or, and_self, Bool.and_true, Bool.true_and, Bool.and_false, Bool.false_and, Bool.or_false, Bool.false_or, Bool.or_true, Bool.true_or, Int.reduceLT, Int.reduceLE, Int.reducePow, Int.reduceNeg, Int.reduceAdd, Int.reduceSub, Int.reduceMul, Int.reduceToNat, Nat.reduceLT, Nat.reduceAdd, Nat.reduceLeDiff, Nat.reducePow, if_pos hl, hlc, hin, hd]
    rfl
  | some ns =>
    have hd : decide (none ∈ ws.map numO) = false := decide_eq_false fun h => by rw [(allN_none ws).mpr h] at e; cases e
    simp only [bindS, mapS, rng_len, dSeq_ap, seqK_nx, seqK_ret, seqK_cont, seqK_brk, seqK_exc, dNext_ap, dAsg_ap, asgK_some, dRet_ap, retK_some, dIfS_ap, ifK_true, ifK_false, dDrop_ap, dropK_some, dApp_ap, appK_some, dExt_ap, extK_some, dClear_ap, clearK_some, dFor_ap, forK_some, dUnpk_ap, unpK_some, dFst_ap, fstK_some, dRaise_ap, raiK_some, runF_ap, runK_ret, runK_nx, runK_exc, runI_ap, runIK_nx, runIK_exc, dVar_ap, dC_ap, d1_ap, d2_ap, tB_ap, asB_bl, tAndF_ap, tOrF_ap, tNotF_ap, dAnd_ap, dOr_ap, dNot_ap, dIf_ap, ite_and, ite_or, ite_andD, ite_orD, dNilA_ap, dConsA_ap, dTup_ap, dLst_ap, dImm_ap, oNone_ap, oSome_ap, asI_int, dCut_ap, cutK_lst, cutK_scr, dFld_ap, fldK_obj, dCall_ap, dCallN_ap, dFun_ap, okR_ok, dFunN_ap, okRN_lst, okRN_dI, okRN_dT, dMethN_ap, dMeth_ap, isObj_obj, uName_ap, uNil_ap, uCons_ap, uTup_ap, iLst_ap, lstOf_lst, lstOf_scr, iTupD_ap, tupOf_tup, iRev_ap, iEnum_ap, iRange1_ap, rng1K_int, iRange2_ap, rng2K_int, dLc_ap, tTrue_ap, dChain_ap, seqOf_lst, seqOf_tup, seqOf_scr, gLen_lst, gLen_tup, gLen_scr, gCat_lst, gAdd_int, gSub_int, gMul_int, gMod_int, gDiv_int, gLt_int, gLe_int, gGt_int, gGe_int, gMax2_int, gMin2_int, gIsi_lst, gEq_int, gNe_int, bindS, mapS, rng_len, Int.toNat_natCast, List.getElem?_cons_zero, List.getElem?_cons_succ, List.set_cons_zero, List.set_cons_succ, List.append_nil, List.nil_append, List.cons_append, List.replicate_succ, List.replicate_zero, List.length_map, List.length_cons, List.length_nil, Bool.not_true, Bool.not_false, decide_true, decide_false, reduceIte, Bool.false_eq_true, and_true, true_and, or_true, true_or, and_self, Bool.and_true, Bool.true_and, Bool.and_false, Bool.false_and, Bool.or_false, Bool.false_or, Bool.or_true, Bool.true_or, Int.reduceLT, Int.reduceLE, Int.reducePow, Int.reduceNeg, Int.reduceAdd, Int.reduceSub, Int.reduceMul, Int.reduceToNat, Nat.reduceLT, Nat.reduceAdd, Nat.reduceLeDiff, Nat.reducePow, if_pos hl, hlc, hin, hd]
    rw [allN_some e, List.map_map]
    rfl
theorem allN_len {ws : List (List Nat)} {ns : List Nat} (h : allN ws = some ns) : ns.length = ws.length := by
  have := congrArg List.length (allN_some h)
  rw [List.length_map, List.length_map] at this
  exact this.symm

/-! ### rows of words -/
theorem allN_num : ∀ ns : List Nat, (∀ n ∈ ns, n < 10 ^ 9) → allN (ns.map TL.numL) = some ns
  | [], _ => rfl
  | n :: ns, h => by
    rw [List.map_cons]
    unfold allN
    rw [numO_num (h n (.head _)), Option.bind_some, allN_num ns fun m hm => h m (.tail _ hm)]
    rfl
theorem num9 {n : Nat} (h : n < 10 ^ 9) : (TL.numL n).length ≤ 9 := TL.numL_len (by decide) h
structure RowW (ws : List (List Nat)) : Prop where
  ne : ws ≠ []
  len : ws.length ≤ 20
  w : ∀ w ∈ ws, w.length ≤ 20 ∧ 32 ∉ w ∧ 10 ∉ w
def joinR (ws : List (List Nat)) : List Nat := TL.joinL [32] ws
theorem RowW.split {ws : List (List Nat)} (h : RowW ws) : TL.spl [32] 0 [] (joinR ws) = ws := TL.spl_join h.ne fun w hw => (h.w w hw).2.1
theorem RowW.jlen {ws : List (List Nat)} (h : RowW ws) : (joinR ws).length ≤ 420 := joinL_k (k := 20) (m := 20) (fun w hw => (h.w w hw).1) h.len
theorem RowW.nl {ws : List (List Nat)} (h : RowW ws) : 10 ∉ joinR ws := fun hm => by
  rcases mem_joinL hm with h' | ⟨w, h1, h2⟩
  · exact absurd h' (by decide)
  · exact (h.w w h1).2.2 h2
theorem text_split {rows : List (List Nat)} (h : rows ≠ []) (hn : ∀ r ∈ rows, 10 ∉ r) : TL.spl [10] 0 [] (TL.joinL [10] rows) = rows := TL.spl_join h hn
theorem joinL_snoc (sep w : List Nat) : ∀ {ws : List (List Nat)}, ws ≠ [] → TL.joinL sep (ws ++ [w]) = TL.joinL sep ws ++ (sep ++ w)
  | [], h => absurd rfl h
  | [x], _ => rfl
  | x :: y :: ws, _ => by
    show x ++ (sep ++ TL.joinL sep (y :: ws ++ [w])) = x ++ (sep ++ TL.joinL sep (y :: ws)) ++ (sep ++ w)
    rw [joinL_snoc sep w (ws := y :: ws) (by simp)]
    simp only [List.append_assoc]
theorem gAddS_S {a b : List Nat} (h : a.length + b.length ≤ 16777216) : gAddS (sD a) (sD b) = some (sD (a ++ b)) := by
  show (if (SX.S a).length + (SX.S b).length ≤ sizeLine then some (D.str (SX.S a ++ SX.S b)) else none) = _
  rw [SX.S_len, SX.S_len, if_pos (show _ ≤ sizeLine from h), SX.S_cat]
theorem gIx_mod {os : List (List Nat)} {x n : Int} (hn : n = os.length) (h0 : 0 < n) : ∃ o ∈ os, gIx (.lst (os.map sD)) (.int (x % n)) = some (sD o) := by
  have h1 := Int.emod_nonneg x (show n ≠ 0 by omega)
  have h2 := Int.emod_lt_of_pos x h0
  have h3 : (x % n).toNat < os.length := by omega
  exact ⟨os[(x % n).toNat], List.getElem_mem h3, gIx_nn (en := sD) h1 (List.getElem?_eq_getElem h3)⟩
theorem allN_bad : ∀ {ws : List (List Nat)} {w : List Nat}, w ∈ ws → numO w = none → allN ws = none
  | [], _, h, _ => nomatch h
  | x :: ws, w, h, e => by
    unfold allN
    rcases List.mem_cons.mp h with h | h
    · subst h
      rw [e]
      rfl
    · rw [allN_bad h e]
      cases numO x <;> rfl
abbrev odds : List (List Nat) := [[], [120], [45, 49], [43, 49], [48, 49], [48, 48], [49, 48, 48, 48, 48, 48, 48, 48, 48, 48], [50, 120]]
theorem odds_num : ∀ o ∈ odds, numO o = none := by
  intro o ho
  simp only [odds, List.mem_cons, List.not_mem_nil, or_false] at ho
  rcases ho with h | h | h | h | h | h | h | h <;> (subst h; rfl)
theorem small_w {os : List (List Nat)} (h : (os.all fun w => decide (w.length ≤ 20) && (!w.contains 32 && !w.contains 10)) = true) : ∀ w ∈ os, w.length ≤ 20 ∧ 32 ∉ w ∧ 10 ∉ w := by
  intro w hw
  have := List.all_eq_true.mp h w hw
  simpa using this
theorem rowW_sub {ws vs : List (List Nat)} (h : ∀ w ∈ ws, w ∈ vs) (hv : ∀ w ∈ vs, w.length ≤ 20 ∧ 32 ∉ w ∧ 10 ∉ w) (hn : ws ≠ []) (hl : ws.length ≤ 20) : RowW ws := ⟨hn, hl, fun w hw => hv w (h w hw)⟩
theorem joinR_gj {ws : List (List Nat)} (h : RowW ws) : gJoin (sD [32]) (.lst (ws.map sD)) = some (sD (joinR ws)) := gJoin_k (k := 20) (m := 20) (fun w hw => (h.w w hw).1) h.len (by decide)

theorem joinR_app {ws : List (List Nat)} (h : ws ≠ []) : ∀ ex : List (List Nat), joinR (ws ++ ex) = joinR ws ++ (ex.map (32 :: ·)).flatten
  | [] => by simp
  | w :: ex => by
    have := joinR_app (ws := ws ++ [w]) (by simp) ex
    rw [List.append_assoc] at this
    rw [show ws ++ w :: ex = ws ++ ([w] ++ ex) from rfl, this]
    unfold joinR
    rw [joinL_snoc [32] w h]
    simp
theorem repl1_S {p q : List Nat} (h : 32 ∉ p) : repl1 (SX.S (p ++ (32 :: q))) sp1 sp2 = SX.S (p ++ (32 :: 32 :: q)) := by
  have e := SX.partition_some (a := p ++ ([32] ++ q)) (b := [32]) (by simp) (SX.par_head (sep := []) q h)
  unfold Txt.partition at e
  unfold repl1
  have e1 : sp1 = SX.S [32] := rfl
  have e2 : sp2 = SX.S [32, 32] := rfl
  rw [e1, e2]
  have e0 : p ++ ([32] ++ q) = p ++ (32 :: q) := rfl
  rw [e0] at e
  cases hc : PySem.Builtin.Str.occurrences (SX.S (p ++ (32 :: q))) (SX.S [32]) 0 (SX.S (p ++ (32 :: q))).length 1 with
  | nil =>
    rw [hc] at e
    have e := congrArg (fun x : Str × Str × Str => x.2.1) e
    have e : (Str.empty : Str) = SX.S [32] := e
    have := congrArg Str.length e
    exact absurd this (by decide)
  | cons i r =>
    have hr : r = [] := by
      have := StrLaws.occ_length_le (SX.S (p ++ (32 :: q))) (SX.S [32]) 0 (SX.S (p ++ (32 :: q))).length 1
      rw [hc, List.length_cons] at this
      exact List.length_eq_zero_iff.mp (by omega)
    subst hr
    rw [hc] at e
    have f1 := congrArg (fun x : Str × Str × Str => x.1) e
    have f2 := congrArg (fun x : Str × Str × Str => x.2.2) e
    have f1 : PySem.Builtin.Str.strSub (SX.S (p ++ (32 :: q))) 0 i = SX.S p := f1
    have f2 : PySem.Builtin.Str.strSub (SX.S (p ++ (32 :: q))) (i + (SX.S [32]).length) (SX.S (p ++ (32 :: q))).length = SX.S q := f2
    rw [if_neg (by simp)]
    show PySem.Builtin.Str.glued (SX.S [32, 32]) [PySem.Builtin.Str.strSub (SX.S (p ++ (32 :: q))) 0 i, PySem.Builtin.Str.strSub (SX.S (p ++ (32 :: q))) (i + (SX.S [32]).length) (SX.S (p ++ (32 :: q))).length] = _
    rw [f1, f2]
    show (⟨(SX.S p).cps ++ (SX.S [32, 32]).cps ++ (SX.S q).cps⟩ : Str) = _
    refine TL.ext_tl ?_
    show ((SX.S p).cps ++ (SX.S [32, 32]).cps ++ (SX.S q).cps).toList = p ++ (32 :: 32 :: q)
    simp
theorem cut_last (xs : List (List Nat)) : cutD (xs.map sD) none (some (-1)) = xs.dropLast.map sD := by
  unfold cutD
  rw [HT.sIx_none, Nat.sub_zero, List.drop_zero, List.length_map, List.dropLast_eq_take, List.map_take]
  congr 1
  show (if (-1 : Int) < 0 then (-1 + (xs.length : Int)).toNat else min (-1 : Int).toNat xs.length) = xs.length - 1
  rw [if_pos (by decide)]
  omega

/-! ### try, applied -/
def tryEnd (i : Nat) : Out → Out
  | .nx ρ' => .nx (ρ'.set i .non)
  | .ret d => .ret d
  | _ => .bad
section
variable {ks : List Cl} {h e k : Cl} {i : Nat} {Fb Fs : SFn} {ρ ρx ρ' : List D} {d : D} {F : List D → Rs} {G : List D → Rs} {fs : List D → Option (List D)} {dfl as : List D}
theorem dTryAs_exc (h1 : Fb ρ = .exc e d ρx) (h2 : e ∈ ks) (h3 : subX e h = true) : dTryAs ks h i Fb Fs ρ = tryEnd i (Fs (ρx.set i (.obj e [d]))) := by
  unfold dTryAs
  rw [h1]
  show (if e ∈ ks then (if subX e h = true then (match Fs (ρx.set i (.obj e [d])) with | .nx ρ' => Out.nx (ρ'.set i .non) | .ret d => Out.ret d | _ => Out.bad) else Out.exc e d ρx) else Out.bad) = _
  rw [if_pos h2, if_pos h3]
  cases Fs (ρx.set i (.obj e [d])) <;> rfl
theorem dTryAs_nx (h1 : Fb ρ = .nx ρ') : dTryAs ks h i Fb Fs ρ = .nx ρ' := by
  unfold dTryAs
  rw [h1]
theorem dTryOn_exc (h1 : Fb ρ = .exc e d ρx) (h2 : e ∈ ks) (h3 : subX e h = true) {k' : D} (hs : Fs ρx = .ret k') : dTryOn ks h Fb Fs ρ = .ret k' := by
  unfold dTryOn
  rw [h1]
  show (if e ∈ ks then (if subX e h = true then (match Fs ρx with | .exc _ _ _ => Out.bad | o => o) else Out.exc e d ρx) else Out.bad) = _
  rw [if_pos h2, if_pos h3, hs]
theorem dTryOn_nx (h1 : Fb ρ = .nx ρ') : dTryOn ks h Fb Fs ρ = .nx ρ' := by
  unfold dTryOn
  rw [h1]
theorem tryEnd_nx : tryEnd i (.nx ρ) = .nx (ρ.set i .non) := (rfl)
theorem tryEnd_ret : tryEnd i (.ret d) = .ret d := (rfl)
theorem dDropX_exc (h1 : F ρ = .exc e d) : dDropX F ρ = .exc e d ρ := by
  unfold dDropX
  rw [h1]
theorem dDropX_ok (h1 : F ρ = .ok d) : dDropX F ρ = .nx ρ := by
  unfold dDropX
  rw [h1]
theorem dAsgX_exc (h1 : F ρ = .exc e d) : dAsgX i F ρ = .exc e d ρ := by
  unfold dAsgX
  rw [h1]
theorem dAsgX_ok (h1 : F ρ = .ok d) : dAsgX i F ρ = .nx (ρ.set i d) := by
  unfold dAsgX
  rw [h1]
theorem dFunX_some (h1 : fs ρ = some as) : dFunX G fs dfl ρ = G (as ++ dfl) := by
  unfold dFunX
  rw [h1]
def atK (o : Option D) : Option D := match o with
  | some (.obj _ [d]) => some d
  | _ => none
def isXK (h : Cl) (o : Option D) : Option D := match o with
  | some (.obj k [_]) => some (.bl (subX k h))
  | _ => none
def isVK (o : Option D) : Option D := match o with
  | some (.obj _ [_]) => some (.bl true)
  | _ => none
theorem dAt_ap : dAt i ρ = atK ρ[i]? := (rfl)
theorem atK_some : atK (some (.obj k [d])) = some d := (rfl)
theorem dIsX_ap : dIsX i h ρ = isXK h ρ[i]? := (rfl)
theorem isXK_some : isXK h (some (.obj k [d])) = some (.bl (subX k h)) := (rfl)
theorem dIsV_ap : dIsV i ρ = isVK ρ[i]? := (rfl)
theorem isVK_some : isVK (some (.obj k [d])) = some (.bl true) := (rfl)
end

/-! ### data with truths, equal to itself -/
def gdb : Nat → D → Bool
  | _, .non => true
  | _, .bl _ => true
  | _, .int _ => true
  | _, .str _ => true
  | n + 1, .tup xs => xs.all (gdb n)
  | n + 1, .lst xs => xs.all (gdb n)
  | _, _ => false
theorem gdb_self : ∀ {n : Nat} {d : D}, gdb n d = true → PyData.eqv (toP d) (toP d) = true ∧ (toP d).plain = true ∧ (toP d).depth ≤ n := by
  intro n
  induction n with
  | zero =>
    intro d h
    cases d with
    | non => exact ⟨by simp [toP, PyData.eqv], by rw [toP]; rfl, by rw [toP]; exact Nat.zero_le _⟩
    | bl b => exact ⟨by simp [toP, PyData.eqv], by rw [toP]; rfl, by rw [toP]; exact Nat.zero_le _⟩
    | int i => exact ⟨by simp [toP, PyData.eqv], by rw [toP]; rfl, by rw [toP]; exact Nat.zero_le _⟩
    | str x => exact ⟨by simp [toP, PyData.eqv], by rw [toP]; rfl, by rw [toP]; exact Nat.zero_le _⟩
    | _ => exact nomatch h
  | succ n ih =>
    have all : ∀ xs : List D, (∀ x ∈ xs, gdb n x = true) → PyData.eqvAll (toPs xs) (toPs xs) = true ∧ PyData.plainAll (toPs xs) = true ∧ PyData.depthAll (toPs xs) ≤ n := by
      intro xs
      induction xs with
      | nil => intro _; exact ⟨by simp [toPs, PyData.eqvAll], by rw [toPs, PyData.plainAll], by rw [toPs, PyData.depthAll]; exact Nat.zero_le _⟩
      | cons x xs ihx =>
        intro h
        obtain ⟨a, b, c⟩ := ih (h x (.head _))
        obtain ⟨a2, b2, c2⟩ := ihx fun y hy => h y (.tail _ hy)
        refine ⟨by rw [toPs, PyData.eqvAll, a, a2]; rfl, by rw [toPs, PyData.plainAll, b, b2]; rfl, by rw [toPs, PyData.depthAll]; exact Nat.max_le.mpr ⟨c, c2⟩⟩
    intro d h
    cases d with
    | non => exact ⟨by simp [toP, PyData.eqv], by rw [toP]; rfl, by rw [toP]; exact Nat.zero_le _⟩
    | bl b => exact ⟨by simp [toP, PyData.eqv], by rw [toP]; rfl, by rw [toP]; exact Nat.zero_le _⟩
    | int i => exact ⟨by simp [toP, PyData.eqv], by rw [toP]; rfl, by rw [toP]; exact Nat.zero_le _⟩
    | str x => exact ⟨by simp [toP, PyData.eqv], by rw [toP]; rfl, by rw [toP]; exact Nat.zero_le _⟩
    | tup xs =>
      unfold gdb at h
      rw [List.all_eq_true] at h
      obtain ⟨a, b, c⟩ := all xs h
      exact ⟨by rw [toP, PyData.eqv]; exact a, by rw [toP, PyData.plain]; exact b, by rw [toP, PyData.depth]; exact Nat.succ_le_succ c⟩
    | lst xs =>
      unfold gdb at h
      rw [List.all_eq_true] at h
      obtain ⟨a, b, c⟩ := all xs h
      exact ⟨by rw [toP, PyData.eqv]; exact a, by rw [toP, PyData.plain]; exact b, by rw [toP, PyData.depth]; exact Nat.succ_le_succ c⟩
    | _ => exact nomatch h
theorem okEq_selfb {n : Nat} {a : D} (h : gdb n a = true) (hn : n ≤ 60) : okEq a a = true := by
  obtain ⟨_, b, c⟩ := gdb_self h
  unfold okEq
  rw [b]
  simp only [Bool.true_and, decide_eq_true_eq]
  exact Nat.le_trans (Nat.min_le_left _ _) (Nat.le_trans c hn)
theorem gEq_selfb {n : Nat} {a : D} (h : gdb n a = true) (hn : n ≤ 60) : gEq a a = some (.bl true) := by
  unfold gEq deq
  rw [if_pos (okEq_selfb h hn), (gdb_self h).1]
theorem gNe_selfb {n : Nat} {a : D} (h : gdb n a = true) (hn : n ≤ 60) : gNe a a = some (.bl false) := by
  unfold gNe deq
  rw [if_pos (okEq_selfb h hn), (gdb_self h).1]
  rfl

/-! ### dicts of pairs -/
def dTP (kvs : List ((Int × Int) × Int)) : D := .dT (kvs.map fun q => ([q.1.1, q.1.2], .int q.2))
def lkP (kvs : List ((Int × Int) × Int)) (p : Int × Int) : Option Int := (kvs.find? fun q => decide (q.1 = p)).map (·.2)
theorem lkP_nil {p : Int × Int} : lkP [] p = none := rfl
theorem lkP_cons {q : (Int × Int) × Int} {r : List ((Int × Int) × Int)} {p : Int × Int} : lkP (q :: r) p = if q.1 = p then some q.2 else lkP r p := by
  unfold lkP
  rw [List.find?_cons]
  by_cases h : q.1 = p
  · rw [decide_eq_true h, if_pos h]
    rfl
  · rw [decide_eq_false h, if_neg h]
theorem pairK (p q : Int × Int) : ([p.1, p.2] = [q.1, q.2]) ↔ p = q := by
  obtain ⟨a, b⟩ := p
  obtain ⟨c, d⟩ := q
  simp
theorem valD_P (p : Int × Int) : ∀ kvs : List ((Int × Int) × Int), valD (kvs.map fun q => ([q.1.1, q.1.2], D.int q.2)) [p.1, p.2] = (lkP kvs p).map .int
  | [] => rfl
  | q :: r => by
    have ih := valD_P p r
    rw [lkP_cons]
    unfold valD at ih ⊢
    rw [List.map_cons, List.find?_cons]
    by_cases h : q.1 = p
    · have e : decide ([q.1.1, q.1.2] = [p.1, p.2]) = true := decide_eq_true ((pairK q.1 p).mpr h)
      rw [e, if_pos h]
      rfl
    · have e : decide ([q.1.1, q.1.2] = [p.1, p.2]) = false := decide_eq_false fun z => h ((pairK q.1 p).mp z)
      rw [e, if_neg h]
      exact ih
theorem asT_pair (p : Int × Int) : asT (enc p) = some [p.1, p.2] := rfl
theorem getP (kvs : List ((Int × Int) × Int)) (p : Int × Int) : getD' (dTP kvs) (enc p) = some ((lkP kvs p).map .int) := by
  show (asT (enc p)).map (fun k => valD (kvs.map fun q => ([q.1.1, q.1.2], D.int q.2)) k) = _
  rw [asT_pair]
  exact congrArg some (valD_P p kvs)
theorem lkP_some {kvs : List ((Int × Int) × Int)} {p : Int × Int} (h : p ∈ kvs.map (·.1)) : ∃ l, lkP kvs p = some l := by
  induction kvs with
  | nil => exact nomatch h
  | cons q r ih =>
    rw [lkP_cons]
    by_cases e : q.1 = p
    · exact ⟨q.2, if_pos e⟩
    · rw [if_neg e]
      rcases List.mem_cons.mp h with h | h
      · exact absurd h.symm e
      · exact ih h
theorem lkP_mem {kvs : List ((Int × Int) × Int)} (nd : (kvs.map (·.1)).Nodup) {q : (Int × Int) × Int} (h : q ∈ kvs) : lkP kvs q.1 = some q.2 := by
  induction kvs with
  | nil => exact nomatch h
  | cons x r ih =>
    rw [lkP_cons]
    rw [List.map_cons, List.nodup_cons] at nd
    rcases List.mem_cons.mp h with h | h
    · subst h
      exact if_pos rfl
    · rw [if_neg fun e => nd.1 (by rw [e]; exact List.mem_map.mpr ⟨q, h, rfl⟩)]
      exact ih nd.2 h
theorem gDIx_P {kvs : List ((Int × Int) × Int)} {p : Int × Int} {l : Int} (h : lkP kvs p = some l) : gDIx (dTP kvs) (enc p) = some (.int l) := by
  unfold gDIx
  rw [getP, h]
  rfl
theorem gDNotIn_P {kvs : List ((Int × Int) × Int)} {p : Int × Int} {l : Int} (h : lkP kvs p = some l) : gDNotIn (enc p) (dTP kvs) = some (.bl false) := by
  unfold gDNotIn
  rw [getP, h]
  rfl
theorem putP {kvs : List ((Int × Int) × Int)} {p : Int × Int} {l : Int} (h : p ∉ kvs.map (·.1)) (hl : kvs.length < 100000) : putD' (dTP kvs) (enc p) (.int l) = some (dTP (kvs ++ [(p, l)])) := by
  show (asT (enc p)).bind (fun k => if (kvs.map fun q => ([q.1.1, q.1.2], D.int q.2)).length < 100000 then some (D.dT (putD (kvs.map fun q => ([q.1.1, q.1.2], D.int q.2)) k (.int l))) else none) = _
  rw [asT_pair, Option.bind_some, if_pos (by rw [List.length_map]; exact hl)]
  unfold putD
  have e : ((kvs.map fun q => ([q.1.1, q.1.2], D.int q.2)).any fun kv => decide (kv.1 = [p.1, p.2])) = false := by
    rw [List.any_eq_false]
    intro x hx
    obtain ⟨q, hq, rfl⟩ := List.mem_map.mp hx
    simp only [decide_eq_true_eq]
    exact fun z => h (List.mem_map.mpr ⟨q, hq, (pairK q.1 p).mp z⟩)
  rw [if_neg (by rw [e]; decide)]
  unfold dTP
  rw [List.map_append]
  rfl
theorem keysP (kvs : List ((Int × Int) × Int)) : gKeysD (dTP kvs) = some (.lst ((kvs.map (·.1)).map enc)) := by
  show some (D.lst ((kvs.map fun q => ([q.1.1, q.1.2], D.int q.2)).map fun kv => .tup (kv.1.map .int))) = _
  rw [List.map_map, List.map_map]
  rfl
theorem asPairs_P (f : Int × Int → Int) : ∀ ps : List (Int × Int), asPairs (ps.map fun p => .tup [enc p, .int (f p)]) = some ((ps.map fun p => (p, f p)).map fun q => ([q.1.1, q.1.2], D.int q.2))
  | [] => rfl
  | p :: ps => by
    rw [List.map_cons]
    show (asT (enc p)).bind (fun ns => (asPairs (ps.map fun p => .tup [enc p, .int (f p)])).map ((ns, D.int (f p)) :: ·)) = _
    rw [asT_pair, Option.bind_some, asPairs_P f ps]
    rfl
theorem dictP_eq {f : Int × Int → Int} {ps : List (Int × Int)} (nd : ps.Nodup) : gDictP (.lst (ps.map fun p => .tup [enc p, .int (f p)])) = some (dTP (ps.map fun p => (p, f p))) := by
  unfold gDictP
  rw [lstOf_lst, Option.bind_some, asPairs_P, Option.bind_some, if_pos]
  · rfl
  · rw [List.map_map, List.map_map]
    refine (List.pairwise_map).mpr (nd.imp fun h z => h ((pairK _ _).mp z))
theorem leT_pair (p q : Int × Int) : gLeT (enc p) (enc q) = some (.bl (decide (p.1 < q.1 ∨ (p.1 = q.1 ∧ p.2 ≤ q.2)))) := by
  show (asT (enc p)).bind (fun ns => (asT (enc q)).bind fun ms => some (D.bl (leTB ns ms))) = _
  rw [asT_pair, asT_pair]
  show some (D.bl (leTB [p.1, p.2] [q.1, q.2])) = _
  congr 2
  show (if decide (p.1 = q.1) = true then (if decide (p.2 = q.2) = true then decide (2 ≤ 2) else decide (p.2 ≤ q.2)) else decide (p.1 ≤ q.1)) = _
  by_cases h1 : p.1 = q.1
  · rw [decide_eq_true h1, if_pos rfl]
    by_cases h2 : p.2 = q.2
    · rw [decide_eq_true h2, if_pos rfl]
      exact (decide_eq_true (by omega)).symm
    · rw [decide_eq_false h2, if_neg (by decide)]
      exact decide_eq_decide.mpr (by omega)
  · rw [decide_eq_false h1, if_neg (by decide)]
    exact decide_eq_decide.mpr (by omega)

/-! ### plans read -/
abbrev kHands : List Nat := [104, 97, 110, 100, 115]
abbrev kLead : List Nat := [108, 101, 97, 100, 101, 114, 115]
abbrev kPass : List Nat := [112, 97, 115, 115]
theorem lit_hands : D.str ("hands" : Str) = sD kHands := (rfl)
theorem lit_lead : D.str ("leaders" : Str) = sD kLead := (rfl)
theorem lit_pass : D.str ("pass" : Str) = sD kPass := (rfl)
def natsD (ns : List Nat) : List D := ns.map fun (n : Nat) => D.int (n : Int)
def told (ws : List (List Nat)) (kw : List Nat) : Option (List Nat) := match ws with
  | w :: rest => if w = kw then allN rest else none
  | [] => none
theorem told_ok {rows : List (List (List Nat))} {k : Nat} {ws : List (List Nat)} {kw : List Nat} {ns : List Nat} (hk : rows[k]? = some ws) (hw : RowW ws) (h : told ws kw = some ns) :
    fn_told_numbers [.lst ((rows.map joinR).map sD), .int (k : Int), sD kw] = .ok (.lst (natsD ns)) := by
  obtain ⟨hlt, _⟩ := List.getElem?_eq_some_iff.mp hk
  have q1 : decide ((rows.length : Int) ≤ (k : Int)) = false := decide_eq_false (by omega)
  have ik : gIx (.lst ((rows.map joinR).map sD)) (.int (k : Int)) = some (sD (joinR ws)) := gIx_nn (en := sD) (by omega) (by rw [Int.toNat_natCast, List.getElem?_map, hk]; rfl)
  have hs : gSplit (sD (joinR ws)) (sD [32]) = some (.lst (ws.map sD)) := by
    have := hw.jlen
    rw [gSplit_S (by decide) (by omega), hw.split]
  unfold fn_told_numbers sm_told_numbers
  match ws, h, hw, hs, ik with
  | w :: rest, h, hw, hs, ik =>
    obtain ⟨e1, e2⟩ : w = kw ∧ allN rest = some ns := by
      have h : (if w = kw then allN rest else none) = some ns := h
      split at h
      · exact ⟨by assumption, h⟩
      · cases h
    have c1 : cutD ((w :: rest).map sD) (some 1) none = rest.map sD := cut_hi (en := sD) (by decide)
    have hn : fn_numbers_of [.lst (rest.map sD)] = .ok (nN (some ns)) := by
      have hl := hw.len
      rw [List.length_cons] at hl
      rw [numbers_of_eq (by omega) fun x hx => Nat.le_trans (hw.w x (.tail _ hx)).1 (by decide), e2]
    have hn' : fn_numbers_of [.lst (rest.map sD)] = .ok (.lst (natsD ns)) := hn
    have i0 : gIx (.lst ((w :: rest).map sD)) (.int 0) = some (sD w) := gIx_nn (en := sD) (by decide) rfl
    have hd : decide (w = kw) = true := decide_eq_true e1
    simp only [bindS, mapS, rng_len, dSeq_ap, seqK_nx, seqK_ret, seqK_cont, seqK_brk, seqK_exc, dNext_ap, dAsg_ap, asgK_some, dRet_ap, retK_some, dIfS_ap, ifK_true, ifK_false, dDrop_ap, dropK_some, dApp_ap, appK_some, dExt_ap, extK_some, dClear_ap, clearK_some, dFor_ap, forK_some, dUnpk_ap, unpK_some, dFst_ap, fstK_some, dRaise_ap, raiK_some, runF_ap, runK_ret, runK_nx, runK_exc, runI_ap, runIK_nx, runIK_exc, dVar_ap, dC_ap, d1_ap, d2_ap, tB_ap, asB_bl, tAndF_ap, tOrF_ap, tNotF_ap, dAnd_ap, dOr_ap, dNot_ap, dIf_ap, ite_and, ite_or, ite_andD, ite_orD, dNilA_ap, dConsA_ap, dTup_ap, dLst_ap, dImm_ap, oNone_ap, oSome_ap, asI_int, dCut_ap, cutK_lst, cutK_scr, dFld_ap, fldK_obj, dCall_ap, dCallN_ap, dFun_ap, okR_ok, dFunN_ap, okRN_lst, okRN_dI, okRN_dT, dMethN_ap, dMeth_ap, isObj_obj, uName_ap, uNil_ap, uCons_ap, uTup_ap, iLst_ap, lstOf_lst, lstOf_scr, iTupD_ap, tupOf_tup, iRev_ap, iEnum_ap, iRange1_ap, rng1K_int, iRange2_ap, rng2K_int, dLc_ap, tTrue_ap, dChain_ap, seqOf_lst, seqOf_tup, seqOf_scr, gLen_lst, gLen_tup, gLen_scr, gCat_lst, gAdd_int, gSub_int, gMul_int, gMod_int, gDiv_int, gLt_int, gLe_int, gGt_int, gGe_int, gMax2_int, gMin2_int, gIsi_lst, gEq_int, gNe_int, bindS, mapS, rng_len, Int.toNat_natCast, List.getElem?_cons_zero, List.getElem?_cons_succ, List.set_cons_zero, List.set_cons_succ, List.append_nil, List.nil_append, List.cons_append, List.replicate_succ, List.replicate_zero, List.length_map, List.length_cons, List.length_nil, Bool.not_true, Bool.not_false, decide_true, decide_false, reduceIte, Bool.false_eq_true, and_true, true_and, or_true, true_or, and_self, Bool.and_true, Bool.true_and, Bool.and_false, Bool.false_and, Bool.or_false, Bool.false_or, Bool.or_true, Bool.true_or, Int.reduceLT, Int.reduceLE, Int.reducePow, Int.reduceNeg, Int.reduceAdd, Int.reduceSub, Int.reduceMul, Int.reduceToNat, Nat.reduceLT, Nat.reduceAdd, Nat.reduceLeDiff, Nat.reducePow, dDGet2_ap, dPut_ap, dForE_ap, forEK_some, dMethPop_ap, dImm_ap, gIsN_non, gNotN_non, isNon_int, isNon_non, flat_int, in_int, notIn_int, eq_ints, ne_ints, eq_nil, ne_nil, gDIn_dict, gDNotIn_dict, getD'_dict, dSetM_ap, setmK_non, setmK_lst, isNon_lst, gIsi_list_non, gGe_int, q1, ik, lit_sp, hs, c1, hn', i0, gNe_sD, hd]
theorem told_bad {rows : List (List (List Nat))} {k : Nat} {kw : List Nat} (h : rows[k]? = none ∨ ∃ ws, rows[k]? = some ws ∧ RowW ws ∧ told ws kw = none) :
    fn_told_numbers [.lst ((rows.map joinR).map sD), .int (k : Int), sD kw] = .exc .NoText (.int ((k : Int) + 1)) := by
  unfold fn_told_numbers sm_told_numbers
  rcases h with h | ⟨ws, hk, hw, h⟩
  · have hle : rows.length ≤ k := List.getElem?_eq_none_iff.mp h
    have q1 : decide ((rows.length : Int) ≤ (k : Int)) = true := decide_eq_true (by omega)
    simp only [bindS, mapS, rng_len, dSeq_ap, seqK_nx, seqK_ret, seqK_cont, seqK_brk, seqK_exc, dNext_ap, dAsg_ap, asgK_some, dRet_ap, retK_some, dIfS_ap, ifK_true, ifK_false, dDrop_ap, dropK_some, dApp_ap, appK_some, dExt_ap, extK_some, dClear_ap, clearK_some, dFor_ap, forK_some, dUnpk_ap, unpK_some, dFst_ap, fstK_some, dRaise_ap, raiK_some, runF_ap, runK_ret, runK_nx, runK_exc, runI_ap, runIK_nx, runIK_exc, dVar_ap, dC_ap, d1_ap, d2_ap, tB_ap, asB_bl, tAndF_ap, tOrF_ap, tNotF_ap, dAnd_ap, dOr_ap, dNot_ap, dIf_ap, ite_and, ite_or, ite_andD, ite_orD, dNilA_ap, dConsA_ap, dTup_ap, dLst_ap, dImm_ap, oNone_ap, oSome_ap, asI_int, dCut_ap, cutK_lst, cutK_scr, dFld_ap, fldK_obj, dCall_ap, dCallN_ap, dFun_ap, okR_ok, dFunN_ap, okRN_lst, okRN_dI, okRN_dT, dMethN_ap, dMeth_ap, isObj_obj, uName_ap, uNil_ap, uCons_ap, uTup_ap, iLst_ap, lstOf_lst, lstOf_scr, iTupD_ap, tupOf_tup, iRev_ap, iEnum_ap, iRange1_ap, rng1K_int, iRange2_ap, rng2K_int, dLc_ap, tTrue_ap, dChain_ap, seqOf_lst, seqOf_tup, seqOf_scr, gLen_lst, gLen_tup, gLen_scr, gCat_lst, gAdd_int, gSub_int, gMul_int, gMod_int, gDiv_int, gLt_int, gLe_int, gGt_int, gGe_int, gMax2_int, gMin2_int, gIsi_lst, gEq_int, gNe_int, bindS, mapS, rng_len, Int.toNat_natCast, List.getElem?_cons_zero, List.getElem?_cons_succ, List.set_cons_zero, List.set_cons_succ, List.append_nil, List.nil_append, List.cons_append, List.replicate_succ, List.replicate_zero, List.length_map, List.length_cons, List.length_nil, Bool.not_true, Bool.not_false, decide_true, decide_false, reduceIte, Bool.false_eq_true, and_true, true_and, or_true, true_or, and_self, Bool.and_true, Bool.true_and, Bool.and_false, Bool.false_and, Bool.or_false, Bool.false_or, Bool.or_true, Bool.true_or, Int.reduceLT, Int.reduceLE, Int.reducePow, Int.reduceNeg, Int.reduceAdd, Int.reduceSub, Int.reduceMul, Int.reduceToNat, Nat.reduceLT, Nat.reduceAdd, Nat.reduceLeDiff, Nat.reducePow, dDGet2_ap, dPut_ap, dForE_ap, forEK_some, dMethPop_ap, dImm_ap, gIsN_non, gNotN_non, isNon_int, isNon_non, flat_int, in_int, notIn_int, eq_ints, ne_ints, eq_nil, ne_nil, gDIn_dict, gDNotIn_dict, getD'_dict, dSetM_ap, setmK_non, setmK_lst, isNon_lst, gIsi_list_non, gGe_int, q1, dRaise_ap, raiK_some]
  · obtain ⟨hlt, _⟩ := List.getElem?_eq_some_iff.mp hk
    have q1 : decide ((rows.length : Int) ≤ (k : Int)) = false := decide_eq_false (by omega)
    have ik : gIx (.lst ((rows.map joinR).map sD)) (.int (k : Int)) = some (sD (joinR ws)) := gIx_nn (en := sD) (by omega) (by rw [Int.toNat_natCast, List.getElem?_map, hk]; rfl)
    have hs : gSplit (sD (joinR ws)) (sD [32]) = some (.lst (ws.map sD)) := by
      have := hw.jlen
      rw [gSplit_S (by decide) (by omega), hw.split]
    match ws, h, hw, hs, ik with
    | [], _, hw, _, _ => exact absurd rfl hw.ne
    | w :: rest, h, hw, hs, ik =>
      have c1 : cutD ((w :: rest).map sD) (some 1) none = rest.map sD := cut_hi (en := sD) (by decide)
      have hn : fn_numbers_of [.lst (rest.map sD)] = .ok (nN (allN rest)) := by
        have hl := hw.len
        rw [List.length_cons] at hl
        exact numbers_of_eq (by omega) fun x hx => Nat.le_trans (hw.w x (.tail _ hx)).1 (by decide)
      have i0 : gIx (.lst ((w :: rest).map sD)) (.int 0) = some (sD w) := gIx_nn (en := sD) (by decide) rfl
      have h : (if w = kw then allN rest else none) = none := h
      by_cases e : w = kw
      · rw [if_pos e] at h
        rw [h] at hn
        have hn' : fn_numbers_of [.lst (rest.map sD)] = .ok .non := hn
        have hd : decide (w = kw) = true := decide_eq_true e
        simp only [bindS, mapS, rng_len, dSeq_ap, seqK_nx, seqK_ret, seqK_cont, seqK_brk, seqK_exc, dNext_ap, dAsg_ap, asgK_some, dRet_ap, retK_some, dIfS_ap, ifK_true, ifK_false, dDrop_ap, dropK_some, dApp_ap, appK_some, dExt_ap, extK_some, dClear_ap, clearK_some, dFor_ap, forK_some, dUnpk_ap, unpK_some, dFst_ap, fstK_some, dRaise_ap, raiK_some, runF_ap, runK_ret, runK_nx, runK_exc, runI_ap, runIK_nx, runIK_exc, dVar_ap, dC_ap, d1_ap, d2_ap, tB_ap, asB_bl, tAndF_ap, tOrF_ap, tNotF_ap, dAnd_ap, dOr_ap, dNot_ap, dIf_ap, ite_and, ite_or, ite_andD, ite_orD, dNilA_ap, dConsA_ap, dTup_ap, dLst_ap, dImm_ap, oNone_ap, oSome_ap, asI_int, dCut_ap, cutK_lst, cutK_scr, dFld_ap, fldK_obj, dCall_ap, dCallN_ap, dFun_ap, okR_ok, dFunN_ap, okRN_lst, okRN_dI, okRN_dT, dMethN_ap, dMeth_ap, isObj_obj, uName_ap, uNil_ap, uCons_ap, uTup_ap, iLst_ap, lstOf_lst, lstOf_scr, iTupD_ap, tupOf_tup, iRev_ap, iEnum_ap, iRange1_ap, rng1K_int, iRange2_ap, rng2K_int, dLc_ap, tTrue_ap, dChain_ap, seqOf_lst, seqOf_tup, seqOf_scr, gLen_lst, gLen_tup, gLen_scr, gCat_lst, gAdd_int, gSub_int, gMul_int, gMod_int, gDiv_int, gLt_int, gLe_int, gGt_int, gGe_int, gMax2_int, gMin2_int, gIsi_lst, gEq_int, gNe_int, bindS, mapS, rng_len, Int.toNat_natCast, List.getElem?_cons_zero, List.getElem?_cons_succ, List.set_cons_zero, List.set_cons_succ, List.append_nil, List.nil_append, List.cons_append, List.replicate_succ, List.replicate_zero, List.length_map, List.length_cons, List.length_nil, Bool.not_true, Bool.not_false, decide_true, decide_false, reduceIte, Bool.false_eq_true, and_true, true_and, or_true, true_or, and_self, Bool.and_true, Bool.true_and, Bool.and_false, Bool.false_and, Bool.or_false, Bool.false_or, Bool.or_true, Bool.true_or, Int.reduceLT, Int.reduceLE, Int.reducePow, Int.reduceNeg, Int.reduceAdd, Int.reduceSub, Int.reduceMul, Int.reduceToNat, Nat.reduceLT, Nat.reduceAdd, Nat.reduceLeDiff, Nat.reducePow, dDGet2_ap, dPut_ap, dForE_ap, forEK_some, dMethPop_ap, dImm_ap, gIsN_non, gNotN_non, isNon_int, isNon_non, flat_int, in_int, notIn_int, eq_ints, ne_ints, eq_nil, ne_nil, gDIn_dict, gDNotIn_dict, getD'_dict, dSetM_ap, setmK_non, setmK_lst, isNon_lst, gIsi_list_non, gGe_int, q1, ik, lit_sp, hs, c1, hn', i0, gNe_sD, hd, dRaise_ap, raiK_some]
      · have hd : decide (w = kw) = false := decide_eq_false e
        simp only [bindS, mapS, rng_len, dSeq_ap, seqK_nx, seqK_ret, seqK_cont, seqK_brk, seqK_exc, dNext_ap, dAsg_ap, asgK_some, dRet_ap, retK_some, dIfS_ap, ifK_true, ifK_false, dDrop_ap, dropK_some, dApp_ap, appK_some, dExt_ap, extK_some, dClear_ap, clearK_some, dFor_ap, forK_some, dUnpk_ap, unpK_some, dFst_ap, fstK_some, dRaise_ap, raiK_some, runF_ap, runK_ret, runK_nx, runK_exc, runI_ap, runIK_nx, runIK_exc, dVar_ap, dC_ap, d1_ap, d2_ap, tB_ap, asB_bl, tAndF_ap, tOrF_ap, tNotF_ap, dAnd_ap, dOr_ap, dNot_ap, dIf_ap, ite_and, ite_or, ite_andD, ite_orD, dNilA_ap, dConsA_ap, dTup_ap, dLst_ap, dImm_ap, oNone_ap, oSome_ap, asI_int, dCut_ap, cutK_lst, cutK_scr, dFld_ap, fldK_obj, dCall_ap, dCallN_ap, dFun_ap, okR_ok, dFunN_ap, okRN_lst, okRN_dI, okRN_dT, dMethN_ap, dMeth_ap, isObj_obj, uName_ap, uNil_ap, uCons_ap, uTup_ap, iLst_ap, lstOf_lst, lstOf_scr, iTupD_ap, tupOf_tup, iRev_ap, iEnum_ap, iRange1_ap, rng1K_int, iRange2_ap, rng2K_int, dLc_ap, tTrue_ap, dChain_ap, seqOf_lst, seqOf_tup, seqOf_scr, gLen_lst, gLen_tup, gLen_scr, gCat_lst, gAdd_int, gSub_int, gMul_int, gMod_int, gDiv_int, gLt_int, gLe_int, gGt_int, gGe_int, gMax2_int, gMin2_int, gIsi_lst, gEq_int, gNe_int, bindS, mapS, rng_len, Int.toNat_natCast, List.getElem?_cons_zero, List.getElem?_cons_succ, List.set_cons_zero, List.set_cons_succ, List.append_nil, List.nil_append, List.cons_append, List.replicate_succ, List.replicate_zero, List.length_map, List.length_cons, List.length_nil, Bool.not_true, Bool.not_false, decide_true, decide_false, reduceIte, Bool.false_eq_true, and_true, true_and, or_true, true_or, and_self, Bool.and_true, Bool.true_and, Bool.and_false, Bool.false_and, Bool.or_false, Bool.false_or, Bool.or_true, Bool.true_or, Int.reduceLT, Int.reduceLE, Int.reducePow, Int.reduceNeg, Int.reduceAdd, Int.reduceSub, Int.reduceMul, Int.reduceToNat, Nat.reduceLT, Nat.reduceAdd, Nat.reduceLeDiff, Nat.reducePow, dDGet2_ap, dPut_ap, dForE_ap, forEK_some, dMethPop_ap, dImm_ap, gIsN_non, gNotN_non, isNon_int, isNon_non, flat_int, in_int, notIn_int, eq_ints, ne_ints, eq_nil, ne_nil, gDIn_dict, gDNotIn_dict, getD'_dict, dSetM_ap, setmK_non, setmK_lst, isNon_lst, gIsi_list_non, gGe_int, q1, ik, lit_sp, hs, c1, hn, i0, gNe_sD, hd, dRaise_ap, raiK_some]
/-- leaders that rise -/
structure GoodL (n : Nat) (L : List Int) : Prop where
  ne : L ≠ []
  up : L.Pairwise (· < ·)
  b : ∀ x ∈ L, 0 ≤ x ∧ x < n
  len : L.length ≤ 6
theorem GoodL.ded {n : Nat} {L : List Int} (g : GoodL n L) : sortI (ded L) = L := sortI_ded (g.up.imp fun h => Int.le_of_lt h) (g.up.imp fun h => Int.ne_of_lt h)
theorem gIx_lastI {L : List Int} (h : L ≠ []) : gIx (.lst (L.map .int)) (.int (-1)) = some (.int (lastI L)) := gIx_tlast h
theorem lastI_mem {L : List Int} (h : L ≠ []) : lastI L ∈ L := by
  unfold lastI
  rw [List.getLast?_eq_some_getLast h]
  exact List.getLast_mem h
theorem are_leaders_eq {n : Nat} {ps : List (Int × Int)} {L : List Int} (g : GoodL n L) : fn_are_leaders [webD n ps, .lst (L.map .int)] = .ok (.bl true) := by
  have hl : 0 < L.length := List.length_pos_iff.mpr g.ne
  have q0 : decide ((L.length : Int) = 0) = false := decide_eq_false (by omega)
  have hs : gSortSet (.lst (L.map .int)) = some (.lst (L.map .int)) := by
    rw [gSortSet_lst (by have := g.len; omega), g.ded]
  have hne : gNe (.lst (L.map .int)) (.lst (L.map .int)) = some (.bl false) := by rw [ne_ints, decide_eq_true rfl]; rfl
  obtain ⟨x, hx⟩ : ∃ x, L[0]? = some x := ⟨_, List.getElem?_eq_getElem hl⟩
  have i0 : gIx (.lst (L.map .int)) (.int 0) = some (.int x) := gIx_nn (en := D.int) (by decide) hx
  have h0 := g.b x (List.mem_of_getElem? hx)
  have h1 := g.b _ (lastI_mem g.ne)
  have q1 : decide (0 ≤ x) = true := decide_eq_true h0.1
  have q2 : decide (lastI L < (n : Int)) = true := decide_eq_true h1.2
  unfold fn_are_leaders sm_are_leaders webD
  simp only [bindS, mapS, rng_len, dSeq_ap, seqK_nx, seqK_ret, seqK_cont, seqK_brk, seqK_exc, dNext_ap, dAsg_ap, asgK_some, dRet_ap, retK_some, dIfS_ap, ifK_true, ifK_false, dDrop_ap, dropK_some, dApp_ap, appK_some, dExt_ap, extK_some, dClear_ap, clearK_some, dFor_ap, forK_some, dUnpk_ap, unpK_some, dFst_ap, fstK_some, dRaise_ap, raiK_some, runF_ap, runK_ret, runK_nx, runK_exc, runI_ap, runIK_nx, runIK_exc, dVar_ap, dC_ap, d1_ap, d2_ap, tB_ap, asB_bl, tAndF_ap, tOrF_ap, tNotF_ap, dAnd_ap, dOr_ap, dNot_ap, dIf_ap, ite_and, ite_or, ite_andD, ite_orD, dNilA_ap, dConsA_ap, dTup_ap, dLst_ap, dImm_ap, oNone_ap, oSome_ap, asI_int, dCut_ap, cutK_lst, cutK_scr, dFld_ap, fldK_obj, dCall_ap, dCallN_ap, dFun_ap, okR_ok, dFunN_ap, okRN_lst, okRN_dI, okRN_dT, dMethN_ap, dMeth_ap, isObj_obj, uName_ap, uNil_ap, uCons_ap, uTup_ap, iLst_ap, lstOf_lst, lstOf_scr, iTupD_ap, tupOf_tup, iRev_ap, iEnum_ap, iRange1_ap, rng1K_int, iRange2_ap, rng2K_int, dLc_ap, tTrue_ap, dChain_ap, seqOf_lst, seqOf_tup, seqOf_scr, gLen_lst, gLen_tup, gLen_scr, gCat_lst, gAdd_int, gSub_int, gMul_int, gMod_int, gDiv_int, gLt_int, gLe_int, gGt_int, gGe_int, gMax2_int, gMin2_int, gIsi_lst, gEq_int, gNe_int, bindS, mapS, rng_len, Int.toNat_natCast, List.getElem?_cons_zero, List.getElem?_cons_succ, List.set_cons_zero, List.set_cons_succ, List.append_nil, List.nil_append, List.cons_append, List.replicate_succ, List.replicate_zero, List.length_map, List.length_cons, List.length_nil, Bool.not_true, Bool.not_false, decide_true, decide_false, reduceIte, Bool.false_eq_true, and_true, true_and, or_true, true_or, and_self, Bool.and_true, Bool.true_and, Bool.and_false, Bool.false_and, Bool.or_false, Bool.false_or, Bool.or_true, Bool.true_or, Int.reduceLT, Int.reduceLE, Int.reducePow, Int.reduceNeg, Int.reduceAdd, Int.reduceSub, Int.reduceMul, Int.reduceToNat, Nat.reduceLT, Nat.reduceAdd, Nat.reduceLeDiff, Nat.reducePow, dDGet2_ap, dPut_ap, dForE_ap, forEK_some, dMethPop_ap, dImm_ap, gIsN_non, gNotN_non, isNon_int, isNon_non, flat_int, in_int, notIn_int, eq_ints, ne_ints, eq_nil, ne_nil, gDIn_dict, gDNotIn_dict, getD'_dict, dSetM_ap, setmK_non, setmK_lst, isNon_lst, gIsi_list_non, q0, hs, hne, i0, gGe_int, q1, gNeg_int, gIx_lastI g.ne, q2]
def planD (n : Int) (ps : List (Int × Int)) (L : List Int) (lim : Int × Int → Int) : D := .obj .Plan [webD n ps, .lst (L.map .int), dTP ((sortE ps).map fun p => (p, lim p))]
theorem Plan_init_eq {n : Nat} {ps : List (Int × Int)} {L : List Int} {kvs : List ((Int × Int) × Int)} {lim : Int × Int → Int} (v : Valid n ps) (hl : ps.length ≤ 1000) (g : GoodL n L) (hk : ∀ p ∈ ps, lkP kvs p = some (lim p)) :
    fn_Plan_init [webD n ps, .lst (L.map .int), dTP kvs] = .ok (planD n ps L lim) := by
  have hp := sortE_perm ps
  have hm : ∀ p ∈ sortE ps, lkP kvs p = some (lim p) := fun p h => hk p (hp.mem_iff.mp h)
  obtain ⟨ρ', e, z4, rfl⟩ := forD_map (en := (enc : Int × Int → D)) (u := uName 4) (F := sb_Plan_init_0) (all := sortE ps) (ρ := [.obj .Plan [], webD n ps, .lst (L.map .int), dTP kvs, .non])
    (fun done ρ => ∃ z4 : D, ρ = [.obj .Plan [], webD n ps, .lst (L.map .int), dTP kvs, z4]) ⟨_, rfl⟩ (fun done p rest ρ ed ⟨z4, e⟩ => by
      subst e
      have hpm : p ∈ sortE ps := by rw [← ed]; simp
      refine ⟨_, _, rfl, .inl (?_ : sb_Plan_init_0 _ = .nx [.obj .Plan [], webD n ps, .lst (L.map .int), dTP kvs, enc p]), _, rfl⟩
      unfold sb_Plan_init_0
      have hh := gDNotIn_P (hm p hpm)
      simp only [bindS, mapS, rng_len, dSeq_ap, seqK_nx, seqK_ret, seqK_cont, seqK_brk, seqK_exc, dNext_ap, dAsg_ap, asgK_some, dRet_ap, retK_some, dIfS_ap, ifK_true, ifK_false, dDrop_ap, dropK_some, dApp_ap, appK_some, dExt_ap, extK_some, dClear_ap, clearK_some, dFor_ap, forK_some, dUnpk_ap, unpK_some, dFst_ap, fstK_some, dRaise_ap, raiK_some, runF_ap, runK_ret, runK_nx, runK_exc, runI_ap, runIK_nx, runIK_exc, dVar_ap, dC_ap, d1_ap, d2_ap, tB_ap, asB_bl, tAndF_ap, tOrF_ap, tNotF_ap, dAnd_ap, dOr_ap, dNot_ap, dIf_ap, ite_and, ite_or, ite_andD, ite_orD, dNilA_ap, dConsA_ap, dTup_ap, dLst_ap, dImm_ap, oNone_ap, oSome_ap, asI_int, dCut_ap, cutK_lst, cutK_scr, dFld_ap, fldK_obj, dCall_ap, dCallN_ap, dFun_ap, okR_ok, dFunN_ap, okRN_lst, okRN_dI, okRN_dT, dMethN_ap, dMeth_ap, isObj_obj, uName_ap, uNil_ap, uCons_ap, uTup_ap, iLst_ap, lstOf_lst, lstOf_scr, iTupD_ap, tupOf_tup, iRev_ap, iEnum_ap, iRange1_ap, rng1K_int, iRange2_ap, rng2K_int, dLc_ap, tTrue_ap, dChain_ap, seqOf_lst, seqOf_tup, seqOf_scr, gLen_lst, gLen_tup, gLen_scr, gCat_lst, gAdd_int, gSub_int, gMul_int, gMod_int, gDiv_int, gLt_int, gLe_int, gGt_int, gGe_int, gMax2_int, gMin2_int, gIsi_lst, gEq_int, gNe_int, bindS, mapS, rng_len, Int.toNat_natCast, List.getElem?_cons_zero, List.getElem?_cons_succ, List.set_cons_zero, List.set_cons_succ, List.append_nil, List.nil_append, List.cons_append, List.replicate_succ, List.replicate_zero, List.length_map, List.length_cons, List.length_nil, Bool.not_true, Bool.not_false, decide_true, decide_false, reduceIte, Bool.false_eq_true, and_true, true_and, or_true, true_or, and_self, Bool.and_true, Bool.true_and, Bool.and_false, Bool.false_and, Bool.or_false, Bool.false_or, Bool.or_true, Bool.true_or, Int.reduceLT, Int.reduceLE, Int.reducePow, Int.reduceNeg, Int.reduceAdd, Int.reduceSub, Int.reduceMul, Int.reduceToNat, Nat.reduceLT, Nat.reduceAdd, Nat.reduceLeDiff, Nat.reducePow, dDGet2_ap, dPut_ap, dForE_ap, forEK_some, dMethPop_ap, dImm_ap, gIsN_non, gNotN_non, isNon_int, isNon_non, flat_int, in_int, notIn_int, eq_ints, ne_ints, eq_nil, ne_nil, gDIn_dict, gDNotIn_dict, getD'_dict, dSetM_ap, setmK_non, setmK_lst, isNon_lst, gIsi_list_non, hh])
  have hlc : ∀ ρ0, lcD (uName 4) tTrue (dTup (dConsA (dVar 4) (dConsA (d2 gDIx (dVar 3) (dVar 4)) dNilA))) [ρ0, webD n ps, .lst (L.map .int), dTP kvs, z4] ((sortE ps).map enc) = some ((sortE ps).map fun p => .tup [enc p, .int (lim p)]) := fun ρ0 => by
    have := lcD_map (en := (enc : Int × Int → D)) (en' := fun d : D => d) (u := uName 4) (t := tTrue) (f := dTup (dConsA (dVar 4) (dConsA (d2 gDIx (dVar 3) (dVar 4)) dNilA))) (ρ := [ρ0, webD n ps, .lst (L.map .int), dTP kvs, z4]) (fun _ => true) (fun p => D.tup [enc p, .int (lim p)]) (xs := sortE ps) fun p hp => ⟨_, rfl, rfl, fun _ => by
      have hh := gDIx_P (hm p hp)
      simp only [bindS, mapS, rng_len, dSeq_ap, seqK_nx, seqK_ret, seqK_cont, seqK_brk, seqK_exc, dNext_ap, dAsg_ap, asgK_some, dRet_ap, retK_some, dIfS_ap, ifK_true, ifK_false, dDrop_ap, dropK_some, dApp_ap, appK_some, dExt_ap, extK_some, dClear_ap, clearK_some, dFor_ap, forK_some, dUnpk_ap, unpK_some, dFst_ap, fstK_some, dRaise_ap, raiK_some, runF_ap, runK_ret, runK_nx, runK_exc, runI_ap, runIK_nx, runIK_exc, dVar_ap, dC_ap, d1_ap, d2_ap, tB_ap, asB_bl, tAndF_ap, tOrF_ap, tNotF_ap, dAnd_ap, dOr_ap, dNot_ap, dIf_ap, ite_and, ite_or, ite_andD, ite_orD, dNilA_ap, dConsA_ap, dTup_ap, dLst_ap, dImm_ap, oNone_ap, oSome_ap, asI_int, dCut_ap, cutK_lst, cutK_scr, dFld_ap, fldK_obj, dCall_ap, dCallN_ap, dFun_ap, okR_ok, dFunN_ap, okRN_lst, okRN_dI, okRN_dT, dMethN_ap, dMeth_ap, isObj_obj, uName_ap, uNil_ap, uCons_ap, uTup_ap, iLst_ap, lstOf_lst, lstOf_scr, iTupD_ap, tupOf_tup, iRev_ap, iEnum_ap, iRange1_ap, rng1K_int, iRange2_ap, rng2K_int, dLc_ap, tTrue_ap, dChain_ap, seqOf_lst, seqOf_tup, seqOf_scr, gLen_lst, gLen_tup, gLen_scr, gCat_lst, gAdd_int, gSub_int, gMul_int, gMod_int, gDiv_int, gLt_int, gLe_int, gGt_int, gGe_int, gMax2_int, gMin2_int, gIsi_lst, gEq_int, gNe_int, bindS, mapS, rng_len, Int.toNat_natCast, List.getElem?_cons_zero, List.getElem?_cons_succ, List.set_cons_zero, List.set_cons_succ, List.append_nil, List.nil_append, List.cons_append, List.replicate_succ, List.replicate_zero, List.length_map, List.length_cons, List.length_nil, Bool.not_true, Bool.not_false, decide_true, decide_false, reduceIte, Bool.false_eq_true, and_true, true_and, or_true, true_or, and_self, Bool.and_true, Bool.true_and, Bool.and_false, Bool.false_and, Bool.or_false, Bool.false_or, Bool.or_true, Bool.true_or, Int.reduceLT, Int.reduceLE, Int.reducePow, Int.reduceNeg, Int.reduceAdd, Int.reduceSub, Int.reduceMul, Int.reduceToNat, Nat.reduceLT, Nat.reduceAdd, Nat.reduceLeDiff, Nat.reducePow, dDGet2_ap, dPut_ap, dForE_ap, forEK_some, dMethPop_ap, dImm_ap, gIsN_non, gNotN_non, isNon_int, isNon_non, flat_int, in_int, notIn_int, eq_ints, ne_ints, eq_nil, ne_nil, gDIn_dict, gDNotIn_dict, getD'_dict, dSetM_ap, setmK_non, setmK_lst, isNon_lst, gIsi_list_non, hh]⟩
    rw [List.filter_eq_self.mpr fun _ _ => rfl, List.map_id'] at this
    exact this
  have nds : (sortE ps).Nodup := hp.nodup_iff.mpr v.nd
  have hle : (sortE ps).length ≤ 100000 := by rw [hp.length_eq]; omega
  have hd := dictP_eq (f := lim) nds
  have ha := are_leaders_eq (ps := ps) g
  have w1 : dFld .Web 1 (dVar 1) [.obj .Plan [], webD n ps, .lst (L.map .int), dTP kvs, .non] = some (.lst ((sortE ps).map enc)) := rfl
  have f1 : ∀ ds d ρ, fstK 0 .Plan 1 (some d) (some (.obj .Plan [ds])) ρ = .nx (ρ.set 0 (.obj .Plan [ds, d])) := fun _ _ _ => rfl
  have f0 : ∀ d ρ, fstK 0 .Plan 0 (some d) (some (.obj .Plan [])) ρ = .nx (ρ.set 0 (.obj .Plan [d])) := fun _ _ => rfl
  have f2 : ∀ a b d ρ, fstK 0 .Plan 2 (some d) (some (.obj .Plan [a, b])) ρ = .nx (ρ.set 0 (.obj .Plan [a, b, d])) := fun _ _ _ _ => rfl
  have wf : fldK .Web 1 (webD n ps) = some (.lst ((sortE ps).map enc)) := rfl
  unfold fn_Plan_init sm_Plan_init
  simp only [bindS, mapS, rng_len, dSeq_ap, seqK_nx, seqK_ret, seqK_cont, seqK_brk, seqK_exc, dNext_ap, dAsg_ap, asgK_some, dRet_ap, retK_some, dIfS_ap, ifK_true, ifK_false, dDrop_ap, dropK_some, dApp_ap, appK_some, dExt_ap, extK_some, dClear_ap, clearK_some, dFor_ap, forK_some, dUnpk_ap, unpK_some, dFst_ap, fstK_some, dRaise_ap, raiK_some, runF_ap, runK_ret, runK_nx, runK_exc, runI_ap, runIK_nx, runIK_exc, dVar_ap, dC_ap, d1_ap, d2_ap, tB_ap, asB_bl, tAndF_ap, tOrF_ap, tNotF_ap, dAnd_ap, dOr_ap, dNot_ap, dIf_ap, ite_and, ite_or, ite_andD, ite_orD, dNilA_ap, dConsA_ap, dTup_ap, dLst_ap, dImm_ap, oNone_ap, oSome_ap, asI_int, dCut_ap, cutK_lst, cutK_scr, dFld_ap, fldK_obj, dCall_ap, dCallN_ap, dFun_ap, okR_ok, dFunN_ap, okRN_lst, okRN_dI, okRN_dT, dMethN_ap, dMeth_ap, isObj_obj, uName_ap, uNil_ap, uCons_ap, uTup_ap, iLst_ap, lstOf_lst, lstOf_scr, iTupD_ap, tupOf_tup, iRev_ap, iEnum_ap, iRange1_ap, rng1K_int, iRange2_ap, rng2K_int, dLc_ap, tTrue_ap, dChain_ap, seqOf_lst, seqOf_tup, seqOf_scr, gLen_lst, gLen_tup, gLen_scr, gCat_lst, gAdd_int, gSub_int, gMul_int, gMod_int, gDiv_int, gLt_int, gLe_int, gGt_int, gGe_int, gMax2_int, gMin2_int, gIsi_lst, gEq_int, gNe_int, bindS, mapS, rng_len, Int.toNat_natCast, List.getElem?_cons_zero, List.getElem?_cons_succ, List.set_cons_zero, List.set_cons_succ, List.append_nil, List.nil_append, List.cons_append, List.replicate_succ, List.replicate_zero, List.length_map, List.length_cons, List.length_nil, Bool.not_true, Bool.not_false, decide_true, decide_false, reduceIte, Bool.false_eq_true, and_true, true_and, or_true, true_or, and_self, Bool.and_true, Bool.true_and, Bool.and_false, Bool.false_and, Bool.or_false, Bool.false_or, Bool.or_true, Bool.true_or, Int.reduceLT, Int.reduceLE, Int.reducePow, Int.reduceNeg, Int.reduceAdd, Int.reduceSub, Int.reduceMul, Int.reduceToNat, Nat.reduceLT, Nat.reduceAdd, Nat.reduceLeDiff, Nat.reducePow, dDGet2_ap, dPut_ap, dForE_ap, forEK_some, dMethPop_ap, dImm_ap, gIsN_non, gNotN_non, isNon_int, isNon_non, flat_int, in_int, notIn_int, eq_ints, ne_ints, eq_nil, ne_nil, gDIn_dict, gDNotIn_dict, getD'_dict, dSetM_ap, setmK_non, setmK_lst, isNon_lst, gIsi_list_non, ha, wf, e, f0, f1, f2, if_pos hle, hlc, hd]
  rfl

/-! the rows, one by one -/
def lexlt (p q : Int × Int) : Prop := p.1 < q.1 ∨ (p.1 = q.1 ∧ p.2 < q.2)
def okPas (n : Nat) (p : Int × Int) : Prop := (0 ≤ p.1 ∧ p.1 < n) ∧ (0 ≤ p.2 ∧ p.2 < n) ∧ p.1 ≠ p.2
instance instLexlt (p q : Int × Int) : Decidable (lexlt p q) := by unfold lexlt; infer_instance
instance instOkPas (n : Nat) (p : Int × Int) : Decidable (okPas n p) := by unfold okPas; infer_instance
structure GoodP (n : Nat) (last : Int × Int) (ws : List (List Nat)) (q : (Int × Int) × Int) : Prop where
  row : RowW ws
  t : ∃ l : Nat, told ws kPass = some [q.1.1.toNat, q.1.2.toNat, l] ∧ q.2 = l
  ok : okPas n q.1
  lt : lexlt last q.1
def BadP (n : Nat) (last : Int × Int) (ws : List (List Nat)) : Prop :=
  told ws kPass = none ∨ ∃ ns, told ws kPass = some ns ∧ (ns.length ≠ 3 ∨ ∃ (a b l : Nat), ns = [a, b, l] ∧ (¬ okPas n ((a : Int), (b : Int)) ∨ ¬ lexlt last ((a : Int), (b : Int))))
theorem isp_eq (n : Nat) (p : Int × Int) : fn_is_passing [.int n, enc p] = .ok (.bl (decide (okPas n p))) := by
  have h := is_passing_eq n p.1 p.2
  have h2 : fn_is_passing [.int n, enc p] = .ok (.bl ((decide (0 ≤ p.1) && decide (p.1 < n)) && ((decide (0 ≤ p.2) && decide (p.2 < n)) && !decide (p.1 = p.2)))) := h
  rw [h2]
  congr 2
  by_cases h : okPas n p
  · obtain ⟨⟨a, b⟩, ⟨c, d⟩, e⟩ := id h
    rw [decide_eq_true h, decide_eq_true a, decide_eq_true b, decide_eq_true c, decide_eq_true d, decide_eq_false e]
    rfl
  · rw [decide_eq_false h, ← Bool.not_eq_true]
    simp only [Bool.and_eq_true, decide_eq_true_eq, Bool.not_eq_true', decide_eq_false_iff_not]
    exact h
theorem leT_lex (p q : Int × Int) : gLeT (enc p) (enc q) = some (.bl (!decide (lexlt q p))) := by
  rw [leT_pair]
  congr 2
  by_cases h : lexlt q p
  · rw [decide_eq_true h]
    unfold lexlt at h
    exact decide_eq_false (by omega)
  · rw [decide_eq_false h]
    unfold lexlt at h
    exact decide_eq_true (by omega)
theorem pas_good {rows : List (List (List Nat))} {k : Nat} {ws : List (List Nat)} (hk : rows[k]? = some ws) {n : Nat} {last : Int × Int} {q : (Int × Int) × Int} (g : GoodP n last ws q) {kvs : List ((Int × Int) × Int)} (hnew : q.1 ∉ kvs.map (·.1)) (hl : kvs.length < 100000) (T ld z7 z8 : D) :
    sb_read_plan_0 [T, .lst ((rows.map joinR).map sD), .lst (natsD [n]), ld, dTP kvs, enc last, .int (k : Int), z7, z8] = .nx [T, .lst ((rows.map joinR).map sD), .lst (natsD [n]), ld, dTP (kvs ++ [q]), enc q.1, .int (k : Int), .lst (natsD [q.1.1.toNat, q.1.2.toNat, q.2.toNat]), enc q.1] := by
  obtain ⟨hrow, ⟨l, ht, hq2⟩, hok, hlt⟩ := g
  have e1 : ((q.1.1.toNat : Nat) : Int) = q.1.1 := by have := hok.1.1; omega
  have e2 : ((q.1.2.toNat : Nat) : Int) = q.1.2 := by have := hok.2.1.1; omega
  have e3 : q.2.toNat = l := by omega
  have hX := told_ok hk hrow ht
  have hA : dAsgX 7 (dFunX fn_told_numbers (dConsA (dVar 1) (dConsA (dVar 6) (dConsA (dC (.str "pass")) dNilA))) []) [T, .lst ((rows.map joinR).map sD), .lst (natsD [n]), ld, dTP kvs, enc last, .int (k : Int), z7, z8] = .nx [T, .lst ((rows.map joinR).map sD), .lst (natsD [n]), ld, dTP kvs, enc last, .int (k : Int), .lst (natsD [q.1.1.toNat, q.1.2.toNat, l]), z8] :=
    dAsgX_ok ((dFunX_some (fs := dConsA (dVar 1) (dConsA (dVar 6) (dConsA (dC (.str "pass")) dNilA))) (as := [.lst ((rows.map joinR).map sD), .int (k : Int), sD kPass]) rfl).trans hX)
  have c1 : cutD (natsD [q.1.1.toNat, q.1.2.toNat, l]) none (some 2) = [.int q.1.1, .int q.1.2] := by
    show [D.int ((q.1.1.toNat : Nat) : Int), .int ((q.1.2.toNat : Nat) : Int)] = _
    rw [e1, e2]
  have gt : gTupOf (.lst [.int q.1.1, .int q.1.2]) = some (enc q.1) := rfl
  have hlen : gLen [.lst (natsD [q.1.1.toNat, q.1.2.toNat, l])] = some (.int 3) := rfl
  have n3 : gNe (.int 3) (.int 3) = some (.bl false) := rfl
  have i0 : gIx (.lst (natsD [n])) (.int 0) = some (.int (n : Int)) := rfl
  have i2 : gIx (.lst (natsD [q.1.1.toNat, q.1.2.toNat, l])) (.int 2) = some (.int q.2) := by rw [hq2]; rfl
  have hput : putK' 4 (some (.int q.2)) (some (dTP kvs)) (some (enc q.1)) [T, .lst ((rows.map joinR).map sD), .lst (natsD [n]), ld, dTP kvs, enc last, .int (k : Int), .lst (natsD [q.1.1.toNat, q.1.2.toNat, l]), enc q.1] = .nx [T, .lst ((rows.map joinR).map sD), .lst (natsD [n]), ld, dTP (kvs ++ [q]), enc last, .int (k : Int), .lst (natsD [q.1.1.toNat, q.1.2.toNat, l]), enc q.1] := putK'_some (putP hnew hl)
  unfold sb_read_plan_0
  simp only [bindS, mapS, rng_len, dSeq_ap, seqK_nx, seqK_ret, seqK_cont, seqK_brk, seqK_exc, dNext_ap, dAsg_ap, asgK_some, dRet_ap, retK_some, dIfS_ap, ifK_true, ifK_false, dDrop_ap, dropK_some, dApp_ap, appK_some, dExt_ap, extK_some, dClear_ap, clearK_some, dFor_ap, forK_some, dUnpk_ap, unpK_some, dFst_ap, fstK_some, dRaise_ap, raiK_some, runF_ap, runK_ret, runK_nx, runK_exc, runI_ap, runIK_nx, runIK_exc, dVar_ap, dC_ap, d1_ap, d2_ap, tB_ap, asB_bl, tAndF_ap, tOrF_ap, tNotF_ap, dAnd_ap, dOr_ap, dNot_ap, dIf_ap, ite_and, ite_or, ite_andD, ite_orD, dNilA_ap, dConsA_ap, dTup_ap, dLst_ap, dImm_ap, oNone_ap, oSome_ap, asI_int, dCut_ap, cutK_lst, cutK_scr, dFld_ap, fldK_obj, dCall_ap, dCallN_ap, dFun_ap, okR_ok, dFunN_ap, okRN_lst, okRN_dI, okRN_dT, dMethN_ap, dMeth_ap, isObj_obj, uName_ap, uNil_ap, uCons_ap, uTup_ap, iLst_ap, lstOf_lst, lstOf_scr, iTupD_ap, tupOf_tup, iRev_ap, iEnum_ap, iRange1_ap, rng1K_int, iRange2_ap, rng2K_int, dLc_ap, tTrue_ap, dChain_ap, seqOf_lst, seqOf_tup, seqOf_scr, gLen_lst, gLen_tup, gLen_scr, gCat_lst, gAdd_int, gSub_int, gMul_int, gMod_int, gDiv_int, gLt_int, gLe_int, gGt_int, gGe_int, gMax2_int, gMin2_int, gIsi_lst, gEq_int, gNe_int, bindS, mapS, rng_len, Int.toNat_natCast, List.getElem?_cons_zero, List.getElem?_cons_succ, List.set_cons_zero, List.set_cons_succ, List.append_nil, List.nil_append, List.cons_append, List.replicate_succ, List.replicate_zero, List.length_map, List.length_cons, List.length_nil, Bool.not_true, Bool.not_false, decide_true, decide_false, reduceIte, Bool.false_eq_true, and_true, true_and, or_true, true_or, and_self, Bool.and_true, Bool.true_and, Bool.and_false, Bool.false_and, Bool.or_false, Bool.false_or, Bool.or_true, Bool.true_or, Int.reduceLT, Int.reduceLE, Int.reducePow, Int.reduceNeg, Int.reduceAdd, Int.reduceSub, Int.reduceMul, Int.reduceToNat, Nat.reduceLT, Nat.reduceAdd, Nat.reduceLeDiff, Nat.reducePow, dDGet2_ap, dPut_ap, dForE_ap, forEK_some, dMethPop_ap, dImm_ap, gIsN_non, gNotN_non, isNon_int, isNon_non, flat_int, in_int, notIn_int, eq_ints, ne_ints, eq_nil, ne_nil, gDIn_dict, gDNotIn_dict, getD'_dict, dSetM_ap, setmK_non, setmK_lst, isNon_lst, gIsi_list_non, hA, c1, gt, hlen, n3, i0, isp_eq, decide_eq_true hok, leT_lex, decide_eq_true hlt, i2, hput]
  rw [e3]
theorem pas_bad {rows : List (List (List Nat))} {k : Nat} {ws : List (List Nat)} (hk : rows[k]? = some ws) (hrow : RowW ws) {n : Nat} {last : Int × Int} (hb : BadP n last ws) (T ld kd z7 z8 : D) :
    ∃ ρ', sb_read_plan_0 [T, .lst ((rows.map joinR).map sD), .lst (natsD [n]), ld, kd, enc last, .int (k : Int), z7, z8] = .exc .NoText (.int ((k : Int) + 1)) ρ' := by
  have hfs : (dConsA (dVar 1) (dConsA (dVar 6) (dConsA (dC (.str "pass")) dNilA))) [T, .lst ((rows.map joinR).map sD), .lst (natsD [n]), ld, kd, enc last, .int (k : Int), z7, z8] = some [.lst ((rows.map joinR).map sD), .int (k : Int), sD kPass] := rfl
  unfold sb_read_plan_0
  rcases hb with h | ⟨ns, ht, h⟩
  · have hX := told_bad (kw := kPass) (rows := rows) (k := k) (.inr ⟨ws, hk, hrow, h⟩)
    have hA : dAsgX 7 (dFunX fn_told_numbers (dConsA (dVar 1) (dConsA (dVar 6) (dConsA (dC (.str "pass")) dNilA))) []) [T, .lst ((rows.map joinR).map sD), .lst (natsD [n]), ld, kd, enc last, .int (k : Int), z7, z8] = .exc .NoText (.int ((k : Int) + 1)) [T, .lst ((rows.map joinR).map sD), .lst (natsD [n]), ld, kd, enc last, .int (k : Int), z7, z8] :=
      dAsgX_exc ((dFunX_some hfs).trans hX)
    simp only [bindS, mapS, rng_len, dSeq_ap, seqK_nx, seqK_ret, seqK_cont, seqK_brk, seqK_exc, dNext_ap, dAsg_ap, asgK_some, dRet_ap, retK_some, dIfS_ap, ifK_true, ifK_false, dDrop_ap, dropK_some, dApp_ap, appK_some, dExt_ap, extK_some, dClear_ap, clearK_some, dFor_ap, forK_some, dUnpk_ap, unpK_some, dFst_ap, fstK_some, dRaise_ap, raiK_some, runF_ap, runK_ret, runK_nx, runK_exc, runI_ap, runIK_nx, runIK_exc, dVar_ap, dC_ap, d1_ap, d2_ap, tB_ap, asB_bl, tAndF_ap, tOrF_ap, tNotF_ap, dAnd_ap, dOr_ap, dNot_ap, dIf_ap, ite_and, ite_or, ite_andD, ite_orD, dNilA_ap, dConsA_ap, dTup_ap, dLst_ap, dImm_ap, oNone_ap, oSome_ap, asI_int, dCut_ap, cutK_lst, cutK_scr, dFld_ap, fldK_obj, dCall_ap, dCallN_ap, dFun_ap, okR_ok, dFunN_ap, okRN_lst, okRN_dI, okRN_dT, dMethN_ap, dMeth_ap, isObj_obj, uName_ap, uNil_ap, uCons_ap, uTup_ap, iLst_ap, lstOf_lst, lstOf_scr, iTupD_ap, tupOf_tup, iRev_ap, iEnum_ap, iRange1_ap, rng1K_int, iRange2_ap, rng2K_int, dLc_ap, tTrue_ap, dChain_ap, seqOf_lst, seqOf_tup, seqOf_scr, gLen_lst, gLen_tup, gLen_scr, gCat_lst, gAdd_int, gSub_int, gMul_int, gMod_int, gDiv_int, gLt_int, gLe_int, gGt_int, gGe_int, gMax2_int, gMin2_int, gIsi_lst, gEq_int, gNe_int, bindS, mapS, rng_len, Int.toNat_natCast, List.getElem?_cons_zero, List.getElem?_cons_succ, List.set_cons_zero, List.set_cons_succ, List.append_nil, List.nil_append, List.cons_append, List.replicate_succ, List.replicate_zero, List.length_map, List.length_cons, List.length_nil, Bool.not_true, Bool.not_false, decide_true, decide_false, reduceIte, Bool.false_eq_true, and_true, true_and, or_true, true_or, and_self, Bool.and_true, Bool.true_and, Bool.and_false, Bool.false_and, Bool.or_false, Bool.false_or, Bool.or_true, Bool.true_or, Int.reduceLT, Int.reduceLE, Int.reducePow, Int.reduceNeg, Int.reduceAdd, Int.reduceSub, Int.reduceMul, Int.reduceToNat, Nat.reduceLT, Nat.reduceAdd, Nat.reduceLeDiff, Nat.reducePow, dDGet2_ap, dPut_ap, dForE_ap, forEK_some, dMethPop_ap, dImm_ap, gIsN_non, gNotN_non, isNon_int, isNon_non, flat_int, in_int, notIn_int, eq_ints, ne_ints, eq_nil, ne_nil, gDIn_dict, gDNotIn_dict, getD'_dict, dSetM_ap, setmK_non, setmK_lst, isNon_lst, gIsi_list_non, hA]
    exact ⟨_, rfl⟩
  · have hX := told_ok hk hrow ht
    have hA : dAsgX 7 (dFunX fn_told_numbers (dConsA (dVar 1) (dConsA (dVar 6) (dConsA (dC (.str "pass")) dNilA))) []) [T, .lst ((rows.map joinR).map sD), .lst (natsD [n]), ld, kd, enc last, .int (k : Int), z7, z8] = .nx [T, .lst ((rows.map joinR).map sD), .lst (natsD [n]), ld, kd, enc last, .int (k : Int), .lst (natsD ns), z8] :=
      dAsgX_ok ((dFunX_some hfs).trans hX)
    have gt : ∀ xs, gTupOf (.lst xs) = some (.tup xs) := fun xs => rfl
    have hlen : gLen [.lst (natsD ns)] = some (.int (ns.length : Int)) := by rw [gLen_lst]; unfold natsD; rw [List.length_map]
    by_cases h3 : ns.length = 3
    · rcases h with h | ⟨a, b, l, rfl, h⟩
      · exact absurd h3 h
      · have c1 : cutD (natsD [a, b, l]) none (some 2) = [.int a, .int b] := rfl
        have ge : D.tup [.int (a : Int), .int (b : Int)] = enc ((a : Int), (b : Int)) := rfl
        have hlen' : gLen [.lst (natsD [a, b, l])] = some (.int 3) := rfl
        have n3 : gNe (.int 3) (.int 3) = some (.bl false) := rfl
        have i0 : gIx (.lst (natsD [n])) (.int 0) = some (.int (n : Int)) := rfl
        rcases h with h | h
        · simp only [bindS, mapS, rng_len, dSeq_ap, seqK_nx, seqK_ret, seqK_cont, seqK_brk, seqK_exc, dNext_ap, dAsg_ap, asgK_some, dRet_ap, retK_some, dIfS_ap, ifK_true, ifK_false, dDrop_ap, dropK_some, dApp_ap, appK_some, dExt_ap, extK_some, dClear_ap, clearK_some, dFor_ap, forK_some, dUnpk_ap, unpK_some, dFst_ap, fstK_some, dRaise_ap, raiK_some, runF_ap, runK_ret, runK_nx, runK_exc, runI_ap, runIK_nx, runIK_exc, dVar_ap, dC_ap, d1_ap, d2_ap, tB_ap, asB_bl, tAndF_ap, tOrF_ap, tNotF_ap, dAnd_ap, dOr_ap, dNot_ap, dIf_ap, ite_and, ite_or, ite_andD, ite_orD, dNilA_ap, dConsA_ap, dTup_ap, dLst_ap, dImm_ap, oNone_ap, oSome_ap, asI_int, dCut_ap, cutK_lst, cutK_scr, dFld_ap, fldK_obj, dCall_ap, dCallN_ap, dFun_ap, okR_ok, dFunN_ap, okRN_lst, okRN_dI, okRN_dT, dMethN_ap, dMeth_ap, isObj_obj, uName_ap, uNil_ap, uCons_ap, uTup_ap, iLst_ap, lstOf_lst, lstOf_scr, iTupD_ap, tupOf_tup, iRev_ap, iEnum_ap, iRange1_ap, rng1K_int, iRange2_ap, rng2K_int, dLc_ap, tTrue_ap, dChain_ap, seqOf_lst, seqOf_tup, seqOf_scr, gLen_lst, gLen_tup, gLen_scr, gCat_lst, gAdd_int, gSub_int, gMul_int, gMod_int, gDiv_int, gLt_int, gLe_int, gGt_int, gGe_int, gMax2_int, gMin2_int, gIsi_lst, gEq_int, gNe_int, bindS, mapS, rng_len, Int.toNat_natCast, List.getElem?_cons_zero, List.getElem?_cons_succ, List.set_cons_zero, List.set_cons_succ, List.append_nil, List.nil_append, List.cons_append, List.replicate_succ, List.replicate_zero, List.length_map, List.length_cons, List.length_nil, Bool.not_true, Bool.not_false, decide_true, decide_false, reduceIte, Bool.false_eq_true, and_true, true_and, or_true, true_or, and_self, Bool.and_true, Bool.true_and, Bool.and_false, Bool.false_and, Bool.or_false, Bool.false_or, Bool.or_true, Bool.true_or, Int.reduceLT, Int.reduceLE, Int.reducePow, Int.reduceNeg, Int.reduceAdd, Int.reduceSub, Int.reduceMul, Int.reduceToNat, Nat.reduceLT, Nat.reduceAdd, Nat.reduceLeDiff, Nat.reducePow, dDGet2_ap, dPut_ap, dForE_ap, forEK_some, dMethPop_ap, dImm_ap, gIsN_non, gNotN_non, isNon_int, isNon_non, flat_int, in_int, notIn_int, eq_ints, ne_ints, eq_nil, ne_nil, gDIn_dict, gDNotIn_dict, getD'_dict, dSetM_ap, setmK_non, setmK_lst, isNon_lst, gIsi_list_non, hA, c1, gt, ge, hlen', n3, i0, isp_eq, decide_eq_false h, dRaise_ap, raiK_some]
          exact ⟨_, rfl⟩
        · by_cases ho : okPas n ((a : Int), (b : Int))
          · simp only [bindS, mapS, rng_len, dSeq_ap, seqK_nx, seqK_ret, seqK_cont, seqK_brk, seqK_exc, dNext_ap, dAsg_ap, asgK_some, dRet_ap, retK_some, dIfS_ap, ifK_true, ifK_false, dDrop_ap, dropK_some, dApp_ap, appK_some, dExt_ap, extK_some, dClear_ap, clearK_some, dFor_ap, forK_some, dUnpk_ap, unpK_some, dFst_ap, fstK_some, dRaise_ap, raiK_some, runF_ap, runK_ret, runK_nx, runK_exc, runI_ap, runIK_nx, runIK_exc, dVar_ap, dC_ap, d1_ap, d2_ap, tB_ap, asB_bl, tAndF_ap, tOrF_ap, tNotF_ap, dAnd_ap, dOr_ap, dNot_ap, dIf_ap, ite_and, ite_or, ite_andD, ite_orD, dNilA_ap, dConsA_ap, dTup_ap, dLst_ap, dImm_ap, oNone_ap, oSome_ap, asI_int, dCut_ap, cutK_lst, cutK_scr, dFld_ap, fldK_obj, dCall_ap, dCallN_ap, dFun_ap, okR_ok, dFunN_ap, okRN_lst, okRN_dI, okRN_dT, dMethN_ap, dMeth_ap, isObj_obj, uName_ap, uNil_ap, uCons_ap, uTup_ap, iLst_ap, lstOf_lst, lstOf_scr, iTupD_ap, tupOf_tup, iRev_ap, iEnum_ap, iRange1_ap, rng1K_int, iRange2_ap, rng2K_int, dLc_ap, tTrue_ap, dChain_ap, seqOf_lst, seqOf_tup, seqOf_scr, gLen_lst, gLen_tup, gLen_scr, gCat_lst, gAdd_int, gSub_int, gMul_int, gMod_int, gDiv_int, gLt_int, gLe_int, gGt_int, gGe_int, gMax2_int, gMin2_int, gIsi_lst, gEq_int, gNe_int, bindS, mapS, rng_len, Int.toNat_natCast, List.getElem?_cons_zero, List.getElem?_cons_succ, List.set_cons_zero, List.set_cons_succ, List.append_nil, List.nil_append, List.cons_append, List.replicate_succ, List.replicate_zero, List.length_map, List.length_cons, List.length_nil, Bool.not_true, Bool.not_false, decide_true, decide_false, reduceIte, Bool.false_eq_true, and_true, true_and, or_true, true_or, and_self, Bool.and_true, Bool.true_and, Bool.and_false, Bool.false_and, Bool.or_false, Bool.false_or, Bool.or_true, Bool.true_or, Int.reduceLT, Int.reduceLE, Int.reducePow, Int.reduceNeg, Int.reduceAdd, Int.reduceSub, Int.reduceMul, Int.reduceToNat, Nat.reduceLT, Nat.reduceAdd, Nat.reduceLeDiff, Nat.reducePow, dDGet2_ap, dPut_ap, dForE_ap, forEK_some, dMethPop_ap, dImm_ap, gIsN_non, gNotN_non, isNon_int, isNon_non, flat_int, in_int, notIn_int, eq_ints, ne_ints, eq_nil, ne_nil, gDIn_dict, gDNotIn_dict, getD'_dict, dSetM_ap, setmK_non, setmK_lst, isNon_lst, gIsi_list_non, hA, c1, gt, ge, hlen', n3, i0, isp_eq, decide_eq_true ho, leT_lex, decide_eq_false h, dRaise_ap, raiK_some]
            exact ⟨_, rfl⟩
          · simp only [bindS, mapS, rng_len, dSeq_ap, seqK_nx, seqK_ret, seqK_cont, seqK_brk, seqK_exc, dNext_ap, dAsg_ap, asgK_some, dRet_ap, retK_some, dIfS_ap, ifK_true, ifK_false, dDrop_ap, dropK_some, dApp_ap, appK_some, dExt_ap, extK_some, dClear_ap, clearK_some, dFor_ap, forK_some, dUnpk_ap, unpK_some, dFst_ap, fstK_some, dRaise_ap, raiK_some, runF_ap, runK_ret, runK_nx, runK_exc, runI_ap, runIK_nx, runIK_exc, dVar_ap, dC_ap, d1_ap, d2_ap, tB_ap, asB_bl, tAndF_ap, tOrF_ap, tNotF_ap, dAnd_ap, dOr_ap, dNot_ap, dIf_ap, ite_and, ite_or, ite_andD, ite_orD, dNilA_ap, dConsA_ap, dTup_ap, dLst_ap, dImm_ap, oNone_ap, oSome_ap, asI_int, dCut_ap, cutK_lst, cutK_scr, dFld_ap, fldK_obj, dCall_ap, dCallN_ap, dFun_ap, okR_ok, dFunN_ap, okRN_lst, okRN_dI, okRN_dT, dMethN_ap, dMeth_ap, isObj_obj, uName_ap, uNil_ap, uCons_ap, uTup_ap, iLst_ap, lstOf_lst, lstOf_scr, iTupD_ap, tupOf_tup, iRev_ap, iEnum_ap, iRange1_ap, rng1K_int, iRange2_ap, rng2K_int, dLc_ap, tTrue_ap, dChain_ap, seqOf_lst, seqOf_tup, seqOf_scr, gLen_lst, gLen_tup, gLen_scr, gCat_lst, gAdd_int, gSub_int, gMul_int, gMod_int, gDiv_int, gLt_int, gLe_int, gGt_int, gGe_int, gMax2_int, gMin2_int, gIsi_lst, gEq_int, gNe_int, bindS, mapS, rng_len, Int.toNat_natCast, List.getElem?_cons_zero, List.getElem?_cons_succ, List.set_cons_zero, List.set_cons_succ, List.append_nil, List.nil_append, List.cons_append, List.replicate_succ, List.replicate_zero, List.length_map, List.length_cons, List.length_nil, Bool.not_true, Bool.not_false, decide_true, decide_false, reduceIte, Bool.false_eq_true, and_true, true_and, or_true, true_or, and_self, Bool.and_true, Bool.true_and, Bool.and_false, Bool.false_and, Bool.or_false, Bool.false_or, Bool.or_true, Bool.true_or, Int.reduceLT, Int.reduceLE, Int.reducePow, Int.reduceNeg, Int.reduceAdd, Int.reduceSub, Int.reduceMul, Int.reduceToNat, Nat.reduceLT, Nat.reduceAdd, Nat.reduceLeDiff, Nat.reducePow, dDGet2_ap, dPut_ap, dForE_ap, forEK_some, dMethPop_ap, dImm_ap, gIsN_non, gNotN_non, isNon_int, isNon_non, flat_int, in_int, notIn_int, eq_ints, ne_ints, eq_nil, ne_nil, gDIn_dict, gDNotIn_dict, getD'_dict, dSetM_ap, setmK_non, setmK_lst, isNon_lst, gIsi_list_non, hA, c1, gt, ge, hlen', n3, i0, isp_eq, decide_eq_false ho, dRaise_ap, raiK_some]
            exact ⟨_, rfl⟩
    · have n3 : gNe (.int (ns.length : Int)) (.int 3) = some (.bl true) := by
        rw [gNe_int, decide_eq_false (by omega)]
        rfl
      simp only [bindS, mapS, rng_len, dSeq_ap, seqK_nx, seqK_ret, seqK_cont, seqK_brk, seqK_exc, dNext_ap, dAsg_ap, asgK_some, dRet_ap, retK_some, dIfS_ap, ifK_true, ifK_false, dDrop_ap, dropK_some, dApp_ap, appK_some, dExt_ap, extK_some, dClear_ap, clearK_some, dFor_ap, forK_some, dUnpk_ap, unpK_some, dFst_ap, fstK_some, dRaise_ap, raiK_some, runF_ap, runK_ret, runK_nx, runK_exc, runI_ap, runIK_nx, runIK_exc, dVar_ap, dC_ap, d1_ap, d2_ap, tB_ap, asB_bl, tAndF_ap, tOrF_ap, tNotF_ap, dAnd_ap, dOr_ap, dNot_ap, dIf_ap, ite_and, ite_or, ite_andD, ite_orD, dNilA_ap, dConsA_ap, dTup_ap, dLst_ap, dImm_ap, oNone_ap, oSome_ap, asI_int, dCut_ap, cutK_lst, cutK_scr, dFld_ap, fldK_obj, dCall_ap, dCallN_ap, dFun_ap, okR_ok, dFunN_ap, okRN_lst, okRN_dI, okRN_dT, dMethN_ap, dMeth_ap, isObj_obj, uName_ap, uNil_ap, uCons_ap, uTup_ap, iLst_ap, lstOf_lst, lstOf_scr, iTupD_ap, tupOf_tup, iRev_ap, iEnum_ap, iRange1_ap, rng1K_int, iRange2_ap, rng2K_int, dLc_ap, tTrue_ap, dChain_ap, seqOf_lst, seqOf_tup, seqOf_scr, gLen_lst, gLen_tup, gLen_scr, gCat_lst, gAdd_int, gSub_int, gMul_int, gMod_int, gDiv_int, gLt_int, gLe_int, gGt_int, gGe_int, gMax2_int, gMin2_int, gIsi_lst, gEq_int, gNe_int, bindS, mapS, rng_len, Int.toNat_natCast, List.getElem?_cons_zero, List.getElem?_cons_succ, List.set_cons_zero, List.set_cons_succ, List.append_nil, List.nil_append, List.cons_append, List.replicate_succ, List.replicate_zero, List.length_map, List.length_cons, List.length_nil, Bool.not_true, Bool.not_false, decide_true, decide_false, reduceIte, Bool.false_eq_true, and_true, true_and, or_true, true_or, and_self, Bool.and_true, Bool.true_and, Bool.and_false, Bool.false_and, Bool.or_false, Bool.false_or, Bool.or_true, Bool.true_or, Int.reduceLT, Int.reduceLE, Int.reducePow, Int.reduceNeg, Int.reduceAdd, Int.reduceSub, Int.reduceMul, Int.reduceToNat, Nat.reduceLT, Nat.reduceAdd, Nat.reduceLeDiff, Nat.reducePow, dDGet2_ap, dPut_ap, dForE_ap, forEK_some, dMethPop_ap, dImm_ap, gIsN_non, gNotN_non, isNon_int, isNon_non, flat_int, in_int, notIn_int, eq_ints, ne_ints, eq_nil, ne_nil, gDIn_dict, gDNotIn_dict, getD'_dict, dSetM_ap, setmK_non, setmK_lst, isNon_lst, gIsi_list_non, hA, gt, hlen, n3, dRaise_ap, raiK_some]
      exact ⟨_, rfl⟩

/-! ### the whole text of a plan -/
structure RowsW (rows : List (List (List Nat))) : Prop where
  ne : rows ≠ []
  len : rows.length ≤ 60
  w : ∀ ws ∈ rows, RowW ws
def textR (rows : List (List (List Nat))) : List Nat := TL.joinL [10] (rows.map joinR)
theorem RowsW.split {rows : List (List (List Nat))} (h : RowsW rows) : gSplit (sD (textR rows)) (sD [10]) = some (.lst ((rows.map joinR).map sD)) := by
  have hn : ∀ r ∈ rows.map joinR, 10 ∉ r := fun r hr => by
    obtain ⟨ws, hw, rfl⟩ := List.mem_map.mp hr
    exact (h.w ws hw).nl
  have hl : (textR rows).length ≤ 60 * 421 := joinL_k (k := 420) (m := 60) (fun r hr => by
    obtain ⟨ws, hw, rfl⟩ := List.mem_map.mp hr
    exact (h.w ws hw).jlen) (by rw [List.length_map]; exact h.len)
  rw [gSplit_S (by decide) (by omega)]
  unfold textR
  rw [text_split (by simpa using h.ne) hn]
theorem RowsW.join {rows : List (List (List Nat))} (h : RowsW rows) : gJoin (sD [10]) (.lst ((rows.map joinR).map sD)) = some (sD (textR rows)) := gJoin_k (k := 420) (m := 60) (fun r hr => by
    obtain ⟨ws, hw, rfl⟩ := List.mem_map.mp hr
    exact (h.w ws hw).jlen) (by rw [List.length_map]; exact h.len) (by decide)
structure Good0 (ws : List (List Nat)) (n : Nat) : Prop where
  t : told ws kHands = some [n]
  b : 2 ≤ n ∧ n ≤ 6
def Bad0 (ws : List (List Nat)) : Prop := told ws kHands = none ∨ ∃ ns, told ws kHands = some ns ∧ (ns.length ≠ 1 ∨ ∃ n, ns = [n] ∧ ¬ (2 ≤ n ∧ n ≤ 6))
structure Good1 (n : Nat) (ws : List (List Nat)) (L : List Int) : Prop where
  t : told ws kLead = some (L.map Int.toNat)
  g : GoodL n L
def Bad1 (n : Nat) (ws : List (List Nat)) : Prop := told ws kLead = none ∨ ∃ ns : List Nat, told ws kLead = some ns ∧ ns.length < 64 ∧ (ns = [] ∨ (n : Int) ≤ lastI (ns.map fun (k : Nat) => (k : Int)) ∨ sortI (ded (ns.map fun (k : Nat) => (k : Int))) ≠ ns.map fun (k : Nat) => (k : Int))
theorem natsD_I (ns : List Nat) : natsD ns = (ns.map fun (k : Nat) => (k : Int)).map .int := by
  unfold natsD
  rw [List.map_map]
  rfl
theorem natsD_L {n : Nat} {L : List Int} (g : GoodL n L) : natsD (L.map Int.toNat) = L.map .int := by
  unfold natsD
  rw [List.map_map]
  refine List.map_congr_left fun x hx => ?_
  have := g.b x hx
  show D.int ((x.toNat : Nat) : Int) = _
  rw [show ((x.toNat : Nat) : Int) = x by omega]
section
variable {rows : List (List (List Nat))}
theorem read_e0 (h : RowsW rows) {w0 : List (List Nat)} (h0 : rows[0]? = some w0) (hb : Bad0 w0) : fn_read_plan [sD (textR rows)] = .exc .NoText (.int 1) := by
  have hs := h.split
  have hw0 := h.w w0 (List.mem_of_getElem? h0)
  obtain ⟨T, hT⟩ : ∃ T, T = textR rows := ⟨_, rfl⟩
  rw [← hT] at hs ⊢
  have hfs : (dConsA (dVar 1) (dConsA (dC (.int 0)) (dConsA (dC (.str "hands")) dNilA))) [sD T, .lst ((rows.map joinR).map sD), .non, .non, .non, .non, .non, .non, .non] = some [.lst ((rows.map joinR).map sD), .int ((0 : Nat) : Int), sD kHands] := rfl
  unfold fn_read_plan sm_read_plan
  rcases hb with e | ⟨ns, e, hb⟩
  · have hX := told_bad (kw := kHands) (rows := rows) (k := 0) (.inr ⟨w0, h0, hw0, e⟩)
    have hA := dAsgX_exc (i := 2) ((dFunX_some (G := fn_told_numbers) (dfl := []) hfs).trans hX)
    simp only [bindS, mapS, rng_len, dSeq_ap, seqK_nx, seqK_ret, seqK_cont, seqK_brk, seqK_exc, dNext_ap, dAsg_ap, asgK_some, dRet_ap, retK_some, dIfS_ap, ifK_true, ifK_false, dDrop_ap, dropK_some, dApp_ap, appK_some, dExt_ap, extK_some, dClear_ap, clearK_some, dFor_ap, forK_some, dUnpk_ap, unpK_some, dFst_ap, fstK_some, dRaise_ap, raiK_some, runF_ap, runK_ret, runK_nx, runK_exc, runI_ap, runIK_nx, runIK_exc, dVar_ap, dC_ap, d1_ap, d2_ap, tB_ap, asB_bl, tAndF_ap, tOrF_ap, tNotF_ap, dAnd_ap, dOr_ap, dNot_ap, dIf_ap, ite_and, ite_or, ite_andD, ite_orD, dNilA_ap, dConsA_ap, dTup_ap, dLst_ap, dImm_ap, oNone_ap, oSome_ap, asI_int, dCut_ap, cutK_lst, cutK_scr, dFld_ap, fldK_obj, dCall_ap, dCallN_ap, dFun_ap, okR_ok, dFunN_ap, okRN_lst, okRN_dI, okRN_dT, dMethN_ap, dMeth_ap, isObj_obj, uName_ap, uNil_ap, uCons_ap, uTup_ap, iLst_ap, lstOf_lst, lstOf_scr, iTupD_ap, tupOf_tup, iRev_ap, iEnum_ap, iRange1_ap, rng1K_int, iRange2_ap, rng2K_int, dLc_ap, tTrue_ap, dChain_ap, seqOf_lst, seqOf_tup, seqOf_scr, gLen_lst, gLen_tup, gLen_scr, gCat_lst, gAdd_int, gSub_int, gMul_int, gMod_int, gDiv_int, gLt_int, gLe_int, gGt_int, gGe_int, gMax2_int, gMin2_int, gIsi_lst, gEq_int, gNe_int, bindS, mapS, rng_len, Int.toNat_natCast, List.getElem?_cons_zero, List.getElem?_cons_succ, List.set_cons_zero, List.set_cons_succ, List.append_nil, List.nil_append, List.cons_append, List.replicate_succ, List.replicate_zero, List.length_map, List.length_cons, List.length_nil, Bool.not_true, Bool.not_false, decide_true, decide_false, reduceIte, Bool.false_eq_true, and_true, true_and, or_true, true_or, and_self, Bool.and_true, Bool.true_and, Bool.and_false, Bool.false_and, Bool.or_false, Bool.false_or, Bool.or_true, Bool.true_or, Int.reduceLT, Int.reduceLE, Int.reducePow, Int.reduceNeg, Int.reduceAdd, Int.reduceSub, Int.reduceMul, Int.reduceToNat, Nat.reduceLT, Nat.reduceAdd, Nat.reduceLeDiff, Nat.reducePow, dDGet2_ap, dPut_ap, dForE_ap, forEK_some, dMethPop_ap, dImm_ap, gIsN_non, gNotN_non, isNon_int, isNon_non, flat_int, in_int, notIn_int, eq_ints, ne_ints, eq_nil, ne_nil, gDIn_dict, gDNotIn_dict, getD'_dict, dSetM_ap, setmK_non, setmK_lst, isNon_lst, gIsi_list_non, lit_nl, hs, hA]
    rfl
  · have hX := told_ok h0 hw0 e
    have hA := dAsgX_ok (i := 2) ((dFunX_some (G := fn_told_numbers) (dfl := []) hfs).trans hX)
    have hlen : gLen [.lst (natsD ns)] = some (.int (ns.length : Int)) := by rw [gLen_lst]; unfold natsD; rw [List.length_map]
    by_cases h1 : ns.length = 1
    · rcases hb with hb | ⟨n, rfl, hb⟩
      · exact absurd h1 hb
      · have hlen' : gLen [.lst (natsD [n])] = some (.int 1) := rfl
        have n1 : gNe (.int 1) (.int 1) = some (.bl false) := rfl
        have i0 : gIx (.lst (natsD [n])) (.int 0) = some (.int (n : Int)) := rfl
        by_cases h2 : (2 : Int) ≤ n
        · have h6 : ¬ (n : Int) ≤ 6 := by omega
          simp only [bindS, mapS, rng_len, dSeq_ap, seqK_nx, seqK_ret, seqK_cont, seqK_brk, seqK_exc, dNext_ap, dAsg_ap, asgK_some, dRet_ap, retK_some, dIfS_ap, ifK_true, ifK_false, dDrop_ap, dropK_some, dApp_ap, appK_some, dExt_ap, extK_some, dClear_ap, clearK_some, dFor_ap, forK_some, dUnpk_ap, unpK_some, dFst_ap, fstK_some, dRaise_ap, raiK_some, runF_ap, runK_ret, runK_nx, runK_exc, runI_ap, runIK_nx, runIK_exc, dVar_ap, dC_ap, d1_ap, d2_ap, tB_ap, asB_bl, tAndF_ap, tOrF_ap, tNotF_ap, dAnd_ap, dOr_ap, dNot_ap, dIf_ap, ite_and, ite_or, ite_andD, ite_orD, dNilA_ap, dConsA_ap, dTup_ap, dLst_ap, dImm_ap, oNone_ap, oSome_ap, asI_int, dCut_ap, cutK_lst, cutK_scr, dFld_ap, fldK_obj, dCall_ap, dCallN_ap, dFun_ap, okR_ok, dFunN_ap, okRN_lst, okRN_dI, okRN_dT, dMethN_ap, dMeth_ap, isObj_obj, uName_ap, uNil_ap, uCons_ap, uTup_ap, iLst_ap, lstOf_lst, lstOf_scr, iTupD_ap, tupOf_tup, iRev_ap, iEnum_ap, iRange1_ap, rng1K_int, iRange2_ap, rng2K_int, dLc_ap, tTrue_ap, dChain_ap, seqOf_lst, seqOf_tup, seqOf_scr, gLen_lst, gLen_tup, gLen_scr, gCat_lst, gAdd_int, gSub_int, gMul_int, gMod_int, gDiv_int, gLt_int, gLe_int, gGt_int, gGe_int, gMax2_int, gMin2_int, gIsi_lst, gEq_int, gNe_int, bindS, mapS, rng_len, Int.toNat_natCast, List.getElem?_cons_zero, List.getElem?_cons_succ, List.set_cons_zero, List.set_cons_succ, List.append_nil, List.nil_append, List.cons_append, List.replicate_succ, List.replicate_zero, List.length_map, List.length_cons, List.length_nil, Bool.not_true, Bool.not_false, decide_true, decide_false, reduceIte, Bool.false_eq_true, and_true, true_and, or_true, true_or, and_self, Bool.and_true, Bool.true_and, Bool.and_false, Bool.false_and, Bool.or_false, Bool.false_or, Bool.or_true, Bool.true_or, Int.reduceLT, Int.reduceLE, Int.reducePow, Int.reduceNeg, Int.reduceAdd, Int.reduceSub, Int.reduceMul, Int.reduceToNat, Nat.reduceLT, Nat.reduceAdd, Nat.reduceLeDiff, Nat.reducePow, dDGet2_ap, dPut_ap, dForE_ap, forEK_some, dMethPop_ap, dImm_ap, gIsN_non, gNotN_non, isNon_int, isNon_non, flat_int, in_int, notIn_int, eq_ints, ne_ints, eq_nil, ne_nil, gDIn_dict, gDNotIn_dict, getD'_dict, dSetM_ap, setmK_non, setmK_lst, isNon_lst, gIsi_list_non, lit_nl, hs, hA, hlen', n1, i0, decide_eq_true h2, decide_eq_false h6, dRaise_ap, raiK_some]
        · simp only [bindS, mapS, rng_len, dSeq_ap, seqK_nx, seqK_ret, seqK_cont, seqK_brk, seqK_exc, dNext_ap, dAsg_ap, asgK_some, dRet_ap, retK_some, dIfS_ap, ifK_true, ifK_false, dDrop_ap, dropK_some, dApp_ap, appK_some, dExt_ap, extK_some, dClear_ap, clearK_some, dFor_ap, forK_some, dUnpk_ap, unpK_some, dFst_ap, fstK_some, dRaise_ap, raiK_some, runF_ap, runK_ret, runK_nx, runK_exc, runI_ap, runIK_nx, runIK_exc, dVar_ap, dC_ap, d1_ap, d2_ap, tB_ap, asB_bl, tAndF_ap, tOrF_ap, tNotF_ap, dAnd_ap, dOr_ap, dNot_ap, dIf_ap, ite_and, ite_or, ite_andD, ite_orD, dNilA_ap, dConsA_ap, dTup_ap, dLst_ap, dImm_ap, oNone_ap, oSome_ap, asI_int, dCut_ap, cutK_lst, cutK_scr, dFld_ap, fldK_obj, dCall_ap, dCallN_ap, dFun_ap, okR_ok, dFunN_ap, okRN_lst, okRN_dI, okRN_dT, dMethN_ap, dMeth_ap, isObj_obj, uName_ap, uNil_ap, uCons_ap, uTup_ap, iLst_ap, lstOf_lst, lstOf_scr, iTupD_ap, tupOf_tup, iRev_ap, iEnum_ap, iRange1_ap, rng1K_int, iRange2_ap, rng2K_int, dLc_ap, tTrue_ap, dChain_ap, seqOf_lst, seqOf_tup, seqOf_scr, gLen_lst, gLen_tup, gLen_scr, gCat_lst, gAdd_int, gSub_int, gMul_int, gMod_int, gDiv_int, gLt_int, gLe_int, gGt_int, gGe_int, gMax2_int, gMin2_int, gIsi_lst, gEq_int, gNe_int, bindS, mapS, rng_len, Int.toNat_natCast, List.getElem?_cons_zero, List.getElem?_cons_succ, List.set_cons_zero, List.set_cons_succ, List.append_nil, List.nil_append, List.cons_append, List.replicate_succ, List.replicate_zero, List.length_map, List.length_cons, List.length_nil, Bool.not_true, Bool.not_false, decide_true, decide_false, reduceIte, Bool.false_eq_true, and_true, true_and, or_true, true_or, and_self, Bool.and_true, Bool.true_and, Bool.and_false, Bool.false_and, Bool.or_false, Bool.false_or, Bool.or_true, Bool.true_or, Int.reduceLT, Int.reduceLE, Int.reducePow, Int.reduceNeg, Int.reduceAdd, Int.reduceSub, Int.reduceMul, Int.reduceToNat, Nat.reduceLT, Nat.reduceAdd, Nat.reduceLeDiff, Nat.reducePow, dDGet2_ap, dPut_ap, dForE_ap, forEK_some, dMethPop_ap, dImm_ap, gIsN_non, gNotN_non, isNon_int, isNon_non, flat_int, in_int, notIn_int, eq_ints, ne_ints, eq_nil, ne_nil, gDIn_dict, gDNotIn_dict, getD'_dict, dSetM_ap, setmK_non, setmK_lst, isNon_lst, gIsi_list_non, lit_nl, hs, hA, hlen', n1, i0, decide_eq_false h2, dRaise_ap, raiK_some]
    · have n1 : gNe (.int (ns.length : Int)) (.int 1) = some (.bl true) := by
        rw [gNe_int, decide_eq_false (by omega)]
        rfl
      simp only [bindS, mapS, rng_len, dSeq_ap, seqK_nx, seqK_ret, seqK_cont, seqK_brk, seqK_exc, dNext_ap, dAsg_ap, asgK_some, dRet_ap, retK_some, dIfS_ap, ifK_true, ifK_false, dDrop_ap, dropK_some, dApp_ap, appK_some, dExt_ap, extK_some, dClear_ap, clearK_some, dFor_ap, forK_some, dUnpk_ap, unpK_some, dFst_ap, fstK_some, dRaise_ap, raiK_some, runF_ap, runK_ret, runK_nx, runK_exc, runI_ap, runIK_nx, runIK_exc, dVar_ap, dC_ap, d1_ap, d2_ap, tB_ap, asB_bl, tAndF_ap, tOrF_ap, tNotF_ap, dAnd_ap, dOr_ap, dNot_ap, dIf_ap, ite_and, ite_or, ite_andD, ite_orD, dNilA_ap, dConsA_ap, dTup_ap, dLst_ap, dImm_ap, oNone_ap, oSome_ap, asI_int, dCut_ap, cutK_lst, cutK_scr, dFld_ap, fldK_obj, dCall_ap, dCallN_ap, dFun_ap, okR_ok, dFunN_ap, okRN_lst, okRN_dI, okRN_dT, dMethN_ap, dMeth_ap, isObj_obj, uName_ap, uNil_ap, uCons_ap, uTup_ap, iLst_ap, lstOf_lst, lstOf_scr, iTupD_ap, tupOf_tup, iRev_ap, iEnum_ap, iRange1_ap, rng1K_int, iRange2_ap, rng2K_int, dLc_ap, tTrue_ap, dChain_ap, seqOf_lst, seqOf_tup, seqOf_scr, gLen_lst, gLen_tup, gLen_scr, gCat_lst, gAdd_int, gSub_int, gMul_int, gMod_int, gDiv_int, gLt_int, gLe_int, gGt_int, gGe_int, gMax2_int, gMin2_int, gIsi_lst, gEq_int, gNe_int, bindS, mapS, rng_len, Int.toNat_natCast, List.getElem?_cons_zero, List.getElem?_cons_succ, List.set_cons_zero, List.set_cons_succ, List.append_nil, List.nil_append, List.cons_append, List.replicate_succ, List.replicate_zero, List.length_map, List.length_cons, List.length_nil, Bool.not_true, Bool.not_false, decide_true, decide_false, reduceIte, Bool.false_eq_true, and_true, true_and, or_true, true_or, and_self, Bool.and_true, Bool.true_and, Bool.and_false, Bool.false_and, Bool.or_false, Bool.false_or, Bool.or_true, Bool.true_or, Int.reduceLT, Int.reduceLE, Int.reducePow, Int.reduceNeg, Int.reduceAdd, Int.reduceSub, Int.reduceMul, Int.reduceToNat, Nat.reduceLT, Nat.reduceAdd, Nat.reduceLeDiff, Nat.reducePow, dDGet2_ap, dPut_ap, dForE_ap, forEK_some, dMethPop_ap, dImm_ap, gIsN_non, gNotN_non, isNon_int, isNon_non, flat_int, in_int, notIn_int, eq_ints, ne_ints, eq_nil, ne_nil, gDIn_dict, gDNotIn_dict, getD'_dict, dSetM_ap, setmK_non, setmK_lst, isNon_lst, gIsi_list_non, lit_nl, hs, hA, hlen, n1, dRaise_ap, raiK_some]
/-- behind the first row -/
def ta1 : SFn := (dSeq (dAsgX 3 (dFunX fn_told_numbers (dConsA (dVar 1) (dConsA (dC (.int 1)) (dConsA (dC (.str "leaders")) dNilA))) []))
  (dSeq (dIfS (tOrF (DL.tB (d2 gEq (dVar 3) (dLst dNilA))) (tOrF (DL.tB (d2 gGe (d2 gIx (dVar 3) (d1 gNeg (dC (.int 1)))) (d2 gIx (dVar 2) (dC (.int 0))))) (DL.tB (d2 gNe (d1 gSortSet (dVar 3)) (dVar 3))))) (dRaise .NoText (dC (.int 2))) dNext)
  (dSeq (dAsg 4 (dC (.dT [])))
  (dSeq (dAsg 5 (dTup (dConsA (d1 gNeg (dC (.int 1))) (dConsA (d1 gNeg (dC (.int 1))) dNilA))))
  (dSeq (dFor (iRange2 (dC (.int 2)) (dCall gLen (dConsA (dVar 1) dNilA))) (uName 6) sb_read_plan_0)
  (dRet (dFun fn_Plan_init (dConsA (dFun fn_Web_init (dConsA (d2 gIx (dVar 2) (dC (.int 0))) (dConsA (d1 gKeysD (dVar 4)) dNilA)) []) (dConsA (dVar 3) (dConsA (dVar 4) dNilA))) [])))))))
theorem read_1 (h : RowsW rows) {w0 : List (List Nat)} (h0 : rows[0]? = some w0) {n : Nat} (g0 : Good0 w0 n) : fn_read_plan [sD (textR rows)] = runK false (ta1 [sD (textR rows), .lst ((rows.map joinR).map sD), .lst (natsD [n]), .non, .non, .non, .non, .non, .non]) := by
  have hs := h.split
  have hw0 := h.w w0 (List.mem_of_getElem? h0)
  obtain ⟨T, hT⟩ : ∃ T, T = textR rows := ⟨_, rfl⟩
  rw [← hT] at hs ⊢
  have hfs : (dConsA (dVar 1) (dConsA (dC (.int 0)) (dConsA (dC (.str "hands")) dNilA))) [sD T, .lst ((rows.map joinR).map sD), .non, .non, .non, .non, .non, .non, .non] = some [.lst ((rows.map joinR).map sD), .int ((0 : Nat) : Int), sD kHands] := rfl
  have hX := told_ok h0 hw0 g0.t
  have hA := dAsgX_ok (i := 2) ((dFunX_some (G := fn_told_numbers) (dfl := []) hfs).trans hX)
  have hlen : gLen [.lst (natsD [n])] = some (.int 1) := rfl
  have n1 : gNe (.int 1) (.int 1) = some (.bl false) := rfl
  have i0 : gIx (.lst (natsD [n])) (.int 0) = some (.int (n : Int)) := rfl
  have hb := g0.b
  have h2 : (2 : Int) ≤ n := by omega
  have h6 : (n : Int) ≤ 6 := by omega
  have e : sm_read_plan = dSeq (dAsg 1 (d2 gSplit (dVar 0) (dC (.str "\n")))) (dSeq (dAsgX 2 (dFunX fn_told_numbers (dConsA (dVar 1) (dConsA (dC (.int 0)) (dConsA (dC (.str "hands")) dNilA))) []))
    (dSeq (dIfS (tOrF (DL.tB (d2 gNe (dCall gLen (dConsA (dVar 2) dNilA)) (dC (.int 1)))) (tNotF (DL.tB (dChain gLe gLe (dC (.int 2)) (d2 gIx (dVar 2) (dC (.int 0))) (dC (.int 6)))))) (dRaise .NoText (dC (.int 1))) dNext) ta1)) := rfl
  unfold fn_read_plan
  rw [e]
  simp only [bindS, mapS, rng_len, dSeq_ap, seqK_nx, seqK_ret, seqK_cont, seqK_brk, seqK_exc, dNext_ap, dAsg_ap, asgK_some, dRet_ap, retK_some, dIfS_ap, ifK_true, ifK_false, dDrop_ap, dropK_some, dApp_ap, appK_some, dExt_ap, extK_some, dClear_ap, clearK_some, dFor_ap, forK_some, dUnpk_ap, unpK_some, dFst_ap, fstK_some, dRaise_ap, raiK_some, runF_ap, runK_ret, runK_nx, runK_exc, runI_ap, runIK_nx, runIK_exc, dVar_ap, dC_ap, d1_ap, d2_ap, tB_ap, asB_bl, tAndF_ap, tOrF_ap, tNotF_ap, dAnd_ap, dOr_ap, dNot_ap, dIf_ap, ite_and, ite_or, ite_andD, ite_orD, dNilA_ap, dConsA_ap, dTup_ap, dLst_ap, dImm_ap, oNone_ap, oSome_ap, asI_int, dCut_ap, cutK_lst, cutK_scr, dFld_ap, fldK_obj, dCall_ap, dCallN_ap, dFun_ap, okR_ok, dFunN_ap, okRN_lst, okRN_dI, okRN_dT, dMethN_ap, dMeth_ap, isObj_obj, uName_ap, uNil_ap, uCons_ap, uTup_ap, iLst_ap, lstOf_lst, lstOf_scr, iTupD_ap, tupOf_tup, iRev_ap, iEnum_ap, iRange1_ap, rng1K_int, iRange2_ap, rng2K_int, dLc_ap, tTrue_ap, dChain_ap, seqOf_lst, seqOf_tup, seqOf_scr, gLen_lst, gLen_tup, gLen_scr, gCat_lst, gAdd_int, gSub_int, gMul_int, gMod_int, gDiv_int, gLt_int, gLe_int, gGt_int, gGe_int, gMax2_int, gMin2_int, gIsi_lst, gEq_int, gNe_int, bindS, mapS, rng_len, Int.toNat_natCast, List.getElem?_cons_zero, List.getElem?_cons_succ, List.set_cons_zero, List.set_cons_succ, List.append_nil, List.nil_append, List.cons_append, List.replicate_succ, List.replicate_zero, List.length_map, List.length_cons, List.length_nil, Bool.not_true, Bool.not_false, decide_true, decide_false, reduceIte, Bool.false_eq_true, and_true, true_and, or_true, true_or, and_self, Bool.and_true, Bool.true_and, Bool.and_false, Bool.false_and, Bool.or_false, Bool.false_or, Bool.or_true, Bool.true_or, Int.reduceLT, Int.reduceLE, Int.reducePow, Int.reduceNeg, Int.reduceAdd, Int.reduceSub, Int.reduceMul, Int.reduceToNat, Nat.reduceLT, Nat.reduceAdd, Nat.reduceLeDiff, Nat.reducePow, dDGet2_ap, dPut_ap, dForE_ap, forEK_some, dMethPop_ap, dImm_ap, gIsN_non, gNotN_non, isNon_int, isNon_non, flat_int, in_int, notIn_int, eq_ints, ne_ints, eq_nil, ne_nil, gDIn_dict, gDNotIn_dict, getD'_dict, dSetM_ap, setmK_non, setmK_lst, isNon_lst, gIsi_list_non, lit_nl, hs, hA, hlen, n1, i0, decide_eq_true h2, decide_eq_true h6]
theorem read_e1 (h : RowsW rows) {w0 : List (List Nat)} (h0 : rows[0]? = some w0) {n : Nat} (g0 : Good0 w0 n) (hb : rows[1]? = none ∨ ∃ w1, rows[1]? = some w1 ∧ Bad1 n w1) : fn_read_plan [sD (textR rows)] = .exc .NoText (.int 2) := by
  rw [read_1 h h0 g0]
  obtain ⟨T, hT⟩ : ∃ T, T = textR rows := ⟨_, rfl⟩
  rw [← hT]
  have hfs : (dConsA (dVar 1) (dConsA (dC (.int 1)) (dConsA (dC (.str "leaders")) dNilA))) [sD T, .lst ((rows.map joinR).map sD), .lst (natsD [n]), .non, .non, .non, .non, .non, .non] = some [.lst ((rows.map joinR).map sD), .int ((1 : Nat) : Int), sD kLead] := rfl
  have bad : (rows[1]? = none ∨ ∃ ws, rows[1]? = some ws ∧ RowW ws ∧ told ws kLead = none) → runK false (ta1 [sD T, .lst ((rows.map joinR).map sD), .lst (natsD [n]), .non, .non, .non, .non, .non, .non]) = .exc .NoText (.int 2) := fun hb => by
    have hX := told_bad (kw := kLead) (rows := rows) (k := 1) hb
    have hA := dAsgX_exc (i := 3) ((dFunX_some (G := fn_told_numbers) (dfl := []) hfs).trans hX)
    unfold ta1
    simp only [bindS, mapS, rng_len, dSeq_ap, seqK_nx, seqK_ret, seqK_cont, seqK_brk, seqK_exc, dNext_ap, dAsg_ap, asgK_some, dRet_ap, retK_some, dIfS_ap, ifK_true, ifK_false, dDrop_ap, dropK_some, dApp_ap, appK_some, dExt_ap, extK_some, dClear_ap, clearK_some, dFor_ap, forK_some, dUnpk_ap, unpK_some, dFst_ap, fstK_some, dRaise_ap, raiK_some, runF_ap, runK_ret, runK_nx, runK_exc, runI_ap, runIK_nx, runIK_exc, dVar_ap, dC_ap, d1_ap, d2_ap, tB_ap, asB_bl, tAndF_ap, tOrF_ap, tNotF_ap, dAnd_ap, dOr_ap, dNot_ap, dIf_ap, ite_and, ite_or, ite_andD, ite_orD, dNilA_ap, dConsA_ap, dTup_ap, dLst_ap, dImm_ap, oNone_ap, oSome_ap, asI_int, dCut_ap, cutK_lst, cutK_scr, dFld_ap, fldK_obj, dCall_ap, dCallN_ap, dFun_ap, okR_ok, dFunN_ap, okRN_lst, okRN_dI, okRN_dT, dMethN_ap, dMeth_ap, isObj_obj, uName_ap, uNil_ap, uCons_ap, uTup_ap, iLst_ap, lstOf_lst, lstOf_scr, iTupD_ap, tupOf_tup, iRev_ap, iEnum_ap, iRange1_ap, rng1K_int, iRange2_ap, rng2K_int, dLc_ap, tTrue_ap, dChain_ap, seqOf_lst, seqOf_tup, seqOf_scr, gLen_lst, gLen_tup, gLen_scr, gCat_lst, gAdd_int, gSub_int, gMul_int, gMod_int, gDiv_int, gLt_int, gLe_int, gGt_int, gGe_int, gMax2_int, gMin2_int, gIsi_lst, gEq_int, gNe_int, bindS, mapS, rng_len, Int.toNat_natCast, List.getElem?_cons_zero, List.getElem?_cons_succ, List.set_cons_zero, List.set_cons_succ, List.append_nil, List.nil_append, List.cons_append, List.replicate_succ, List.replicate_zero, List.length_map, List.length_cons, List.length_nil, Bool.not_true, Bool.not_false, decide_true, decide_false, reduceIte, Bool.false_eq_true, and_true, true_and, or_true, true_or, and_self, Bool.and_true, Bool.true_and, Bool.and_false, Bool.false_and, Bool.or_false, Bool.false_or, Bool.or_true, Bool.true_or, Int.reduceLT, Int.reduceLE, Int.reducePow, Int.reduceNeg, Int.reduceAdd, Int.reduceSub, Int.reduceMul, Int.reduceToNat, Nat.reduceLT, Nat.reduceAdd, Nat.reduceLeDiff, Nat.reducePow, dDGet2_ap, dPut_ap, dForE_ap, forEK_some, dMethPop_ap, dImm_ap, gIsN_non, gNotN_non, isNon_int, isNon_non, flat_int, in_int, notIn_int, eq_ints, ne_ints, eq_nil, ne_nil, gDIn_dict, gDNotIn_dict, getD'_dict, dSetM_ap, setmK_non, setmK_lst, isNon_lst, gIsi_list_non, hA]
    rfl
  rcases hb with hb | ⟨w1, h1, hb⟩
  · exact bad (.inl hb)
  · have hw1 := h.w w1 (List.mem_of_getElem? h1)
    rcases hb with e | ⟨ns, e, hlt, hb⟩
    · exact bad (.inr ⟨w1, h1, hw1, e⟩)
    · have hX := told_ok h1 hw1 e
      have hA := dAsgX_ok (i := 3) ((dFunX_some (G := fn_told_numbers) (dfl := []) hfs).trans hX)
      rw [natsD_I ns] at hA
      obtain ⟨is, his⟩ : ∃ is, is = ns.map fun (k : Nat) => (k : Int) := ⟨_, rfl⟩
      rw [← his] at hA hb
      have hil : is.length < 64 := by rw [his, List.length_map]; exact hlt
      have i0 : gIx (.lst (natsD [n])) (.int 0) = some (.int (n : Int)) := rfl
      unfold ta1
      by_cases hn : is = []
      · simp only [bindS, mapS, rng_len, dSeq_ap, seqK_nx, seqK_ret, seqK_cont, seqK_brk, seqK_exc, dNext_ap, dAsg_ap, asgK_some, dRet_ap, retK_some, dIfS_ap, ifK_true, ifK_false, dDrop_ap, dropK_some, dApp_ap, appK_some, dExt_ap, extK_some, dClear_ap, clearK_some, dFor_ap, forK_some, dUnpk_ap, unpK_some, dFst_ap, fstK_some, dRaise_ap, raiK_some, runF_ap, runK_ret, runK_nx, runK_exc, runI_ap, runIK_nx, runIK_exc, dVar_ap, dC_ap, d1_ap, d2_ap, tB_ap, asB_bl, tAndF_ap, tOrF_ap, tNotF_ap, dAnd_ap, dOr_ap, dNot_ap, dIf_ap, ite_and, ite_or, ite_andD, ite_orD, dNilA_ap, dConsA_ap, dTup_ap, dLst_ap, dImm_ap, oNone_ap, oSome_ap, asI_int, dCut_ap, cutK_lst, cutK_scr, dFld_ap, fldK_obj, dCall_ap, dCallN_ap, dFun_ap, okR_ok, dFunN_ap, okRN_lst, okRN_dI, okRN_dT, dMethN_ap, dMeth_ap, isObj_obj, uName_ap, uNil_ap, uCons_ap, uTup_ap, iLst_ap, lstOf_lst, lstOf_scr, iTupD_ap, tupOf_tup, iRev_ap, iEnum_ap, iRange1_ap, rng1K_int, iRange2_ap, rng2K_int, dLc_ap, tTrue_ap, dChain_ap, seqOf_lst, seqOf_tup, seqOf_scr, gLen_lst, gLen_tup, gLen_scr, gCat_lst, gAdd_int, gSub_int, gMul_int, gMod_int, gDiv_int, gLt_int, gLe_int, gGt_int, gGe_int, gMax2_int, gMin2_int, gIsi_lst, gEq_int, gNe_int, bindS, mapS, rng_len, Int.toNat_natCast, List.getElem?_cons_zero, List.getElem?_cons_succ, List.set_cons_zero, List.set_cons_succ, List.append_nil, List.nil_append, List.cons_append, List.replicate_succ, List.replicate_zero, List.length_map, List.length_cons, List.length_nil, Bool.not_true, Bool.not_false, decide_true, decide_false, reduceIte, Bool.false_eq_true, and_true, true_and, or_true, true_or, and_self, Bool.and_true, Bool.true_and, Bool.and_false, Bool.false_and, Bool.or_false, Bool.false_or, Bool.or_true, Bool.true_or, Int.reduceLT, Int.reduceLE, Int.reducePow, Int.reduceNeg, Int.reduceAdd, Int.reduceSub, Int.reduceMul, Int.reduceToNat, Nat.reduceLT, Nat.reduceAdd, Nat.reduceLeDiff, Nat.reducePow, dDGet2_ap, dPut_ap, dForE_ap, forEK_some, dMethPop_ap, dImm_ap, gIsN_non, gNotN_non, isNon_int, isNon_non, flat_int, in_int, notIn_int, eq_ints, ne_ints, eq_nil, ne_nil, gDIn_dict, gDNotIn_dict, getD'_dict, dSetM_ap, setmK_non, setmK_lst, isNon_lst, gIsi_list_non, hA, eq_nil, decide_eq_true hn, dRaise_ap, raiK_some]
      · have hns : ns ≠ [] := fun z => hn (by rw [his, z]; rfl)
        have hb := hb.resolve_left hns
        by_cases hla : (n : Int) ≤ lastI is
        · simp only [bindS, mapS, rng_len, dSeq_ap, seqK_nx, seqK_ret, seqK_cont, seqK_brk, seqK_exc, dNext_ap, dAsg_ap, asgK_some, dRet_ap, retK_some, dIfS_ap, ifK_true, ifK_false, dDrop_ap, dropK_some, dApp_ap, appK_some, dExt_ap, extK_some, dClear_ap, clearK_some, dFor_ap, forK_some, dUnpk_ap, unpK_some, dFst_ap, fstK_some, dRaise_ap, raiK_some, runF_ap, runK_ret, runK_nx, runK_exc, runI_ap, runIK_nx, runIK_exc, dVar_ap, dC_ap, d1_ap, d2_ap, tB_ap, asB_bl, tAndF_ap, tOrF_ap, tNotF_ap, dAnd_ap, dOr_ap, dNot_ap, dIf_ap, ite_and, ite_or, ite_andD, ite_orD, dNilA_ap, dConsA_ap, dTup_ap, dLst_ap, dImm_ap, oNone_ap, oSome_ap, asI_int, dCut_ap, cutK_lst, cutK_scr, dFld_ap, fldK_obj, dCall_ap, dCallN_ap, dFun_ap, okR_ok, dFunN_ap, okRN_lst, okRN_dI, okRN_dT, dMethN_ap, dMeth_ap, isObj_obj, uName_ap, uNil_ap, uCons_ap, uTup_ap, iLst_ap, lstOf_lst, lstOf_scr, iTupD_ap, tupOf_tup, iRev_ap, iEnum_ap, iRange1_ap, rng1K_int, iRange2_ap, rng2K_int, dLc_ap, tTrue_ap, dChain_ap, seqOf_lst, seqOf_tup, seqOf_scr, gLen_lst, gLen_tup, gLen_scr, gCat_lst, gAdd_int, gSub_int, gMul_int, gMod_int, gDiv_int, gLt_int, gLe_int, gGt_int, gGe_int, gMax2_int, gMin2_int, gIsi_lst, gEq_int, gNe_int, bindS, mapS, rng_len, Int.toNat_natCast, List.getElem?_cons_zero, List.getElem?_cons_succ, List.set_cons_zero, List.set_cons_succ, List.append_nil, List.nil_append, List.cons_append, List.replicate_succ, List.replicate_zero, List.length_map, List.length_cons, List.length_nil, Bool.not_true, Bool.not_false, decide_true, decide_false, reduceIte, Bool.false_eq_true, and_true, true_and, or_true, true_or, and_self, Bool.and_true, Bool.true_and, Bool.and_false, Bool.false_and, Bool.or_false, Bool.false_or, Bool.or_true, Bool.true_or, Int.reduceLT, Int.reduceLE, Int.reducePow, Int.reduceNeg, Int.reduceAdd, Int.reduceSub, Int.reduceMul, Int.reduceToNat, Nat.reduceLT, Nat.reduceAdd, Nat.reduceLeDiff, Nat.reducePow, dDGet2_ap, dPut_ap, dForE_ap, forEK_some, dMethPop_ap, dImm_ap, gIsN_non, gNotN_non, isNon_int, isNon_non, flat_int, in_int, notIn_int, eq_ints, ne_ints, eq_nil, ne_nil, gDIn_dict, gDNotIn_dict, getD'_dict, dSetM_ap, setmK_non, setmK_lst, isNon_lst, gIsi_list_non, hA, eq_nil, decide_eq_false hn, gNeg_int, gIx_lastI hn, i0, gGe_int, decide_eq_true hla, dRaise_ap, raiK_some]
        · have hb := hb.resolve_left hla
          simp only [bindS, mapS, rng_len, dSeq_ap, seqK_nx, seqK_ret, seqK_cont, seqK_brk, seqK_exc, dNext_ap, dAsg_ap, asgK_some, dRet_ap, retK_some, dIfS_ap, ifK_true, ifK_false, dDrop_ap, dropK_some, dApp_ap, appK_some, dExt_ap, extK_some, dClear_ap, clearK_some, dFor_ap, forK_some, dUnpk_ap, unpK_some, dFst_ap, fstK_some, dRaise_ap, raiK_some, runF_ap, runK_ret, runK_nx, runK_exc, runI_ap, runIK_nx, runIK_exc, dVar_ap, dC_ap, d1_ap, d2_ap, tB_ap, asB_bl, tAndF_ap, tOrF_ap, tNotF_ap, dAnd_ap, dOr_ap, dNot_ap, dIf_ap, ite_and, ite_or, ite_andD, ite_orD, dNilA_ap, dConsA_ap, dTup_ap, dLst_ap, dImm_ap, oNone_ap, oSome_ap, asI_int, dCut_ap, cutK_lst, cutK_scr, dFld_ap, fldK_obj, dCall_ap, dCallN_ap, dFun_ap, okR_ok, dFunN_ap, okRN_lst, okRN_dI, okRN_dT, dMethN_ap, dMeth_ap, isObj_obj, uName_ap, uNil_ap, uCons_ap, uTup_ap, iLst_ap, lstOf_lst, lstOf_scr, iTupD_ap, tupOf_tup, iRev_ap, iEnum_ap, iRange1_ap, rng1K_int, iRange2_ap, rng2K_int, dLc_ap, tTrue_ap, dChain_ap, seqOf_lst, seqOf_tup, seqOf_scr, gLen_lst, gLen_tup, gLen_scr, gCat_lst, gAdd_int, gSub_int, gMul_int, gMod_int, gDiv_int, gLt_int, gLe_int, gGt_int, gGe_int, gMax2_int, gMin2_int, gIsi_lst, gEq_int, gNe_int, bindS, mapS, rng_len, Int.toNat_natCast, List.getElem?_cons_zero, List.getElem?_cons_succ, List.set_cons_zero, List.set_cons_succ, List.append_nil, List.nil_append, List.cons_append, List.replicate_succ, List.replicate_zero, List.length_map, List.length_cons, List.length_nil, Bool.not_true, Bool.not_false, decide_true, decide_false, reduceIte, Bool.false_eq_true, and_true, true_and, or_true, true_or, and_self, Bool.and_true, Bool.true_and, Bool.and_false, Bool.false_and, Bool.or_false, Bool.false_or, Bool.or_true, Bool.true_or, Int.reduceLT, Int.reduceLE, Int.reducePow, Int.reduceNeg, Int.reduceAdd, Int.reduceSub, Int.reduceMul, Int.reduceToNat, Nat.reduceLT, Nat.reduceAdd, Nat.reduceLeDiff, Nat.reducePow, dDGet2_ap, dPut_ap, dForE_ap, forEK_some, dMethPop_ap, dImm_ap, gIsN_non, gNotN_non, isNon_int, isNon_non, flat_int, in_int, notIn_int, eq_ints, ne_ints, eq_nil, ne_nil, gDIn_dict, gDNotIn_dict, getD'_dict, dSetM_ap, setmK_non, setmK_lst, isNon_lst, gIsi_list_non, hA, eq_nil, decide_eq_false hn, gNeg_int, gIx_lastI hn, i0, gGe_int, decide_eq_false hla, gSortSet_lst hil, ne_ints, decide_eq_false hb, dRaise_ap, raiK_some]
/-- behind the second row -/
def ta2 : SFn := (dSeq (dFor (iRange2 (dC (.int 2)) (dCall gLen (dConsA (dVar 1) dNilA))) (uName 6) sb_read_plan_0)
  (dRet (dFun fn_Plan_init (dConsA (dFun fn_Web_init (dConsA (d2 gIx (dVar 2) (dC (.int 0))) (dConsA (d1 gKeysD (dVar 4)) dNilA)) []) (dConsA (dVar 3) (dConsA (dVar 4) dNilA))) [])))
theorem read_2 (h : RowsW rows) {w0 w1 : List (List Nat)} (h0 : rows[0]? = some w0) {n : Nat} (g0 : Good0 w0 n) (h1 : rows[1]? = some w1) {L : List Int} (g1 : Good1 n w1 L) :
    fn_read_plan [sD (textR rows)] = runK false (ta2 [sD (textR rows), .lst ((rows.map joinR).map sD), .lst (natsD [n]), .lst (L.map .int), dTP [], enc ((-1 : Int), (-1 : Int)), .non, .non, .non]) := by
  rw [read_1 h h0 g0]
  obtain ⟨T, hT⟩ : ∃ T, T = textR rows := ⟨_, rfl⟩
  rw [← hT]
  have hfs : (dConsA (dVar 1) (dConsA (dC (.int 1)) (dConsA (dC (.str "leaders")) dNilA))) [sD T, .lst ((rows.map joinR).map sD), .lst (natsD [n]), .non, .non, .non, .non, .non, .non] = some [.lst ((rows.map joinR).map sD), .int ((1 : Nat) : Int), sD kLead] := rfl
  have hX := told_ok h1 (h.w w1 (List.mem_of_getElem? h1)) g1.t
  have hA := dAsgX_ok (i := 3) ((dFunX_some (G := fn_told_numbers) (dfl := []) hfs).trans hX)
  rw [natsD_L g1.g] at hA
  have i0 : gIx (.lst (natsD [n])) (.int 0) = some (.int (n : Int)) := rfl
  have g := g1.g
  have hla : ¬ (n : Int) ≤ lastI L := by have := g.b _ (lastI_mem g.ne); omega
  have hss : gSortSet (.lst (L.map .int)) = some (.lst (L.map .int)) := by rw [gSortSet_lst (by have := g.len; omega), g.ded]
  have nn : gNe (.lst (L.map .int)) (.lst (L.map .int)) = some (.bl false) := by rw [ne_ints, decide_eq_true rfl]; rfl
  have e : ta1 = dSeq (dAsgX 3 (dFunX fn_told_numbers (dConsA (dVar 1) (dConsA (dC (.int 1)) (dConsA (dC (.str "leaders")) dNilA))) []))
      (dSeq (dIfS (tOrF (DL.tB (d2 gEq (dVar 3) (dLst dNilA))) (tOrF (DL.tB (d2 gGe (d2 gIx (dVar 3) (d1 gNeg (dC (.int 1)))) (d2 gIx (dVar 2) (dC (.int 0))))) (DL.tB (d2 gNe (d1 gSortSet (dVar 3)) (dVar 3))))) (dRaise .NoText (dC (.int 2))) dNext)
      (dSeq (dAsg 4 (dC (.dT [])))
      (dSeq (dAsg 5 (dTup (dConsA (d1 gNeg (dC (.int 1))) (dConsA (d1 gNeg (dC (.int 1))) dNilA)))) ta2))) := rfl
  rw [e]
  simp only [bindS, mapS, rng_len, dSeq_ap, seqK_nx, seqK_ret, seqK_cont, seqK_brk, seqK_exc, dNext_ap, dAsg_ap, asgK_some, dRet_ap, retK_some, dIfS_ap, ifK_true, ifK_false, dDrop_ap, dropK_some, dApp_ap, appK_some, dExt_ap, extK_some, dClear_ap, clearK_some, dFor_ap, forK_some, dUnpk_ap, unpK_some, dFst_ap, fstK_some, dRaise_ap, raiK_some, runF_ap, runK_ret, runK_nx, runK_exc, runI_ap, runIK_nx, runIK_exc, dVar_ap, dC_ap, d1_ap, d2_ap, tB_ap, asB_bl, tAndF_ap, tOrF_ap, tNotF_ap, dAnd_ap, dOr_ap, dNot_ap, dIf_ap, ite_and, ite_or, ite_andD, ite_orD, dNilA_ap, dConsA_ap, dTup_ap, dLst_ap, dImm_ap, oNone_ap, oSome_ap, asI_int, dCut_ap, cutK_lst, cutK_scr, dFld_ap, fldK_obj, dCall_ap, dCallN_ap, dFun_ap, okR_ok, dFunN_ap, okRN_lst, okRN_dI, okRN_dT, dMethN_ap, dMeth_ap, isObj_obj, uName_ap, uNil_ap, uCons_ap, uTup_ap, iLst_ap, lstOf_lst, lstOf_scr, iTupD_ap, tupOf_tup, iRev_ap, iEnum_ap, iRange1_ap, rng1K_int, iRange2_ap, rng2K_int, dLc_ap, tTrue_ap, dChain_ap, seqOf_lst, seqOf_tup, seqOf_scr, gLen_lst, gLen_tup, gLen_scr, gCat_lst, gAdd_int, gSub_int, gMul_int, gMod_int, gDiv_int, gLt_int, gLe_int, gGt_int, gGe_int, gMax2_int, gMin2_int, gIsi_lst, gEq_int, gNe_int, bindS, mapS, rng_len, Int.toNat_natCast, List.getElem?_cons_zero, List.getElem?_cons_succ, List.set_cons_zero, List.set_cons_succ, List.append_nil, List.nil_append, List.cons_append, List.replicate_succ, List.replicate_zero, List.length_map, List.length_cons, List.length_nil, Bool.not_true, Bool.not_false, decide_true, decide_false, reduceIte, Bool.false_eq_true, and_true, true_and, or_true, true_or, and_self, Bool.and_true, Bool.true_and, Bool.and_false, Bool.false_and, Bool.or_false, Bool.false_or, Bool.or_true, Bool.true_or, Int.reduceLT, Int.reduceLE, Int.reducePow, Int.reduceNeg, Int.reduceAdd, Int.reduceSub, Int.reduceMul, Int.reduceToNat, Nat.reduceLT, Nat.reduceAdd, Nat.reduceLeDiff, Nat.reducePow, dDGet2_ap, dPut_ap, dForE_ap, forEK_some, dMethPop_ap, dImm_ap, gIsN_non, gNotN_non, isNon_int, isNon_non, flat_int, in_int, notIn_int, eq_ints, ne_ints, eq_nil, ne_nil, gDIn_dict, gDNotIn_dict, getD'_dict, dSetM_ap, setmK_non, setmK_lst, isNon_lst, gIsi_list_non, hA, eq_nil, decide_eq_false g.ne, gNeg_int, gIx_lastI g.ne, i0, gGe_int, decide_eq_false hla, hss, nn]
  rfl
theorem forD_preM {α : Type} {en : α → D} {u : D → List D → Option (List D)} {F : SFn} (P : Nat → List D → Prop) : ∀ (xs : List α) (i : Nat) (ρ : List D), P i ρ →
    (∀ (j : Nat) x ρ, xs[j]? = some x → P (i + j) ρ → ∃ ρ1 ρ', u (en x) ρ = some ρ1 ∧ (F ρ1 = .nx ρ' ∨ F ρ1 = .cont ρ') ∧ P (i + j + 1) ρ') →
    ∃ ρ', P (i + xs.length) ρ' ∧ ∀ ys, forD u F (xs.map en ++ ys) ρ = forD u F ys ρ'
  | [], i, ρ, h, _ => ⟨ρ, h, fun ys => rfl⟩
  | x :: xs, i, ρ, h, step => by
    obtain ⟨ρ1, ρ', h1, h2, h3⟩ := step 0 x ρ rfl h
    obtain ⟨ρ2, g1, g2⟩ := forD_preM (en := en) (u := u) (F := F) P xs (i + 1) ρ' h3 fun j y ρ hy hp => by
      have := step (j + 1) y ρ hy (by rw [show i + (j + 1) = i + 1 + j by omega]; exact hp)
      rw [show i + (j + 1) = i + 1 + j by omega] at this
      exact this
    refine ⟨ρ2, by rw [List.length_cons, show i + (xs.length + 1) = i + 1 + xs.length by omega]; exact g1, fun ys => ?_⟩
    rw [← g2 ys]
    show forD u F (en x :: (xs.map en ++ ys)) ρ = _
    rw [forD, h1]
    rcases h2 with h2 | h2
    · show (match F ρ1 with | .nx ρ' => forD u F (xs.map en ++ ys) ρ' | .cont ρ' => forD u F (xs.map en ++ ys) ρ' | .brk ρ' => .nx ρ' | o => o) = _
      rw [h2]
    · show (match F ρ1 with | .nx ρ' => forD u F (xs.map en ++ ys) ρ' | .cont ρ' => forD u F (xs.map en ++ ys) ρ' | .brk ρ' => .nx ρ' | o => o) = _
      rw [h2]
/-- the passings of the rows from the third on -/
def lastP (qs : List ((Int × Int) × Int)) (i : Nat) : Int × Int := match i with
  | 0 => (-1, -1)
  | i + 1 => ((qs[i]?.map (·.1)).getD (-1, -1))
structure Pas (n : Nat) (rows : List (List (List Nat))) (qs : List ((Int × Int) × Int)) : Prop where
  g : ∀ (i : Nat) q, qs[i]? = some q → ∃ ws, rows[i + 2]? = some ws ∧ GoodP n (lastP qs i) ws q
theorem lexlt_trans {a b c : Int × Int} (h : lexlt a b) (g : lexlt b c) : lexlt a c := by
  unfold lexlt at *
  omega
theorem Pas.up {n : Nat} {rows : List (List (List Nat))} {qs : List ((Int × Int) × Int)} (h : Pas n rows qs) : ∀ (j i : Nat) p q, qs[i]? = some p → qs[i + j + 1]? = some q → lexlt p.1 q.1
  | 0, i, p, q, hp, hq => by
    obtain ⟨ws, _, g⟩ := h.g (i + 1) q hq
    have this : lexlt ((qs[i]?.map (·.1)).getD (-1, -1)) q.1 := g.lt
    rw [hp] at this
    exact this
  | j + 1, i, p, q, hp, hq => by
    have hlt := (List.getElem?_eq_some_iff.mp hq).1
    obtain ⟨r, hr⟩ : ∃ r, qs[i + j + 1]? = some r := ⟨_, List.getElem?_eq_getElem (by omega)⟩
    have h1 := Pas.up h j i p r hp hr
    have h2 := Pas.up h 0 (i + j + 1) r q hr (by rw [show i + j + 1 + 0 + 1 = i + (j + 1) + 1 by omega]; exact hq)
    exact lexlt_trans h1 h2
theorem Pas.new {n : Nat} {rows : List (List (List Nat))} {qs : List ((Int × Int) × Int)} (h : Pas n rows qs) {i : Nat} {q : (Int × Int) × Int} (hq : qs[i]? = some q) : q.1 ∉ (qs.take i).map (·.1) := fun hm => by
  obtain ⟨p, hp, e⟩ := List.mem_map.mp hm
  obtain ⟨k, hk, ek⟩ := List.mem_iff_getElem.mp hp
  rw [List.length_take] at hk
  rw [List.getElem_take] at ek
  have h1 : qs[k]? = some p := by rw [List.getElem?_eq_getElem (by omega), ek]
  have := Pas.up h (i - k - 1) k p q h1 (by rw [show k + (i - k - 1) + 1 = i by omega]; exact hq)
  rw [e] at this
  unfold lexlt at this
  omega
theorem Pas.valid {n : Nat} {rows : List (List (List Nat))} {qs : List ((Int × Int) × Int)} (h : Pas n rows qs) : Valid n (qs.map (·.1)) := by
  refine ⟨?_, fun p hp => ?_⟩
  · rw [List.nodup_iff_pairwise_ne]
    refine List.pairwise_map.mpr (List.pairwise_iff_getElem.mpr fun i j hi hj hij e => ?_)
    have := Pas.up h (j - i - 1) i qs[i] qs[j] (List.getElem?_eq_getElem hi) (by rw [show i + (j - i - 1) + 1 = j by omega]; exact List.getElem?_eq_getElem hj)
    rw [e] at this
    unfold lexlt at this
    omega
  · obtain ⟨q, hq, rfl⟩ := List.mem_map.mp hp
    obtain ⟨i, hi⟩ := List.mem_iff_getElem?.mp hq
    obtain ⟨ws, _, g⟩ := h.g i q hi
    have := g.ok
    unfold okPas at this
    exact ⟨this.1.1, this.1.2, this.2.1.1, this.2.1.2, this.2.2⟩
theorem Pas.loop {n : Nat} {rows : List (List (List Nat))} {qs : List ((Int × Int) × Int)} (h : Pas n rows qs) (hl : qs.length ≤ 1000) (T ld : D) : ∃ z6 z7 z8 : D, ∀ ys,
    forD (uName 6) sb_read_plan_0 ((List.range qs.length).map (fun (k : Nat) => D.int (2 + (k : Int))) ++ ys) [T, .lst ((rows.map joinR).map sD), .lst (natsD [n]), ld, dTP [], enc ((-1 : Int), (-1 : Int)), .non, .non, .non] =
    forD (uName 6) sb_read_plan_0 ys [T, .lst ((rows.map joinR).map sD), .lst (natsD [n]), ld, dTP qs, enc (lastP qs qs.length), z6, z7, z8] := by
  obtain ⟨ρ', ⟨z6, z7, z8, rfl⟩, e⟩ := forD_preM (en := fun (k : Nat) => D.int (2 + (k : Int))) (u := uName 6) (F := sb_read_plan_0)
    (fun i ρ => ∃ z6 z7 z8 : D, ρ = [T, .lst ((rows.map joinR).map sD), .lst (natsD [n]), ld, dTP (qs.take i), enc (lastP qs i), z6, z7, z8]) (List.range qs.length) 0 [T, .lst ((rows.map joinR).map sD), .lst (natsD [n]), ld, dTP [], enc ((-1 : Int), (-1 : Int)), .non, .non, .non] ⟨_, _, _, rfl⟩ (fun j x ρ hx ⟨z6, z7, z8, er⟩ => by
      subst er
      rw [Nat.zero_add]
      have hjl : j < qs.length := by
        have := (List.getElem?_eq_some_iff.mp hx).1
        rwa [List.length_range] at this
      have hxj : x = j := by
        rw [List.getElem?_range hjl] at hx
        exact (Option.some.inj hx).symm
      subst hxj
      obtain ⟨q, hq⟩ : ∃ q, qs[x]? = some q := ⟨_, List.getElem?_eq_getElem hjl⟩
      obtain ⟨ws, hws, g⟩ := h.g x q hq
      have hrw : rows[2 + x]? = some ws := by rw [Nat.add_comm]; exact hws
      have hstep := pas_good hrw g (kvs := qs.take x) (h.new hq) (by rw [List.length_take]; omega) T ld z7 z8
      have ek : D.int (2 + (x : Int)) = D.int ((2 + x : Nat) : Int) := by congr 1
      refine ⟨_, _, rfl, .inl (by rw [ek]; exact hstep), .int ((2 + x : Nat) : Int), .lst (natsD [q.1.1.toNat, q.1.2.toNat, q.2.toNat]), enc q.1, ?_⟩
      have e1 : qs.take (x + 1) = qs.take x ++ [q] := by
        rw [List.take_succ, hq]
        rfl
      have e2 : lastP qs (x + 1) = q.1 := by
        show (qs[x]?.map (·.1)).getD (-1, -1) = q.1
        rw [hq]
        rfl
      rw [e1, e2])
  refine ⟨z6, z7, z8, fun ys => ?_⟩
  rw [e ys, Nat.zero_add, List.length_range, List.take_length]
theorem lenR (rows : List (List (List Nat))) : gLen [.lst ((rows.map joinR).map sD)] = some (.int (rows.length : Int)) := by rw [gLen_lst, List.length_map, List.length_map]
/-- a row from the third on that is none -/
theorem read_eP (h : RowsW rows) {w0 w1 : List (List Nat)} (h0 : rows[0]? = some w0) {n : Nat} (g0 : Good0 w0 n) (h1 : rows[1]? = some w1) {L : List Int} (g1 : Good1 n w1 L) {qs : List ((Int × Int) × Int)} (hp : Pas n rows qs) {ws : List (List Nat)} (hws : rows[qs.length + 2]? = some ws) (hb : BadP n (lastP qs qs.length) ws) :
    fn_read_plan [sD (textR rows)] = .exc .NoText (.int ((qs.length : Int) + 3)) := by
  rw [read_2 h h0 g0 h1 g1]
  have hlt := (List.getElem?_eq_some_iff.mp hws).1
  have hlen := h.len
  have hr : -(2 ^ 62) ≤ (2 : Int) ∧ (2 : Int) < 2 ^ 62 ∧ -(2 ^ 62) ≤ (rows.length : Int) ∧ (rows.length : Int) < 2 ^ 62 := by omega
  obtain ⟨z6, z7, z8, e⟩ := hp.loop (by omega) (sD (textR rows)) (.lst (L.map .int))
  obtain ⟨m, em⟩ : ∃ m, rows.length = 2 + (qs.length + (m + 1)) := ⟨rows.length - qs.length - 3, by omega⟩
  have erng : rng 2 ((rows.length : Int) - 2).toNat = (List.range qs.length).map (fun (k : Nat) => D.int (2 + (k : Int))) ++ (D.int (2 + (qs.length : Int)) :: (List.range m).map fun k => D.int (2 + ((qs.length + (k + 1) : Nat) : Int))) := by
    rw [show ((rows.length : Int) - 2).toNat = qs.length + (m + 1) by omega]
    unfold rng
    rw [List.range_add, List.map_append]
    congr 1
    rw [List.range_succ_eq_map, List.map_cons, List.map_cons, List.map_map, List.map_map]
    rfl
  have hrw : rows[2 + qs.length]? = some ws := by rw [Nat.add_comm]; exact hws
  obtain ⟨ρ', eb⟩ := pas_bad hrw (h.w ws (List.mem_of_getElem? hws)) hb (sD (textR rows)) (.lst (L.map .int)) (dTP qs) z7 z8
  have ek : D.int (2 + (qs.length : Int)) = D.int ((2 + qs.length : Nat) : Int) := by congr 1
  have ef : forD (uName 6) sb_read_plan_0 (rng 2 ((rows.length : Int) - 2).toNat) [sD (textR rows), .lst ((rows.map joinR).map sD), .lst (natsD [n]), .lst (L.map .int), dTP [], enc ((-1 : Int), (-1 : Int)), .non, .non, .non] = .exc .NoText (.int ((qs.length : Int) + 3)) ρ' := by
    rw [erng, e, ek]
    show forD _ _ (D.int ((2 + qs.length : Nat) : Int) :: _) _ = _
    rw [forD]
    show (match sb_read_plan_0 [sD (textR rows), .lst ((rows.map joinR).map sD), .lst (natsD [n]), .lst (L.map .int), dTP qs, enc (lastP qs qs.length), .int ((2 + qs.length : Nat) : Int), z7, z8] with | .nx ρ' => _ | .cont ρ' => _ | .brk ρ' => Out.nx ρ' | o => o) = _
    rw [eb]
    show Out.exc .NoText (.int (((2 + qs.length : Nat) : Int) + 1)) ρ' = _
    rw [show (((2 + qs.length : Nat) : Int) + 1) = (qs.length : Int) + 3 by omega]
  unfold ta2
  simp only [bindS, mapS, rng_len, dSeq_ap, seqK_nx, seqK_ret, seqK_cont, seqK_brk, seqK_exc, dNext_ap, dAsg_ap, asgK_some, dRet_ap, retK_some, dIfS_ap, ifK_true, ifK_false, dDrop_ap, dropK_some, dApp_ap, appK_some, dExt_ap, extK_some, dClear_ap, clearK_some, dFor_ap, forK_some, dUnpk_ap, unpK_some, dFst_ap, fstK_some, dRaise_ap, raiK_some, runF_ap, runK_ret, runK_nx, runK_exc, runI_ap, runIK_nx, runIK_exc, dVar_ap, dC_ap, d1_ap, d2_ap, tB_ap, asB_bl, tAndF_ap, tOrF_ap, tNotF_ap, dAnd_ap, dOr_ap, dNot_ap, dIf_ap, ite_and, ite_or, ite_andD, ite_orD, dNilA_ap, dConsA_ap, dTup_ap, dLst_ap, dImm_ap, oNone_ap, oSome_ap, asI_int, dCut_ap, cutK_lst, cutK_scr, dFld_ap, fldK_obj, dCall_ap, dCallN_ap, dFun_ap, okR_ok, dFunN_ap, okRN_lst, okRN_dI, okRN_dT, dMethN_ap, dMeth_ap, isObj_obj, uName_ap, uNil_ap, uCons_ap, uTup_ap, iLst_ap, lstOf_lst, lstOf_scr, iTupD_ap, tupOf_tup, iRev_ap, iEnum_ap, iRange1_ap, rng1K_int, iRange2_ap, rng2K_int, dLc_ap, tTrue_ap, dChain_ap, seqOf_lst, seqOf_tup, seqOf_scr, gLen_lst, gLen_tup, gLen_scr, gCat_lst, gAdd_int, gSub_int, gMul_int, gMod_int, gDiv_int, gLt_int, gLe_int, gGt_int, gGe_int, gMax2_int, gMin2_int, gIsi_lst, gEq_int, gNe_int, bindS, mapS, rng_len, Int.toNat_natCast, List.getElem?_cons_zero, List.getElem?_cons_succ, List.set_cons_zero, List.set_cons_succ, List.append_nil, List.nil_append, List.cons_append, List.replicate_succ, List.replicate_zero, List.length_map, List.length_cons, List.length_nil, Bool.not_true, Bool.not_false, decide_true, decide_false, reduceIte, Bool.false_eq_true, and_true, true_and, or_true, true_or, and_self, Bool.and_true, Bool.true_and, Bool.and_false, Bool.false_and, Bool.or_false, Bool.false_or, Bool.or_true, Bool.true_or, Int.reduceLT, Int.reduceLE, Int.reducePow, Int.reduceNeg, Int.reduceAdd, Int.reduceSub, Int.reduceMul, Int.reduceToNat, Nat.reduceLT, Nat.reduceAdd, Nat.reduceLeDiff, Nat.reducePow, dDGet2_ap, dPut_ap, dForE_ap, forEK_some, dMethPop_ap, dImm_ap, gIsN_non, gNotN_non, isNon_int, isNon_non, flat_int, in_int, notIn_int, eq_ints, ne_ints, eq_nil, ne_nil, gDIn_dict, gDNotIn_dict, getD'_dict, dSetM_ap, setmK_non, setmK_lst, isNon_lst, gIsi_list_non, lenR, rng2K_int hr, ef]
/-- the whole plan -/
theorem read_okP (h : RowsW rows) {w0 w1 : List (List Nat)} (h0 : rows[0]? = some w0) {n : Nat} (g0 : Good0 w0 n) (h1 : rows[1]? = some w1) {L : List Int} (g1 : Good1 n w1 L) {qs : List ((Int × Int) × Int)} (hp : Pas n rows qs) (hl : rows.length = qs.length + 2) {lim : Int × Int → Int} (hq : ∀ q ∈ qs, q.2 = lim q.1) :
    fn_read_plan [sD (textR rows)] = .ok (planD n (qs.map (·.1)) L lim) := by
  rw [read_2 h h0 g0 h1 g1]
  have hlen := h.len
  have hr : -(2 ^ 62) ≤ (2 : Int) ∧ (2 : Int) < 2 ^ 62 ∧ -(2 ^ 62) ≤ (rows.length : Int) ∧ (rows.length : Int) < 2 ^ 62 := by omega
  obtain ⟨z6, z7, z8, e⟩ := hp.loop (by omega) (sD (textR rows)) (.lst (L.map .int))
  have v := hp.valid
  have ef : forD (uName 6) sb_read_plan_0 (rng 2 ((rows.length : Int) - 2).toNat) [sD (textR rows), .lst ((rows.map joinR).map sD), .lst (natsD [n]), .lst (L.map .int), dTP [], enc ((-1 : Int), (-1 : Int)), .non, .non, .non] = .nx [sD (textR rows), .lst ((rows.map joinR).map sD), .lst (natsD [n]), .lst (L.map .int), dTP qs, enc (lastP qs qs.length), z6, z7, z8] := by
    rw [show ((rows.length : Int) - 2).toNat = qs.length by omega]
    have := e []
    rw [List.append_nil] at this
    exact this
  have i0 : gIx (.lst (natsD [n])) (.int 0) = some (.int (n : Int)) := rfl
  have hw := Web_init_eq g0.b.1 g0.b.2 v (by rw [List.length_map]; omega)
  have hpl := Plan_init_eq (lim := lim) (kvs := qs) v (by rw [List.length_map]; omega) g1.g fun p hm => by
    obtain ⟨q, hqm, rfl⟩ := List.mem_map.mp hm
    rw [lkP_mem v.nd hqm, hq q hqm]
  unfold ta2
  simp only [bindS, mapS, rng_len, dSeq_ap, seqK_nx, seqK_ret, seqK_cont, seqK_brk, seqK_exc, dNext_ap, dAsg_ap, asgK_some, dRet_ap, retK_some, dIfS_ap, ifK_true, ifK_false, dDrop_ap, dropK_some, dApp_ap, appK_some, dExt_ap, extK_some, dClear_ap, clearK_some, dFor_ap, forK_some, dUnpk_ap, unpK_some, dFst_ap, fstK_some, dRaise_ap, raiK_some, runF_ap, runK_ret, runK_nx, runK_exc, runI_ap, runIK_nx, runIK_exc, dVar_ap, dC_ap, d1_ap, d2_ap, tB_ap, asB_bl, tAndF_ap, tOrF_ap, tNotF_ap, dAnd_ap, dOr_ap, dNot_ap, dIf_ap, ite_and, ite_or, ite_andD, ite_orD, dNilA_ap, dConsA_ap, dTup_ap, dLst_ap, dImm_ap, oNone_ap, oSome_ap, asI_int, dCut_ap, cutK_lst, cutK_scr, dFld_ap, fldK_obj, dCall_ap, dCallN_ap, dFun_ap, okR_ok, dFunN_ap, okRN_lst, okRN_dI, okRN_dT, dMethN_ap, dMeth_ap, isObj_obj, uName_ap, uNil_ap, uCons_ap, uTup_ap, iLst_ap, lstOf_lst, lstOf_scr, iTupD_ap, tupOf_tup, iRev_ap, iEnum_ap, iRange1_ap, rng1K_int, iRange2_ap, rng2K_int, dLc_ap, tTrue_ap, dChain_ap, seqOf_lst, seqOf_tup, seqOf_scr, gLen_lst, gLen_tup, gLen_scr, gCat_lst, gAdd_int, gSub_int, gMul_int, gMod_int, gDiv_int, gLt_int, gLe_int, gGt_int, gGe_int, gMax2_int, gMin2_int, gIsi_lst, gEq_int, gNe_int, bindS, mapS, rng_len, Int.toNat_natCast, List.getElem?_cons_zero, List.getElem?_cons_succ, List.set_cons_zero, List.set_cons_succ, List.append_nil, List.nil_append, List.cons_append, List.replicate_succ, List.replicate_zero, List.length_map, List.length_cons, List.length_nil, Bool.not_true, Bool.not_false, decide_true, decide_false, reduceIte, Bool.false_eq_true, and_true, true_and, or_true, true_or, and_self, Bool.and_true, Bool.true_and, Bool.and_false, Bool.false_and, Bool.or_false, Bool.false_or, Bool.or_true, Bool.true_or, Int.reduceLT, Int.reduceLE, Int.reducePow, Int.reduceNeg, Int.reduceAdd, Int.reduceSub, Int.reduceMul, Int.reduceToNat, Nat.reduceLT, Nat.reduceAdd, Nat.reduceLeDiff, Nat.reducePow, dDGet2_ap, dPut_ap, dForE_ap, forEK_some, dMethPop_ap, dImm_ap, gIsN_non, gNotN_non, isNon_int, isNon_non, flat_int, in_int, notIn_int, eq_ints, ne_ints, eq_nil, ne_nil, gDIn_dict, gDNotIn_dict, getD'_dict, dSetM_ap, setmK_non, setmK_lst, isNon_lst, gIsi_list_non, lenR, rng2K_int hr, ef, i0, keysP, hw, hpl]
end

theorem rngI_pw (lo : Int) (n : Nat) : (rngI lo n).Pairwise (· < ·) := by
  unfold rngI
  exact List.pairwise_map.mpr (List.pairwise_lt_range.imp fun h => by omega)
theorem l_leadersN (c : Int) (n : Nat) (n2 : 2 ≤ n) (n6 : n ≤ 6) : ∃ L : List Int, GoodL n L ∧ fn_l_leaders [.int c, .int n] = .ok (.lst (L.map .int)) := by
  have hrn : -(2 ^ 62) ≤ (n : Int) ∧ (n : Int) < 2 ^ 62 := by omega
  obtain ⟨xs, X, hs, hl, hX, hx⟩ := draws c 7 (by decide)
  have hs' : fn_l_stream [.int c, .int 7] = .ok (.lst (xs.map .int)) := hs
  have x0 : gIx (.lst (xs.map .int)) (.int 0) = some (.int (X 0)) := hx 0 (by decide)
  have x6 : gIx (.lst (xs.map .int)) (.int 6) = some (.int (X 6)) := hx 6 (by decide)
  have c1 := lcD_map (en := D.int) (en' := D.int) (u := uName 4) (t := DL.tB (d2 gLt (d2 gMod (d2 gIx (dVar 2) (dVar 4)) (dC (.int 4))) (d2 gAdd (dC (.int 1)) (d2 gMod (d2 gIx (dVar 2) (dC (.int 6))) (dC (.int 3)))))) (f := dVar 4) (ρ := [.int c, .int n, .lst (xs.map .int), .non, .non]) (fun k => decide (X k.toNat % 4 < 1 + X 6 % 3)) (fun k => k) (xs := rngI 0 n) fun k hk => by
    have hk' := mem_rngI.mp hk
    have hxk := hx k (by omega)
    exact ⟨_, rfl, by simp only [bindS, mapS, rng_len, dSeq_ap, seqK_nx, seqK_ret, seqK_cont, seqK_brk, seqK_exc, dNext_ap, dAsg_ap, asgK_some, dRet_ap, retK_some, dIfS_ap, ifK_true, ifK_false, dDrop_ap, dropK_some, dApp_ap, appK_some, dExt_ap, extK_some, dClear_ap, clearK_some, dFor_ap, forK_some, dUnpk_ap, unpK_some, dFst_ap, fstK_some, dRaise_ap, raiK_some, runF_ap, runK_ret, runK_nx, runK_exc, runI_ap, runIK_nx, runIK_exc, dVar_ap, dC_ap, d1_ap, d2_ap, tB_ap, asB_bl, tAndF_ap, tOrF_ap, tNotF_ap, dAnd_ap, dOr_ap, dNot_ap, dIf_ap, ite_and, ite_or, ite_andD, ite_orD, dNilA_ap, dConsA_ap, dTup_ap, dLst_ap, dImm_ap, oNone_ap, oSome_ap, asI_int, dCut_ap, cutK_lst, cutK_scr, dFld_ap, fldK_obj, dCall_ap, dCallN_ap, dFun_ap, okR_ok, dFunN_ap, okRN_lst, okRN_dI, okRN_dT, dMethN_ap, dMeth_ap, isObj_obj, uName_ap, uNil_ap, uCons_ap, uTup_ap, iLst_ap, lstOf_lst, lstOf_scr, iTupD_ap, tupOf_tup, iRev_ap, iEnum_ap, iRange1_ap, rng1K_int, iRange2_ap, rng2K_int, dLc_ap, tTrue_ap, dChain_ap, seqOf_lst, seqOf_tup, seqOf_scr, gLen_lst, gLen_tup, gLen_scr, gCat_lst, gAdd_int, gSub_int, gMul_int, gMod_int, gDiv_int, gLt_int, gLe_int, gGt_int, gGe_int, gMax2_int, gMin2_int, gIsi_lst, gEq_int, gNe_int, bindS, mapS, rng_len, Int.toNat_natCast, List.getElem?_cons_zero, List.getElem?_cons_succ, List.set_cons_zero, List.set_cons_succ, List.append_nil, List.nil_append, List.cons_append, List.replicate_succ, List.replicate_zero, List.length_map, List.length_cons, List.length_nil, Bool.not_true, Bool.not_false, decide_true, decide_false, reduceIte, Bool.false_eq_true, and_true, true_and, or_true, true_or, and_self, Bool.and_true, Bool.true_and, Bool.and_false, Bool.false_and, Bool.or_false, Bool.false_or, Bool.or_true, Bool.true_or, Int.reduceLT, Int.reduceLE, Int.reducePow, Int.reduceNeg, Int.reduceAdd, Int.reduceSub, Int.reduceMul, Int.reduceToNat, Nat.reduceLT, Nat.reduceAdd, Nat.reduceLeDiff, Nat.reducePow, dDGet2_ap, dPut_ap, dForE_ap, forEK_some, dMethPop_ap, dImm_ap, gIsN_non, gNotN_non, isNon_int, isNon_non, flat_int, in_int, notIn_int, eq_ints, ne_ints, eq_nil, ne_nil, gDIn_dict, gDNotIn_dict, getD'_dict, dSetM_ap, setmK_non, setmK_lst, isNon_lst, gIsi_list_non, hxk, x6], fun _ => rfl⟩
  rw [List.map_id', ← rng_eq] at c1
  have n100 : n ≤ 100000 := by omega
  obtain ⟨L, hL⟩ : ∃ L, L = (rngI 0 n).filter fun k => decide (X k.toNat % 4 < 1 + X 6 % 3) := ⟨_, rfl⟩
  rw [← hL] at c1
  have hb : ∀ x ∈ L, 0 ≤ x ∧ x < n := fun x h => by
    rw [hL] at h
    have := mem_rngI.mp (List.mem_filter.mp h).1
    omega
  by_cases hn : L = []
  · have hm0 : (0 : Int) < (n : Int) := by omega
    refine ⟨[X 0 % n], ⟨by simp, by simp, fun x h => ?_, (by decide : 1 ≤ 6)⟩, ?_⟩
    · rw [List.mem_singleton.mp h]
      exact ⟨Int.emod_nonneg _ (by omega), Int.emod_lt_of_pos _ hm0⟩
    · unfold fn_l_leaders sm_l_leaders
      simp only [bindS, mapS, rng_len, dSeq_ap, seqK_nx, seqK_ret, seqK_cont, seqK_brk, seqK_exc, dNext_ap, dAsg_ap, asgK_some, dRet_ap, retK_some, dIfS_ap, ifK_true, ifK_false, dDrop_ap, dropK_some, dApp_ap, appK_some, dExt_ap, extK_some, dClear_ap, clearK_some, dFor_ap, forK_some, dUnpk_ap, unpK_some, dFst_ap, fstK_some, dRaise_ap, raiK_some, runF_ap, runK_ret, runK_nx, runK_exc, runI_ap, runIK_nx, runIK_exc, dVar_ap, dC_ap, d1_ap, d2_ap, tB_ap, asB_bl, tAndF_ap, tOrF_ap, tNotF_ap, dAnd_ap, dOr_ap, dNot_ap, dIf_ap, ite_and, ite_or, ite_andD, ite_orD, dNilA_ap, dConsA_ap, dTup_ap, dLst_ap, dImm_ap, oNone_ap, oSome_ap, asI_int, dCut_ap, cutK_lst, cutK_scr, dFld_ap, fldK_obj, dCall_ap, dCallN_ap, dFun_ap, okR_ok, dFunN_ap, okRN_lst, okRN_dI, okRN_dT, dMethN_ap, dMeth_ap, isObj_obj, uName_ap, uNil_ap, uCons_ap, uTup_ap, iLst_ap, lstOf_lst, lstOf_scr, iTupD_ap, tupOf_tup, iRev_ap, iEnum_ap, iRange1_ap, rng1K_int, iRange2_ap, rng2K_int, dLc_ap, tTrue_ap, dChain_ap, seqOf_lst, seqOf_tup, seqOf_scr, gLen_lst, gLen_tup, gLen_scr, gCat_lst, gAdd_int, gSub_int, gMul_int, gMod_int, gDiv_int, gLt_int, gLe_int, gGt_int, gGe_int, gMax2_int, gMin2_int, gIsi_lst, gEq_int, gNe_int, bindS, mapS, rng_len, Int.toNat_natCast, List.getElem?_cons_zero, List.getElem?_cons_succ, List.set_cons_zero, List.set_cons_succ, List.append_nil, List.nil_append, List.cons_append, List.replicate_succ, List.replicate_zero, List.length_map, List.length_cons, List.length_nil, Bool.not_true, Bool.not_false, decide_true, decide_false, reduceIte, Bool.false_eq_true, and_true, true_and, or_true, true_or, and_self, Bool.and_true, Bool.true_and, Bool.and_false, Bool.false_and, Bool.or_false, Bool.false_or, Bool.or_true, Bool.true_or, Int.reduceLT, Int.reduceLE, Int.reducePow, Int.reduceNeg, Int.reduceAdd, Int.reduceSub, Int.reduceMul, Int.reduceToNat, Nat.reduceLT, Nat.reduceAdd, Nat.reduceLeDiff, Nat.reducePow, dDGet2_ap, dPut_ap, dForE_ap, forEK_some, dMethPop_ap, dImm_ap, gIsN_non, gNotN_non, isNon_int, isNon_non, flat_int, in_int, notIn_int, eq_ints, ne_ints, eq_nil, ne_nil, gDIn_dict, gDNotIn_dict, getD'_dict, dSetM_ap, setmK_non, setmK_lst, isNon_lst, gIsi_list_non, hs', rng1K_int hrn, c1, n100, eq_nil, decide_eq_true hn, x0, gMod_int hm0]
      rfl
  · refine ⟨L, ⟨hn, ?_, hb, ?_⟩, ?_⟩
    · rw [hL]
      exact (rngI_pw 0 n).filter _
    · rw [hL]
      refine Nat.le_trans (List.length_filter_le _ _) ?_
      rw [rngI_length]
      exact n6
    · unfold fn_l_leaders sm_l_leaders
      simp only [bindS, mapS, rng_len, dSeq_ap, seqK_nx, seqK_ret, seqK_cont, seqK_brk, seqK_exc, dNext_ap, dAsg_ap, asgK_some, dRet_ap, retK_some, dIfS_ap, ifK_true, ifK_false, dDrop_ap, dropK_some, dApp_ap, appK_some, dExt_ap, extK_some, dClear_ap, clearK_some, dFor_ap, forK_some, dUnpk_ap, unpK_some, dFst_ap, fstK_some, dRaise_ap, raiK_some, runF_ap, runK_ret, runK_nx, runK_exc, runI_ap, runIK_nx, runIK_exc, dVar_ap, dC_ap, d1_ap, d2_ap, tB_ap, asB_bl, tAndF_ap, tOrF_ap, tNotF_ap, dAnd_ap, dOr_ap, dNot_ap, dIf_ap, ite_and, ite_or, ite_andD, ite_orD, dNilA_ap, dConsA_ap, dTup_ap, dLst_ap, dImm_ap, oNone_ap, oSome_ap, asI_int, dCut_ap, cutK_lst, cutK_scr, dFld_ap, fldK_obj, dCall_ap, dCallN_ap, dFun_ap, okR_ok, dFunN_ap, okRN_lst, okRN_dI, okRN_dT, dMethN_ap, dMeth_ap, isObj_obj, uName_ap, uNil_ap, uCons_ap, uTup_ap, iLst_ap, lstOf_lst, lstOf_scr, iTupD_ap, tupOf_tup, iRev_ap, iEnum_ap, iRange1_ap, rng1K_int, iRange2_ap, rng2K_int, dLc_ap, tTrue_ap, dChain_ap, seqOf_lst, seqOf_tup, seqOf_scr, gLen_lst, gLen_tup, gLen_scr, gCat_lst, gAdd_int, gSub_int, gMul_int, gMod_int, gDiv_int, gLt_int, gLe_int, gGt_int, gGe_int, gMax2_int, gMin2_int, gIsi_lst, gEq_int, gNe_int, bindS, mapS, rng_len, Int.toNat_natCast, List.getElem?_cons_zero, List.getElem?_cons_succ, List.set_cons_zero, List.set_cons_succ, List.append_nil, List.nil_append, List.cons_append, List.replicate_succ, List.replicate_zero, List.length_map, List.length_cons, List.length_nil, Bool.not_true, Bool.not_false, decide_true, decide_false, reduceIte, Bool.false_eq_true, and_true, true_and, or_true, true_or, and_self, Bool.and_true, Bool.true_and, Bool.and_false, Bool.false_and, Bool.or_false, Bool.false_or, Bool.or_true, Bool.true_or, Int.reduceLT, Int.reduceLE, Int.reducePow, Int.reduceNeg, Int.reduceAdd, Int.reduceSub, Int.reduceMul, Int.reduceToNat, Nat.reduceLT, Nat.reduceAdd, Nat.reduceLeDiff, Nat.reducePow, dDGet2_ap, dPut_ap, dForE_ap, forEK_some, dMethPop_ap, dImm_ap, gIsN_non, gNotN_non, isNon_int, isNon_non, flat_int, in_int, notIn_int, eq_ints, ne_ints, eq_nil, ne_nil, gDIn_dict, gDNotIn_dict, getD'_dict, dSetM_ap, setmK_non, setmK_lst, isNon_lst, gIsi_list_non, hs', rng1K_int hrn, c1, n100, eq_nil, decide_eq_false hn]

/-! ### the rows of a plan -/
def nw (i : Int) : List Nat := TL.numL i.toNat
def rowsP (n : Nat) (L : List Int) (qs : List ((Int × Int) × Int)) : List (List (List Nat)) := [kHands, TL.numL n] :: (kLead :: L.map nw) :: qs.map fun q => [kPass, nw q.1.1, nw q.1.2, nw q.2]
structure GoodQ (n : Nat) (qs : List ((Int × Int) × Int)) : Prop where
  ok : ∀ q ∈ qs, okPas n q.1
  l : ∀ q ∈ qs, 0 ≤ q.2 ∧ q.2 < 10 ^ 9
  up : qs.Pairwise fun p q => lexlt p.1 q.1
  len : qs.length ≤ 42
theorem numL_row (n : Nat) (h : n < 10 ^ 9) : (TL.numL n).length ≤ 20 ∧ 32 ∉ TL.numL n ∧ 10 ∉ TL.numL n := ⟨Nat.le_trans (num9 h) (by decide), TL.numL_free (.inl (by decide)), TL.numL_free (.inl (by decide))⟩
theorem nw_row {i : Int} (h : i < 10 ^ 9) : (nw i).length ≤ 20 ∧ 32 ∉ nw i ∧ 10 ∉ nw i := numL_row _ (by omega)
theorem row0 {n : Nat} (h : n ≤ 6) : RowW [kHands, TL.numL n] := ⟨by simp, (by decide : 2 ≤ 20), fun w hw => by
  rcases List.mem_cons.mp hw with h | h
  · rw [h]; decide
  · rw [List.mem_singleton.mp h]; exact numL_row n (by omega)⟩
theorem row1 {n : Nat} (n6 : n ≤ 6) {L : List Int} (g : GoodL n L) : RowW (kLead :: L.map nw) := ⟨by simp, by rw [List.length_cons, List.length_map]; have := g.len; omega, fun w hw => by
  rcases List.mem_cons.mp hw with h | h
  · rw [h]; decide
  · obtain ⟨x, hx, rfl⟩ := List.mem_map.mp h
    have := g.b x hx
    exact nw_row (by omega)⟩
theorem row2 {n : Nat} (n6 : n ≤ 6) {q : (Int × Int) × Int} (h : okPas n q.1) (hl : 0 ≤ q.2 ∧ q.2 < 10 ^ 9) : RowW [kPass, nw q.1.1, nw q.1.2, nw q.2] := ⟨by simp, (by decide : 4 ≤ 20), fun w hw => by
  unfold okPas at h
  simp only [List.mem_cons, List.not_mem_nil, or_false] at hw
  rcases hw with h' | h' | h' | h'
  · rw [h']; decide
  · rw [h']; exact nw_row (by omega)
  · rw [h']; exact nw_row (by omega)
  · rw [h']; exact nw_row hl.2⟩
theorem rowsP_len (n : Nat) (L : List Int) (qs : List ((Int × Int) × Int)) : (rowsP n L qs).length = qs.length + 2 := by
  unfold rowsP
  rw [List.length_cons, List.length_cons, List.length_map]
theorem rowsP_w {n : Nat} (n6 : n ≤ 6) {L : List Int} (g : GoodL n L) {qs : List ((Int × Int) × Int)} (gq : GoodQ n qs) : RowsW (rowsP n L qs) := ⟨by unfold rowsP; simp, by rw [rowsP_len]; have := gq.len; omega, fun ws hw => by
  rcases List.mem_cons.mp hw with h | h
  · rw [h]; exact row0 n6
  · rcases List.mem_cons.mp h with h | h
    · rw [h]; exact row1 n6 g
    · obtain ⟨q, hq, rfl⟩ := List.mem_map.mp h
      exact row2 n6 (gq.ok q hq) (gq.l q hq)⟩
theorem good0 {n : Nat} (h2 : 2 ≤ n) (h6 : n ≤ 6) : Good0 [kHands, TL.numL n] n := ⟨by
  show (if kHands = kHands then allN [TL.numL n] else none) = _
  rw [if_pos rfl]
  exact allN_num [n] fun m hm => by rw [List.mem_singleton.mp hm]; omega, h2, h6⟩
theorem good1 {n : Nat} (h6 : n ≤ 6) {L : List Int} (g : GoodL n L) : Good1 n (kLead :: L.map nw) L := ⟨by
  show (if kLead = kLead then allN (L.map nw) else none) = _
  rw [if_pos rfl]
  have e : L.map nw = (L.map Int.toNat).map TL.numL := by rw [List.map_map]; rfl
  rw [e]
  exact allN_num _ fun m hm => by
    obtain ⟨x, hx, rfl⟩ := List.mem_map.mp hm
    have := g.b x hx
    omega, g⟩
theorem goodP {n : Nat} (h6 : n ≤ 6) {q : (Int × Int) × Int} (h : okPas n q.1) (hl : 0 ≤ q.2 ∧ q.2 < 10 ^ 9) {last : Int × Int} (lt : lexlt last q.1) : GoodP n last [kPass, nw q.1.1, nw q.1.2, nw q.2] q := ⟨row2 h6 h hl, ⟨q.2.toNat, by
  show (if kPass = kPass then allN [nw q.1.1, nw q.1.2, nw q.2] else none) = _
  rw [if_pos rfl]
  unfold okPas at h
  exact allN_num [q.1.1.toNat, q.1.2.toNat, q.2.toNat] fun m hm => by
    simp only [List.mem_cons, List.not_mem_nil, or_false] at hm
    rcases hm with h' | h' | h' <;> omega, by omega⟩, h, lt⟩
theorem lex0 {n : Nat} {p : Int × Int} (h : okPas n p) : lexlt ((-1 : Int), (-1 : Int)) p := by
  unfold okPas at h
  unfold lexlt
  exact .inl (by show (-1 : Int) < p.1; omega)
/-- good rows ahead -/
theorem pas_of {n : Nat} (h6 : n ≤ 6) {qs : List ((Int × Int) × Int)} (gq : GoodQ n qs) {rows : List (List (List Nat))} (hr : ∀ (i : Nat) q, qs[i]? = some q → rows[i + 2]? = some [kPass, nw q.1.1, nw q.1.2, nw q.2]) : Pas n rows qs := ⟨fun i q hq => by
  have hm := List.mem_of_getElem? hq
  refine ⟨_, hr i q hq, goodP h6 (gq.ok q hm) (gq.l q hm) ?_⟩
  cases i with
  | zero => exact lex0 (gq.ok q hm)
  | succ j =>
    obtain ⟨hlt, eq⟩ := List.getElem?_eq_some_iff.mp hq
    show lexlt ((qs[j]?.map (·.1)).getD (-1, -1)) q.1
    rw [List.getElem?_eq_getElem (by omega)]
    have := List.pairwise_iff_getElem.mp gq.up j (j + 1) (by omega) hlt (by omega)
    rw [eq] at this
    exact this⟩
theorem GoodQ.take {n : Nat} {qs : List ((Int × Int) × Int)} (g : GoodQ n qs) (k : Nat) : GoodQ n (qs.take k) := ⟨fun q h => g.ok q (List.mem_of_mem_take h), fun q h => g.l q (List.mem_of_mem_take h), g.up.sublist (List.take_sublist _ _), by rw [List.length_take]; have := g.len; omega⟩
theorem rowsP_get {n : Nat} {L : List Int} {qs : List ((Int × Int) × Int)} (i : Nat) (q : (Int × Int) × Int) (h : qs[i]? = some q) : (rowsP n L qs)[i + 2]? = some [kPass, nw q.1.1, nw q.1.2, nw q.2] := by
  show (qs.map fun q => [kPass, nw q.1.1, nw q.1.2, nw q.2])[i]? = _
  rw [List.getElem?_map, h]
  rfl
theorem read_plan_ok {n : Nat} (h2 : 2 ≤ n) (h6 : n ≤ 6) {L : List Int} (g : GoodL n L) {qs : List ((Int × Int) × Int)} (gq : GoodQ n qs) {lim : Int × Int → Int} (hq : ∀ q ∈ qs, q.2 = lim q.1) : fn_read_plan [sD (textR (rowsP n L qs))] = .ok (planD n (qs.map (·.1)) L lim) :=
  read_okP (rowsP_w h6 g gq) rfl (good0 h2 h6) rfl (good1 h6 g) (pas_of h6 gq rowsP_get) (rowsP_len n L qs) hq

theorem valid_len {n : Nat} {ps : List (Int × Int)} (n6 : n ≤ 6) (v : Valid n ps) : ps.length ≤ 30 := by
  have h : (ps.map fun p => 5 * p.1 + (if p.2 < p.1 then p.2 else p.2 - 1)).Nodup := by
    rw [List.nodup_iff_pairwise_ne]
    refine List.pairwise_map.mpr (List.Pairwise.imp_of_mem ?_ (List.nodup_iff_pairwise_ne.mp v.nd))
    intro p q hp hq hne e
    have h1 := v.ok p hp
    have h2 := v.ok q hq
    refine hne (Prod.ext ?_ ?_)
    · split at e <;> split at e <;> omega
    · split at e <;> split at e <;> omega
  have := nodup_rng (n := 30) h fun x hx => by
    obtain ⟨p, hp, rfl⟩ := List.mem_map.mp hx
    have h1 := v.ok p hp
    split <;> omega
  rwa [List.length_map] at this
theorem goodQ_of {n : Nat} {ps : List (Int × Int)} (n6 : n ≤ 6) (v : Valid n ps) {lim : Int × Int → Int} (hl : ∀ p, 0 ≤ lim p ∧ lim p < 10 ^ 9) : GoodQ n ((sortE ps).map fun p => (p, lim p)) := by
  have hp := sortE_perm ps
  have nds : (sortE ps).Nodup := hp.nodup_iff.mpr v.nd
  refine ⟨fun q hq => ?_, fun q hq => ?_, ?_, ?_⟩
  · obtain ⟨p, hm, rfl⟩ := List.mem_map.mp hq
    have := v.ok p (hp.mem_iff.mp hm)
    exact ⟨⟨this.1, this.2.1⟩, ⟨this.2.2.1, this.2.2.2.1⟩, this.2.2.2.2⟩
  · obtain ⟨p, hm, rfl⟩ := List.mem_map.mp hq
    exact hl p
  · refine List.pairwise_map.mpr ?_
    refine List.Pairwise.imp₂ (R := fun a b => EncS.le a b = true) (S := fun a b => a ≠ b) (fun a b h1 h2 => ?_) (sortE_pw ps) (List.nodup_iff_pairwise_ne.mp nds)
    have := le_pair h1
    show lexlt a b
    unfold lexlt
    by_cases e : a.1 = b.1
    · have : a.2 ≠ b.2 := fun e2 => h2 (Prod.ext e e2)
      omega
    · omega
  · rw [List.length_map, hp.length_eq]
    have := valid_len n6 v
    omega
theorem qs_keys {ps : List (Int × Int)} {lim : Int × Int → Int} : ((sortE ps).map fun p => (p, lim p)).map (·.1) = sortE ps := by
  rw [List.map_map]
  exact List.map_id' _
theorem sortE_idem {ps : List (Int × Int)} : sortE (sortE ps) = sortE ps := by
  refine (sortE_of (fun a b h1 h2 => ?_) (sortE_pw ps) (List.Perm.refl _)).symm
  have := le_pair h1
  have := le_pair h2
  exact Prod.ext (by omega) (by omega)

/-- the words joined -/
theorem joined_eq {xs : List (D × List Nat)} (hg : ∀ x ∈ xs, gStr [x.1] = some (sD x.2)) (hl : xs.length ≤ 1000) (hw : ∀ x ∈ xs, x.2.length ≤ 1000) : fn_joined [.lst (xs.map (·.1))] = .ok (sD (TL.joinL [32] (xs.map (·.2)))) := by
  have hlc : lcD (uName 1) tTrue (dCall gStr (dConsA (dVar 1) dNilA)) [.lst (xs.map (·.1)), .non] (xs.map (·.1)) = some ((xs.map (·.2)).map sD) := by
    have := lcD_map (en := fun x : D × List Nat => x.1) (en' := sD) (u := uName 1) (t := tTrue) (f := dCall gStr (dConsA (dVar 1) dNilA)) (ρ := [.lst (xs.map (·.1)), .non]) (fun _ => true) (fun x : D × List Nat => x.2) (xs := xs) fun x hx => ⟨_, rfl, rfl, fun _ => by
      simp only [bindS, mapS, rng_len, dSeq_ap, seqK_nx, seqK_ret, seqK_cont, seqK_brk, seqK_exc, dNext_ap, dAsg_ap, asgK_some, dRet_ap, retK_some, dIfS_ap, ifK_true, ifK_false, dDrop_ap, dropK_some, dApp_ap, appK_some, dExt_ap, extK_some, dClear_ap, clearK_some, dFor_ap, forK_some, dUnpk_ap, unpK_some, dFst_ap, fstK_some, dRaise_ap, raiK_some, runF_ap, runK_ret, runK_nx, runK_exc, runI_ap, runIK_nx, runIK_exc, dVar_ap, dC_ap, d1_ap, d2_ap, tB_ap, asB_bl, tAndF_ap, tOrF_ap, tNotF_ap, dAnd_ap, dOr_ap, dNot_ap, dIf_ap, ite_and, ite_or, ite_andD, ite_orD, dNilA_ap, dConsA_ap, dTup_ap, dLst_ap, dImm_ap, oNone_ap, oSome_ap, asI_int, dCut_ap, cutK_lst, cutK_scr, dFld_ap, fldK_obj, dCall_ap, dCallN_ap, dFun_ap, okR_ok, dFunN_ap, okRN_lst, okRN_dI, okRN_dT, dMethN_ap, dMeth_ap, isObj_obj, uName_ap, uNil_ap, uCons_ap, uTup_ap, iLst_ap, lstOf_lst, lstOf_scr, iTupD_ap, tupOf_tup, iRev_ap, iEnum_ap, iRange1_ap, rng1K_int, iRange2_ap, rng2K_int, dLc_ap, tTrue_ap, dChain_ap, seqOf_lst, seqOf_tup, seqOf_scr, gLen_lst, gLen_tup, gLen_scr, gCat_lst, gAdd_int, gSub_int, gMul_int, gMod_int, gDiv_int, gLt_int, gLe_int, gGt_int, gGe_int, gMax2_int, gMin2_int, gIsi_lst, gEq_int, gNe_int, bindS, mapS, rng_len, Int.toNat_natCast, List.getElem?_cons_zero, List.getElem?_cons_succ, List.set_cons_zero, List.set_cons_succ, List.append_nil, List.nil_append, List.cons_append, List.replicate_succ, List.replicate_zero, List.length_map, List.length_cons, List.length_nil, Bool.not_true, Bool.not_false, decide_true, decide_false, reduceIte, Bool.false_eq_true, and_true, true_and, or_true, true_or, and_self, Bool.and_true, Bool.true_and, Bool.and_false, Bool.false_and, Bool.or_false, Bool.false_or, Bool.or_true, Bool.true_or, Int.reduceLT, Int.reduceLE, Int.reducePow, Int.reduceNeg, Int.reduceAdd, Int.reduceSub, Int.reduceMul, Int.reduceToNat, Nat.reduceLT, Nat.reduceAdd, Nat.reduceLeDiff, Nat.reducePow, hg x hx]⟩
    rw [List.filter_eq_self.mpr fun _ _ => rfl] at this
    exact this
  have hle : (xs.length ≤ 100000) := by omega
  have hj : gJoin (sD [32]) (.lst ((xs.map (·.2)).map sD)) = some (sD (TL.joinL [32] (xs.map (·.2)))) := gJoin_k (k := 1000) (m := 1000) (fun y hy => by
    obtain ⟨x, hx, rfl⟩ := List.mem_map.mp hy
    exact hw x hx) (by rw [List.length_map]; exact hl) (by decide)
  unfold fn_joined sm_joined
  simp only [bindS, mapS, rng_len, dSeq_ap, seqK_nx, seqK_ret, seqK_cont, seqK_brk, seqK_exc, dNext_ap, dAsg_ap, asgK_some, dRet_ap, retK_some, dIfS_ap, ifK_true, ifK_false, dDrop_ap, dropK_some, dApp_ap, appK_some, dExt_ap, extK_some, dClear_ap, clearK_some, dFor_ap, forK_some, dUnpk_ap, unpK_some, dFst_ap, fstK_some, dRaise_ap, raiK_some, runF_ap, runK_ret, runK_nx, runK_exc, runI_ap, runIK_nx, runIK_exc, dVar_ap, dC_ap, d1_ap, d2_ap, tB_ap, asB_bl, tAndF_ap, tOrF_ap, tNotF_ap, dAnd_ap, dOr_ap, dNot_ap, dIf_ap, ite_and, ite_or, ite_andD, ite_orD, dNilA_ap, dConsA_ap, dTup_ap, dLst_ap, dImm_ap, oNone_ap, oSome_ap, asI_int, dCut_ap, cutK_lst, cutK_scr, dFld_ap, fldK_obj, dCall_ap, dCallN_ap, dFun_ap, okR_ok, dFunN_ap, okRN_lst, okRN_dI, okRN_dT, dMethN_ap, dMeth_ap, isObj_obj, uName_ap, uNil_ap, uCons_ap, uTup_ap, iLst_ap, lstOf_lst, lstOf_scr, iTupD_ap, tupOf_tup, iRev_ap, iEnum_ap, iRange1_ap, rng1K_int, iRange2_ap, rng2K_int, dLc_ap, tTrue_ap, dChain_ap, seqOf_lst, seqOf_tup, seqOf_scr, gLen_lst, gLen_tup, gLen_scr, gCat_lst, gAdd_int, gSub_int, gMul_int, gMod_int, gDiv_int, gLt_int, gLe_int, gGt_int, gGe_int, gMax2_int, gMin2_int, gIsi_lst, gEq_int, gNe_int, bindS, mapS, rng_len, Int.toNat_natCast, List.getElem?_cons_zero, List.getElem?_cons_succ, List.set_cons_zero, List.set_cons_succ, List.append_nil, List.nil_append, List.cons_append, List.replicate_succ, List.replicate_zero, List.length_map, List.length_cons, List.length_nil, Bool.not_true, Bool.not_false, decide_true, decide_false, reduceIte, Bool.false_eq_true, and_true, true_and, or_true, true_or, and_self, Bool.and_true, Bool.true_and, Bool.and_false, Bool.false_and, Bool.or_false, Bool.false_or, Bool.or_true, Bool.true_or, Int.reduceLT, Int.reduceLE, Int.reducePow, Int.reduceNeg, Int.reduceAdd, Int.reduceSub, Int.reduceMul, Int.reduceToNat, Nat.reduceLT, Nat.reduceAdd, Nat.reduceLeDiff, Nat.reducePow, if_pos hle, hlc, lit_sp, hj]
theorem txt_hands (n : Nat) (h : n ≤ 6) : gAddS (.str "hands ") (sD (TL.numL n)) = some (sD (joinR [kHands, TL.numL n])) := by
  have e : D.str ("hands " : Str) = sD [104, 97, 110, 100, 115, 32] := rfl
  rw [e, gAddS_S (by have := (numL_row n (by omega)).1; simp only [List.length_cons, List.length_nil]; omega)]
  rfl
theorem gStr_nw {i : Int} (h : 0 ≤ i ∧ i < 10 ^ 9) : gStr [.int i] = some (sD (nw i)) := gStr_int h.1 (by omega)
theorem l_limits_eq (c : Int) {n : Nat} {ps : List (Int × Int)} (v : Valid n ps) (hl : ps.length ≤ 30) : ∃ lim : Int × Int → Int, (∀ p, 0 ≤ lim p ∧ lim p < 10 ^ 9) ∧ fn_l_limits [.int c, .lst (ps.map enc)] = .ok (dTP (ps.map fun p => (p, lim p))) := by
  obtain ⟨xs, X, hs, hxl, hX, hx⟩ := draws c 31 (by decide)
  have hs' : fn_l_stream [.int c, .int 31] = .ok (.lst (xs.map .int)) := hs
  have x30 : gIx (.lst (xs.map .int)) (.int 30) = some (.int (X 30)) := hx 30 (by decide)
  have hr : -(2 ^ 62) ≤ (ps.length : Int) ∧ (ps.length : Int) < 2 ^ 62 := by omega
  obtain ⟨f, hf, ef⟩ : ∃ f : Int → Int, (∀ x, 0 ≤ f x ∧ f x < 10 ^ 9) ∧ ∀ x, gIx (.lst [.int (x % 12), .int (x % 101), .int (x * 48271 % 1000000000)]) (.int (X 30 % 3)) = some (.int (f x)) := by
    have : X 30 % 3 = 0 ∨ X 30 % 3 = 1 ∨ X 30 % 3 = 2 := by omega
    rcases this with h | h | h
    · rw [h]; exact ⟨fun x => x % 12, fun x => by show 0 ≤ x % 12 ∧ x % 12 < 10 ^ 9; omega, fun x => rfl⟩
    · rw [h]; exact ⟨fun x => x % 101, fun x => by show 0 ≤ x % 101 ∧ x % 101 < 10 ^ 9; omega, fun x => rfl⟩
    · rw [h]; exact ⟨fun x => x * 48271 % 1000000000, fun x => by show 0 ≤ x * 48271 % 1000000000 ∧ x * 48271 % 1000000000 < 10 ^ 9; omega, fun x => rfl⟩
  let lim : Int × Int → Int := fun p => f (X (ps.idxOf p))
  refine ⟨lim, fun p => hf _, ?_⟩
  have hp9 : gPow (.int 10) (.int 9) = some (.int 1000000000) := rfl
  have hmul : ∀ x : Int, gMul (.int x) (.int 48271) = some (.int (x * 48271)) := fun x => gMul_int (.inr (by omega))
  obtain ⟨ρ', e, z4, rfl⟩ := forD_rng (u := uName 4) (F := sb_l_limits_0) (lo := 0) (n := ps.length) (ρ := [.int c, .lst (ps.map enc), .lst (xs.map .int), .dT [], .non])
    (fun i ρ => ∃ z4 : D, ρ = [.int c, .lst (ps.map enc), .lst (xs.map .int), dTP ((ps.take i).map fun p => (p, lim p)), z4]) ⟨_, rfl⟩ (fun i ρ hi ⟨z4, er⟩ => by
      subst er
      obtain ⟨p, hp⟩ : ∃ p, ps[i]? = some p := ⟨_, List.getElem?_eq_getElem hi⟩
      have ip : gIx (.lst (ps.map enc)) (.int (0 + (i : Int))) = some (enc p) := gIx_nn (en := (enc : Int × Int → D)) (by omega) (by rw [show (0 + (i : Int)).toNat = i by omega, hp])
      have hxi : gIx (.lst (xs.map .int)) (.int (0 + (i : Int))) = some (.int (X i)) := by
        have := hx (0 + (i : Int)) (by omega)
        rw [show (0 + (i : Int)).toNat = i by omega] at this
        exact this
      have hidx : ps.idxOf p = i := by
        have e1 := (List.getElem?_eq_some_iff.mp hp).2
        rw [← e1]
        exact v.nd.idxOf_getElem i hi
      have el : f (X i) = lim p := by show f (X i) = f (X (ps.idxOf p)); rw [hidx]
      have hnew : p ∉ ((ps.take i).map fun p => (p, lim p)).map (·.1) := fun hm => by
        rw [List.map_map] at hm
        have hm : p ∈ (ps.take i).map id := hm
        rw [List.map_id] at hm
        obtain ⟨j, hj, ej⟩ := List.mem_iff_getElem.mp hm
        rw [List.length_take] at hj
        rw [List.getElem_take] at ej
        have e2 : ps[j]? = some p := by rw [List.getElem?_eq_getElem (by omega), ej]
        rw [← hp] at e2
        have := (List.getElem?_inj (by omega) v.nd).mp e2
        omega
      have hput : putK' 3 (some (.int (lim p))) (some (dTP ((ps.take i).map fun p => (p, lim p)))) (some (enc p)) [.int c, .lst (ps.map enc), .lst (xs.map .int), dTP ((ps.take i).map fun p => (p, lim p)), .int (0 + (i : Int))] = .nx [.int c, .lst (ps.map enc), .lst (xs.map .int), dTP ((ps.take i).map (fun p => (p, lim p)) ++ [(p, lim p)]), .int (0 + (i : Int))] := putK'_some (putP hnew (by rw [List.length_map, List.length_take]; omega))
      refine ⟨_, _, rfl, .inl (?_ : sb_l_limits_0 _ = .nx [.int c, .lst (ps.map enc), .lst (xs.map .int), dTP ((ps.take i).map (fun p => (p, lim p)) ++ [(p, lim p)]), .int (0 + (i : Int))]), .int (0 + (i : Int)), ?_⟩
      · have m12 : (0 : Int) < 12 := by decide
        have efi := ef (X i)
        unfold sb_l_limits_0
        simp only [bindS, mapS, rng_len, dSeq_ap, seqK_nx, seqK_ret, seqK_cont, seqK_brk, seqK_exc, dNext_ap, dAsg_ap, asgK_some, dRet_ap, retK_some, dIfS_ap, ifK_true, ifK_false, dDrop_ap, dropK_some, dApp_ap, appK_some, dExt_ap, extK_some, dClear_ap, clearK_some, dFor_ap, forK_some, dUnpk_ap, unpK_some, dFst_ap, fstK_some, dRaise_ap, raiK_some, runF_ap, runK_ret, runK_nx, runK_exc, runI_ap, runIK_nx, runIK_exc, dVar_ap, dC_ap, d1_ap, d2_ap, tB_ap, asB_bl, tAndF_ap, tOrF_ap, tNotF_ap, dAnd_ap, dOr_ap, dNot_ap, dIf_ap, ite_and, ite_or, ite_andD, ite_orD, dNilA_ap, dConsA_ap, dTup_ap, dLst_ap, dImm_ap, oNone_ap, oSome_ap, asI_int, dCut_ap, cutK_lst, cutK_scr, dFld_ap, fldK_obj, dCall_ap, dCallN_ap, dFun_ap, okR_ok, dFunN_ap, okRN_lst, okRN_dI, okRN_dT, dMethN_ap, dMeth_ap, isObj_obj, uName_ap, uNil_ap, uCons_ap, uTup_ap, iLst_ap, lstOf_lst, lstOf_scr, iTupD_ap, tupOf_tup, iRev_ap, iEnum_ap, iRange1_ap, rng1K_int, iRange2_ap, rng2K_int, dLc_ap, tTrue_ap, dChain_ap, seqOf_lst, seqOf_tup, seqOf_scr, gLen_lst, gLen_tup, gLen_scr, gCat_lst, gAdd_int, gSub_int, gMul_int, gMod_int, gDiv_int, gLt_int, gLe_int, gGt_int, gGe_int, gMax2_int, gMin2_int, gIsi_lst, gEq_int, gNe_int, bindS, mapS, rng_len, Int.toNat_natCast, List.getElem?_cons_zero, List.getElem?_cons_succ, List.set_cons_zero, List.set_cons_succ, List.append_nil, List.nil_append, List.cons_append, List.replicate_succ, List.replicate_zero, List.length_map, List.length_cons, List.length_nil, Bool.not_true, Bool.not_false, decide_true, decide_false, reduceIte, Bool.false_eq_true, and_true, true_and, or_true, true_or, and_self, Bool.and_true, Bool.true_and, Bool.and_false, Bool.false_and, Bool.or_false, Bool.false_or, Bool.or_true, Bool.true_or, Int.reduceLT, Int.reduceLE, Int.reducePow, Int.reduceNeg, Int.reduceAdd, Int.reduceSub, Int.reduceMul, Int.reduceToNat, Nat.reduceLT, Nat.reduceAdd, Nat.reduceLeDiff, Nat.reducePow, dDGet2_ap, dPut_ap, dForE_ap, forEK_some, dMethPop_ap, dImm_ap, gIsN_non, gNotN_non, isNon_int, isNon_non, flat_int, in_int, notIn_int, eq_ints, ne_ints, eq_nil, ne_nil, gDIn_dict, gDNotIn_dict, getD'_dict, dSetM_ap, setmK_non, setmK_lst, isNon_lst, gIsi_list_non, ip, hxi, x30, hp9, hmul, gMod_int (show (0 : Int) < 12 by decide), gMod_int (show (0 : Int) < 101 by decide), gMod_int (show (0 : Int) < 1000000000 by decide), gMod_int (show (0 : Int) < 3 by decide), efi, el, hput]
      · rw [List.take_succ, hp, List.map_append]
        rfl)
  rw [List.take_length] at e
  unfold fn_l_limits sm_l_limits
  simp only [bindS, mapS, rng_len, dSeq_ap, seqK_nx, seqK_ret, seqK_cont, seqK_brk, seqK_exc, dNext_ap, dAsg_ap, asgK_some, dRet_ap, retK_some, dIfS_ap, ifK_true, ifK_false, dDrop_ap, dropK_some, dApp_ap, appK_some, dExt_ap, extK_some, dClear_ap, clearK_some, dFor_ap, forK_some, dUnpk_ap, unpK_some, dFst_ap, fstK_some, dRaise_ap, raiK_some, runF_ap, runK_ret, runK_nx, runK_exc, runI_ap, runIK_nx, runIK_exc, dVar_ap, dC_ap, d1_ap, d2_ap, tB_ap, asB_bl, tAndF_ap, tOrF_ap, tNotF_ap, dAnd_ap, dOr_ap, dNot_ap, dIf_ap, ite_and, ite_or, ite_andD, ite_orD, dNilA_ap, dConsA_ap, dTup_ap, dLst_ap, dImm_ap, oNone_ap, oSome_ap, asI_int, dCut_ap, cutK_lst, cutK_scr, dFld_ap, fldK_obj, dCall_ap, dCallN_ap, dFun_ap, okR_ok, dFunN_ap, okRN_lst, okRN_dI, okRN_dT, dMethN_ap, dMeth_ap, isObj_obj, uName_ap, uNil_ap, uCons_ap, uTup_ap, iLst_ap, lstOf_lst, lstOf_scr, iTupD_ap, tupOf_tup, iRev_ap, iEnum_ap, iRange1_ap, rng1K_int, iRange2_ap, rng2K_int, dLc_ap, tTrue_ap, dChain_ap, seqOf_lst, seqOf_tup, seqOf_scr, gLen_lst, gLen_tup, gLen_scr, gCat_lst, gAdd_int, gSub_int, gMul_int, gMod_int, gDiv_int, gLt_int, gLe_int, gGt_int, gGe_int, gMax2_int, gMin2_int, gIsi_lst, gEq_int, gNe_int, bindS, mapS, rng_len, Int.toNat_natCast, List.getElem?_cons_zero, List.getElem?_cons_succ, List.set_cons_zero, List.set_cons_succ, List.append_nil, List.nil_append, List.cons_append, List.replicate_succ, List.replicate_zero, List.length_map, List.length_cons, List.length_nil, Bool.not_true, Bool.not_false, decide_true, decide_false, reduceIte, Bool.false_eq_true, and_true, true_and, or_true, true_or, and_self, Bool.and_true, Bool.true_and, Bool.and_false, Bool.false_and, Bool.or_false, Bool.false_or, Bool.or_true, Bool.true_or, Int.reduceLT, Int.reduceLE, Int.reducePow, Int.reduceNeg, Int.reduceAdd, Int.reduceSub, Int.reduceMul, Int.reduceToNat, Nat.reduceLT, Nat.reduceAdd, Nat.reduceLeDiff, Nat.reducePow, dDGet2_ap, dPut_ap, dForE_ap, forEK_some, dMethPop_ap, dImm_ap, gIsN_non, gNotN_non, isNon_int, isNon_non, flat_int, in_int, notIn_int, eq_ints, ne_ints, eq_nil, ne_nil, gDIn_dict, gDNotIn_dict, getD'_dict, dSetM_ap, setmK_non, setmK_lst, isNon_lst, gIsi_list_non, hs', rng1K_int hr, e]
section
variable {n : Nat} {ps : List (Int × Int)} {L : List Int} {lim : Int × Int → Int}
theorem qs_lk (v : Valid n ps) {p : Int × Int} (h : p ∈ ps) : lkP ((sortE ps).map fun p => (p, lim p)) p = some (lim p) := by
  have hp := sortE_perm ps
  refine lkP_mem (q := (p, lim p)) ?_ (List.mem_map.mpr ⟨p, hp.mem_iff.mpr h, rfl⟩)
  rw [qs_keys]
  exact hp.nodup_iff.mpr v.nd
theorem ps_lk (v : Valid n ps) {p : Int × Int} (h : p ∈ ps) : lkP (ps.map fun p => (p, lim p)) p = some (lim p) := by
  refine lkP_mem (q := (p, lim p)) ?_ (List.mem_map.mpr ⟨p, h, rfl⟩)
  rw [List.map_map]
  exact (List.map_id' ps).symm ▸ v.nd
theorem limit_eq (v : Valid n ps) {p : Int × Int} (h : p ∈ ps) : fn_Plan_limit [planD n ps L lim, enc p] = .ok (.int (lim p)) := by
  have hh := gDIx_P (qs_lk (lim := lim) v h)
  have hf : fldK .Plan 2 (planD n ps L lim) = some (dTP ((sortE ps).map fun p => (p, lim p))) := rfl
  unfold fn_Plan_limit sm_Plan_limit
  simp only [bindS, mapS, rng_len, dSeq_ap, seqK_nx, seqK_ret, seqK_cont, seqK_brk, seqK_exc, dNext_ap, dAsg_ap, asgK_some, dRet_ap, retK_some, dIfS_ap, ifK_true, ifK_false, dDrop_ap, dropK_some, dApp_ap, appK_some, dExt_ap, extK_some, dClear_ap, clearK_some, dFor_ap, forK_some, dUnpk_ap, unpK_some, dFst_ap, fstK_some, dRaise_ap, raiK_some, runF_ap, runK_ret, runK_nx, runK_exc, runI_ap, runIK_nx, runIK_exc, dVar_ap, dC_ap, d1_ap, d2_ap, tB_ap, asB_bl, tAndF_ap, tOrF_ap, tNotF_ap, dAnd_ap, dOr_ap, dNot_ap, dIf_ap, ite_and, ite_or, ite_andD, ite_orD, dNilA_ap, dConsA_ap, dTup_ap, dLst_ap, dImm_ap, oNone_ap, oSome_ap, asI_int, dCut_ap, cutK_lst, cutK_scr, dFld_ap, fldK_obj, dCall_ap, dCallN_ap, dFun_ap, okR_ok, dFunN_ap, okRN_lst, okRN_dI, okRN_dT, dMethN_ap, dMeth_ap, isObj_obj, uName_ap, uNil_ap, uCons_ap, uTup_ap, iLst_ap, lstOf_lst, lstOf_scr, iTupD_ap, tupOf_tup, iRev_ap, iEnum_ap, iRange1_ap, rng1K_int, iRange2_ap, rng2K_int, dLc_ap, tTrue_ap, dChain_ap, seqOf_lst, seqOf_tup, seqOf_scr, gLen_lst, gLen_tup, gLen_scr, gCat_lst, gAdd_int, gSub_int, gMul_int, gMod_int, gDiv_int, gLt_int, gLe_int, gGt_int, gGe_int, gMax2_int, gMin2_int, gIsi_lst, gEq_int, gNe_int, bindS, mapS, rng_len, Int.toNat_natCast, List.getElem?_cons_zero, List.getElem?_cons_succ, List.set_cons_zero, List.set_cons_succ, List.append_nil, List.nil_append, List.cons_append, List.replicate_succ, List.replicate_zero, List.length_map, List.length_cons, List.length_nil, Bool.not_true, Bool.not_false, decide_true, decide_false, reduceIte, Bool.false_eq_true, and_true, true_and, or_true, true_or, and_self, Bool.and_true, Bool.true_and, Bool.and_false, Bool.false_and, Bool.or_false, Bool.false_or, Bool.or_true, Bool.true_or, Int.reduceLT, Int.reduceLE, Int.reducePow, Int.reduceNeg, Int.reduceAdd, Int.reduceSub, Int.reduceMul, Int.reduceToNat, Nat.reduceLT, Nat.reduceAdd, Nat.reduceLeDiff, Nat.reducePow, dDGet2_ap, dPut_ap, dForE_ap, forEK_some, dMethPop_ap, dImm_ap, gIsN_non, gNotN_non, isNon_int, isNon_non, flat_int, in_int, notIn_int, eq_ints, ne_ints, eq_nil, ne_nil, gDIn_dict, gDNotIn_dict, getD'_dict, dSetM_ap, setmK_non, setmK_lst, isNon_lst, gIsi_list_non, hf, hh]
theorem written_plan_eq (n6 : n ≤ 6) (v : Valid n ps) (g : GoodL n L) (hl : ∀ p, 0 ≤ lim p ∧ lim p < 10 ^ 9) : fn_written_plan [planD n ps L lim] = .ok (sD (textR (rowsP n L ((sortE ps).map fun p => (p, lim p))))) := by
  have hp := sortE_perm ps
  have gq := goodQ_of n6 v hl
  have hps := valid_len n6 v
  have hg := g.len
  have f0 : fldK .Plan 0 (planD n ps L lim) = some (webD n ps) := rfl
  have f1 : fldK .Plan 1 (planD n ps L lim) = some (.lst (L.map .int)) := rfl
  have w0 : fldK .Web 0 (webD n ps) = some (.int n) := rfl
  have w1 : fldK .Web 1 (webD n ps) = some (.lst ((sortE ps).map enc)) := rfl
  obtain ⟨P, eP⟩ : ∃ P, P = planD n ps L lim := ⟨_, rfl⟩
  have hP : isObj .Plan P = true := by rw [eP]; rfl
  have j0 := joined_eq (xs := [(sD kHands, kHands), (.int n, TL.numL n)]) (fun x hx => by
    simp only [List.mem_cons, List.not_mem_nil, or_false] at hx
    rcases hx with h | h
    · rw [h]; rfl
    · rw [h]; exact gStr_nat (by omega)) (show 2 ≤ 1000 by decide) (fun x hx => by
    have := (row0 n6).w x.2 (by
      simp only [List.mem_cons, List.not_mem_nil, or_false] at hx
      rcases hx with h | h <;> (rw [h]; simp))
    omega)
  have j0' : fn_joined [.lst [sD kHands, .int n]] = .ok (sD (joinR [kHands, TL.numL n])) := j0
  have hcat : gCat (.lst [sD kLead]) (.lst (L.map .int)) = some (.lst (sD kLead :: L.map .int)) := gCat_lst (by simp only [List.length_map, List.length_cons, List.length_nil]; omega)
  have j1 := joined_eq (xs := (sD kLead, kLead) :: L.map fun x => (D.int x, nw x)) (fun x hx => by
    rcases List.mem_cons.mp hx with h | h
    · rw [h]; rfl
    · obtain ⟨y, hy, rfl⟩ := List.mem_map.mp h
      have := g.b y hy
      exact gStr_nw (by omega)) (by rw [List.length_cons, List.length_map]; omega) (fun x hx => by
    have := (row1 n6 g).w x.2 (by
      rcases List.mem_cons.mp hx with h | h
      · rw [h]; exact .head _
      · obtain ⟨y, hy, rfl⟩ := List.mem_map.mp h
        exact .tail _ (List.mem_map.mpr ⟨y, hy, rfl⟩))
    omega)
  have j1' : fn_joined [.lst (sD kLead :: L.map .int)] = .ok (sD (joinR (kLead :: L.map nw))) := by
    rw [List.map_cons, List.map_cons, List.map_map, List.map_map] at j1
    exact j1
  obtain ⟨ρ', e, z2, rfl⟩ := forD_map (en := (enc : Int × Int → D)) (u := uName 2) (F := sb_written_plan_0) (all := sortE ps) (ρ := [P, .lst [sD (joinR [kHands, TL.numL n]), sD (joinR (kLead :: L.map nw))], .non])
    (fun done ρ => ∃ z2 : D, ρ = [P, .lst (((rowsP n L (done.map fun p => (p, lim p))).map joinR).map sD), z2]) ⟨_, rfl⟩ (fun done p rest ρ ed ⟨z2, er⟩ => by
      subst er
      have hm : p ∈ sortE ps := by rw [← ed]; simp
      have hmp : p ∈ ps := hp.mem_iff.mp hm
      have hdl : done.length + 1 ≤ (sortE ps).length := by rw [← ed]; simp
      have hok := v.ok p hmp
      have hle := limit_eq (L := L) (lim := lim) v hmp
      rw [← eP] at hle
      have i0 : gIx (enc p) (.int 0) = some (.int p.1) := gIx_tnn (c := [p.1, p.2]) (by decide) rfl
      have i1 : gIx (enc p) (.int 1) = some (.int p.2) := gIx_tnn (c := [p.1, p.2]) (by decide) rfl
      have hrow := row2 n6 (q := (p, lim p)) ⟨⟨hok.1, hok.2.1⟩, ⟨hok.2.2.1, hok.2.2.2.1⟩, hok.2.2.2.2⟩ (hl p)
      have hj := joined_eq (xs := [(sD kPass, kPass), (.int p.1, nw p.1), (.int p.2, nw p.2), (.int (lim p), nw (lim p))]) (fun x hx => by
        simp only [List.mem_cons, List.not_mem_nil, or_false] at hx
        rcases hx with h | h | h | h
        · rw [h]; rfl
        · rw [h]; exact gStr_nw (by omega)
        · rw [h]; exact gStr_nw (by omega)
        · rw [h]; exact gStr_nw (hl p)) (show 4 ≤ 1000 by decide) (fun x hx => by
        have := hrow.w x.2 (by
          simp only [List.mem_cons, List.not_mem_nil, or_false] at hx
          rcases hx with h | h | h | h <;> (rw [h]; simp))
        omega)
      have hj' : fn_joined [.lst [sD kPass, .int p.1, .int p.2, .int (lim p)]] = .ok (sD (joinR [kPass, nw p.1, nw p.2, nw (lim p)])) := hj
      have hlt : (((rowsP n L (done.map fun p => (p, lim p))).map joinR).map sD).length < 100000 := by
        rw [List.length_map, List.length_map, rowsP_len, List.length_map]
        have := hp.length_eq
        omega
      have hadd : ((rowsP n L (done.map fun p => (p, lim p))).map joinR).map sD ++ [sD (joinR [kPass, nw p.1, nw p.2, nw (lim p)])] = ((rowsP n L ((done ++ [p]).map fun p => (p, lim p))).map joinR).map sD := by
        have e : rowsP n L ((done ++ [p]).map fun p => (p, lim p)) = rowsP n L (done.map fun p => (p, lim p)) ++ [[kPass, nw p.1, nw p.2, nw (lim p)]] := by
          unfold rowsP
          rw [List.map_append, List.map_append]
          rfl
        rw [e, List.map_append, List.map_append]
        rfl
      refine ⟨_, _, rfl, .inl (?_ : sb_written_plan_0 _ = .nx [P, .lst (((rowsP n L ((done ++ [p]).map fun p => (p, lim p))).map joinR).map sD), enc p]), _, rfl⟩
      unfold sb_written_plan_0
      simp only [bindS, mapS, rng_len, dSeq_ap, seqK_nx, seqK_ret, seqK_cont, seqK_brk, seqK_exc, dNext_ap, dAsg_ap, asgK_some, dRet_ap, retK_some, dIfS_ap, ifK_true, ifK_false, dDrop_ap, dropK_some, dApp_ap, appK_some, dExt_ap, extK_some, dClear_ap, clearK_some, dFor_ap, forK_some, dUnpk_ap, unpK_some, dFst_ap, fstK_some, dRaise_ap, raiK_some, runF_ap, runK_ret, runK_nx, runK_exc, runI_ap, runIK_nx, runIK_exc, dVar_ap, dC_ap, d1_ap, d2_ap, tB_ap, asB_bl, tAndF_ap, tOrF_ap, tNotF_ap, dAnd_ap, dOr_ap, dNot_ap, dIf_ap, ite_and, ite_or, ite_andD, ite_orD, dNilA_ap, dConsA_ap, dTup_ap, dLst_ap, dImm_ap, oNone_ap, oSome_ap, asI_int, dCut_ap, cutK_lst, cutK_scr, dFld_ap, fldK_obj, dCall_ap, dCallN_ap, dFun_ap, okR_ok, dFunN_ap, okRN_lst, okRN_dI, okRN_dT, dMethN_ap, dMeth_ap, isObj_obj, uName_ap, uNil_ap, uCons_ap, uTup_ap, iLst_ap, lstOf_lst, lstOf_scr, iTupD_ap, tupOf_tup, iRev_ap, iEnum_ap, iRange1_ap, rng1K_int, iRange2_ap, rng2K_int, dLc_ap, tTrue_ap, dChain_ap, seqOf_lst, seqOf_tup, seqOf_scr, gLen_lst, gLen_tup, gLen_scr, gCat_lst, gAdd_int, gSub_int, gMul_int, gMod_int, gDiv_int, gLt_int, gLe_int, gGt_int, gGe_int, gMax2_int, gMin2_int, gIsi_lst, gEq_int, gNe_int, bindS, mapS, rng_len, Int.toNat_natCast, List.getElem?_cons_zero, List.getElem?_cons_succ, List.set_cons_zero, List.set_cons_succ, List.append_nil, List.nil_append, List.cons_append, List.replicate_succ, List.replicate_zero, List.length_map, List.length_cons, List.length_nil, Bool.not_true, Bool.not_false, decide_true, decide_false, reduceIte, Bool.false_eq_true, and_true, true_and, or_true, true_or, and_self, Bool.and_true, Bool.true_and, Bool.and_false, Bool.false_and, Bool.or_false, Bool.false_or, Bool.or_true, Bool.true_or, Int.reduceLT, Int.reduceLE, Int.reducePow, Int.reduceNeg, Int.reduceAdd, Int.reduceSub, Int.reduceMul, Int.reduceToNat, Nat.reduceLT, Nat.reduceAdd, Nat.reduceLeDiff, Nat.reducePow, dDGet2_ap, dPut_ap, dForE_ap, forEK_some, dMethPop_ap, dImm_ap, gIsN_non, gNotN_non, isNon_int, isNon_non, flat_int, in_int, notIn_int, eq_ints, ne_ints, eq_nil, ne_nil, gDIn_dict, gDNotIn_dict, getD'_dict, dSetM_ap, setmK_non, setmK_lst, isNon_lst, gIsi_list_non, lit_pass, i0, i1, hP, hle, hj', appK_some hlt, hadd])
  have hjt := (rowsP_w n6 g gq).join
  rw [← eP] at f0 f1 ⊢
  unfold fn_written_plan sm_written_plan
  simp only [bindS, mapS, rng_len, dSeq_ap, seqK_nx, seqK_ret, seqK_cont, seqK_brk, seqK_exc, dNext_ap, dAsg_ap, asgK_some, dRet_ap, retK_some, dIfS_ap, ifK_true, ifK_false, dDrop_ap, dropK_some, dApp_ap, appK_some, dExt_ap, extK_some, dClear_ap, clearK_some, dFor_ap, forK_some, dUnpk_ap, unpK_some, dFst_ap, fstK_some, dRaise_ap, raiK_some, runF_ap, runK_ret, runK_nx, runK_exc, runI_ap, runIK_nx, runIK_exc, dVar_ap, dC_ap, d1_ap, d2_ap, tB_ap, asB_bl, tAndF_ap, tOrF_ap, tNotF_ap, dAnd_ap, dOr_ap, dNot_ap, dIf_ap, ite_and, ite_or, ite_andD, ite_orD, dNilA_ap, dConsA_ap, dTup_ap, dLst_ap, dImm_ap, oNone_ap, oSome_ap, asI_int, dCut_ap, cutK_lst, cutK_scr, dFld_ap, fldK_obj, dCall_ap, dCallN_ap, dFun_ap, okR_ok, dFunN_ap, okRN_lst, okRN_dI, okRN_dT, dMethN_ap, dMeth_ap, isObj_obj, uName_ap, uNil_ap, uCons_ap, uTup_ap, iLst_ap, lstOf_lst, lstOf_scr, iTupD_ap, tupOf_tup, iRev_ap, iEnum_ap, iRange1_ap, rng1K_int, iRange2_ap, rng2K_int, dLc_ap, tTrue_ap, dChain_ap, seqOf_lst, seqOf_tup, seqOf_scr, gLen_lst, gLen_tup, gLen_scr, gCat_lst, gAdd_int, gSub_int, gMul_int, gMod_int, gDiv_int, gLt_int, gLe_int, gGt_int, gGe_int, gMax2_int, gMin2_int, gIsi_lst, gEq_int, gNe_int, bindS, mapS, rng_len, Int.toNat_natCast, List.getElem?_cons_zero, List.getElem?_cons_succ, List.set_cons_zero, List.set_cons_succ, List.append_nil, List.nil_append, List.cons_append, List.replicate_succ, List.replicate_zero, List.length_map, List.length_cons, List.length_nil, Bool.not_true, Bool.not_false, decide_true, decide_false, reduceIte, Bool.false_eq_true, and_true, true_and, or_true, true_or, and_self, Bool.and_true, Bool.true_and, Bool.and_false, Bool.false_and, Bool.or_false, Bool.false_or, Bool.or_true, Bool.true_or, Int.reduceLT, Int.reduceLE, Int.reducePow, Int.reduceNeg, Int.reduceAdd, Int.reduceSub, Int.reduceMul, Int.reduceToNat, Nat.reduceLT, Nat.reduceAdd, Nat.reduceLeDiff, Nat.reducePow, dDGet2_ap, dPut_ap, dForE_ap, forEK_some, dMethPop_ap, dImm_ap, gIsN_non, gNotN_non, isNon_int, isNon_non, flat_int, in_int, notIn_int, eq_ints, ne_ints, eq_nil, ne_nil, gDIn_dict, gDNotIn_dict, getD'_dict, dSetM_ap, setmK_non, setmK_lst, isNon_lst, gIsi_list_non, f0, f1, w0, w1, lit_hands, j0', lit_lead, hcat, j1', e, lit_nl, hjt]
theorem l_text_eq (n6 : n ≤ 6) (v : Valid n ps) (g : GoodL n L) (hl : ∀ p, 0 ≤ lim p ∧ lim p < 10 ^ 9) :
    fn_l_text [.int n, .lst (ps.map enc), .lst (L.map .int), dTP (ps.map fun p => (p, lim p))] = .ok (sD (textR (rowsP n L ((sortE ps).map fun p => (p, lim p))))) := by
  have hp := sortE_perm ps
  have gq := goodQ_of n6 v hl
  have hps := valid_len n6 v
  have hs : gSort (.lst (ps.map enc)) = some ((sortE ps).map enc) := gSort_enc ps (by omega)
  have hn : gStr [.int (n : Int)] = some (sD (TL.numL n)) := gStr_nat (by omega)
  have hg := g.len
  obtain ⟨H, hH⟩ : ∃ H : D, H = dTP (ps.map fun p => (p, lim p)) := ⟨_, rfl⟩
  have hget : ∀ p ∈ ps, gDIx H (.tup [.int p.1, .int p.2]) = some (.int (lim p)) := fun p hm => by
    rw [hH]
    exact gDIx_P (p := p) (ps_lk v hm)
  rw [← hH]
  have hlc : ∀ ρ4, lcD (uName 7) tTrue (dCall gStr (dConsA (dVar 7) dNilA)) [.int n, .lst (ps.map enc), .lst (L.map .int), H, ρ4, .non, .non, .non] (L.map .int) = some ((L.map nw).map sD) := fun ρ4 => by
    have := lcD_map (en := D.int) (en' := sD) (u := uName 7) (t := tTrue) (f := dCall gStr (dConsA (dVar 7) dNilA)) (ρ := [.int n, .lst (ps.map enc), .lst (L.map .int), H, ρ4, .non, .non, .non]) (fun _ => true) nw (xs := L) fun x hx => ⟨_, rfl, rfl, fun _ => by
      have := g.b x hx
      have hgs := gStr_nw (i := x) (by omega)
      simp only [bindS, mapS, rng_len, dSeq_ap, seqK_nx, seqK_ret, seqK_cont, seqK_brk, seqK_exc, dNext_ap, dAsg_ap, asgK_some, dRet_ap, retK_some, dIfS_ap, ifK_true, ifK_false, dDrop_ap, dropK_some, dApp_ap, appK_some, dExt_ap, extK_some, dClear_ap, clearK_some, dFor_ap, forK_some, dUnpk_ap, unpK_some, dFst_ap, fstK_some, dRaise_ap, raiK_some, runF_ap, runK_ret, runK_nx, runK_exc, runI_ap, runIK_nx, runIK_exc, dVar_ap, dC_ap, d1_ap, d2_ap, tB_ap, asB_bl, tAndF_ap, tOrF_ap, tNotF_ap, dAnd_ap, dOr_ap, dNot_ap, dIf_ap, ite_and, ite_or, ite_andD, ite_orD, dNilA_ap, dConsA_ap, dTup_ap, dLst_ap, dImm_ap, oNone_ap, oSome_ap, asI_int, dCut_ap, cutK_lst, cutK_scr, dFld_ap, fldK_obj, dCall_ap, dCallN_ap, dFun_ap, okR_ok, dFunN_ap, okRN_lst, okRN_dI, okRN_dT, dMethN_ap, dMeth_ap, isObj_obj, uName_ap, uNil_ap, uCons_ap, uTup_ap, iLst_ap, lstOf_lst, lstOf_scr, iTupD_ap, tupOf_tup, iRev_ap, iEnum_ap, iRange1_ap, rng1K_int, iRange2_ap, rng2K_int, dLc_ap, tTrue_ap, dChain_ap, seqOf_lst, seqOf_tup, seqOf_scr, gLen_lst, gLen_tup, gLen_scr, gCat_lst, gAdd_int, gSub_int, gMul_int, gMod_int, gDiv_int, gLt_int, gLe_int, gGt_int, gGe_int, gMax2_int, gMin2_int, gIsi_lst, gEq_int, gNe_int, bindS, mapS, rng_len, Int.toNat_natCast, List.getElem?_cons_zero, List.getElem?_cons_succ, List.set_cons_zero, List.set_cons_succ, List.append_nil, List.nil_append, List.cons_append, List.replicate_succ, List.replicate_zero, List.length_map, List.length_cons, List.length_nil, Bool.not_true, Bool.not_false, decide_true, decide_false, reduceIte, Bool.false_eq_true, and_true, true_and, or_true, true_or, and_self, Bool.and_true, Bool.true_and, Bool.and_false, Bool.false_and, Bool.or_false, Bool.false_or, Bool.or_true, Bool.true_or, Int.reduceLT, Int.reduceLE, Int.reducePow, Int.reduceNeg, Int.reduceAdd, Int.reduceSub, Int.reduceMul, Int.reduceToNat, Nat.reduceLT, Nat.reduceAdd, Nat.reduceLeDiff, Nat.reducePow, dDGet2_ap, dPut_ap, dForE_ap, forEK_some, dMethPop_ap, dImm_ap, gIsN_non, gNotN_non, isNon_int, isNon_non, flat_int, in_int, notIn_int, eq_ints, ne_ints, eq_nil, ne_nil, gDIn_dict, gDNotIn_dict, getD'_dict, dSetM_ap, setmK_non, setmK_lst, isNon_lst, gIsi_list_non, hgs]⟩
    rw [List.filter_eq_self.mpr fun _ _ => rfl] at this
    exact this
  have hle : L.length ≤ 100000 := by omega
  have hcat : gCat (.lst [sD kLead]) (.lst ((L.map nw).map sD)) = some (.lst ((kLead :: L.map nw).map sD)) := by
    rw [gCat_lst (by simp only [List.length_map, List.length_cons, List.length_nil]; omega)]
    rfl
  have hj1 := joinR_gj (row1 n6 g)
  have lit_ps : D.str ("pass " : Str) = sD [112, 97, 115, 115, 32] := rfl
  obtain ⟨ρ', e, z5, z6, z7, rfl⟩ := forD_map (en := (enc : Int × Int → D)) (u := uTup (uCons (uName 5) (uCons (uName 6) uNil))) (F := sb_l_text_0) (all := sortE ps)
    (ρ := [.int n, .lst (ps.map enc), .lst (L.map .int), H, .lst [sD (joinR [kHands, TL.numL n]), sD (joinR (kLead :: L.map nw))], .non, .non, .non])
    (fun done ρ => ∃ z5 z6 z7 : D, ρ = [.int n, .lst (ps.map enc), .lst (L.map .int), H, .lst (((rowsP n L (done.map fun p => (p, lim p))).map joinR).map sD), z5, z6, z7]) ⟨_, _, _, rfl⟩ (fun done p rest ρ ed ⟨z5, z6, z7, er⟩ => by
      subst er
      have hm : p ∈ sortE ps := by rw [← ed]; simp
      have hmp : p ∈ ps := hp.mem_iff.mp hm
      have hdl : done.length + 1 ≤ (sortE ps).length := by rw [← ed]; simp
      have hok := v.ok p hmp
      have hgi := hget p hmp
      have hgl := gStr_nw (hl p)
      have hg1 := gStr_nw (i := p.1) (by omega)
      have hg2 := gStr_nw (i := p.2) (by omega)
      have hlt : (((rowsP n L (done.map fun p => (p, lim p))).map joinR).map sD).length < 100000 := by
        rw [List.length_map, List.length_map, rowsP_len, List.length_map]
        have := hp.length_eq
        omega
      have hadd : ((rowsP n L (done.map fun p => (p, lim p))).map joinR).map sD ++ [sD (joinR [kPass, nw p.1, nw p.2, nw (lim p)])] = ((rowsP n L ((done ++ [p]).map fun p => (p, lim p))).map joinR).map sD := by
        have e : rowsP n L ((done ++ [p]).map fun p => (p, lim p)) = rowsP n L (done.map fun p => (p, lim p)) ++ [[kPass, nw p.1, nw p.2, nw (lim p)]] := by
          unfold rowsP
          rw [List.map_append, List.map_append]
          rfl
        rw [e, List.map_append, List.map_append]
        rfl
      refine ⟨_, _, rfl, .inl (?_ : sb_l_text_0 _ = .nx [.int n, .lst (ps.map enc), .lst (L.map .int), H, .lst (((rowsP n L ((done ++ [p]).map fun p => (p, lim p))).map joinR).map sD), .int p.1, .int p.2, z7]), _, _, _, rfl⟩
      have a1 := (nw_row (i := p.1) (by omega)).1
      have a2 := (nw_row (i := p.2) (by omega)).1
      have a3 := (nw_row (hl p).2).1
      have s1 : gAddS (sD [112, 97, 115, 115, 32]) (sD (nw p.1)) = some (sD ([112, 97, 115, 115, 32] ++ nw p.1)) := gAddS_S (by simp only [List.length_cons, List.length_nil]; omega)
      have s2 : gAddS (sD ([112, 97, 115, 115, 32] ++ nw p.1)) (sD [32]) = some (sD ([112, 97, 115, 115, 32] ++ nw p.1 ++ [32])) := gAddS_S (by simp only [List.length_append, List.length_cons, List.length_nil]; omega)
      have s3 : gAddS (sD ([112, 97, 115, 115, 32] ++ nw p.1 ++ [32])) (sD (nw p.2)) = some (sD ([112, 97, 115, 115, 32] ++ nw p.1 ++ [32] ++ nw p.2)) := gAddS_S (by simp only [List.length_append, List.length_cons, List.length_nil]; omega)
      have s4 : gAddS (sD ([112, 97, 115, 115, 32] ++ nw p.1 ++ [32] ++ nw p.2)) (sD [32]) = some (sD ([112, 97, 115, 115, 32] ++ nw p.1 ++ [32] ++ nw p.2 ++ [32])) := gAddS_S (by simp only [List.length_append, List.length_cons, List.length_nil]; omega)
      have s5 : gAddS (sD ([112, 97, 115, 115, 32] ++ nw p.1 ++ [32] ++ nw p.2 ++ [32])) (sD (nw (lim p))) = some (sD (joinR [kPass, nw p.1, nw p.2, nw (lim p)])) := by
        rw [gAddS_S (by simp only [List.length_append, List.length_cons, List.length_nil]; omega)]
        have : joinR [kPass, nw p.1, nw p.2, nw (lim p)] = [112, 97, 115, 115, 32] ++ nw p.1 ++ [32] ++ nw p.2 ++ [32] ++ nw (lim p) := by
          show kPass ++ ([32] ++ (nw p.1 ++ ([32] ++ (nw p.2 ++ ([32] ++ nw (lim p)))))) = _
          simp
        rw [this]
      generalize [112, 97, 115, 115, 32] ++ nw p.1 = t1 at s1 s2 s3 s4 s5
      generalize t1 ++ [32] = t2 at s2 s3 s4 s5
      generalize t2 ++ nw p.2 = t3 at s3 s4 s5
      generalize t3 ++ [32] = t4 at s4 s5
      unfold sb_l_text_0
      simp only [bindS, mapS, rng_len, dSeq_ap, seqK_nx, seqK_ret, seqK_cont, seqK_brk, seqK_exc, dNext_ap, dAsg_ap, asgK_some, dRet_ap, retK_some, dIfS_ap, ifK_true, ifK_false, dDrop_ap, dropK_some, dApp_ap, appK_some, dExt_ap, extK_some, dClear_ap, clearK_some, dFor_ap, forK_some, dUnpk_ap, unpK_some, dFst_ap, fstK_some, dRaise_ap, raiK_some, runF_ap, runK_ret, runK_nx, runK_exc, runI_ap, runIK_nx, runIK_exc, dVar_ap, dC_ap, d1_ap, d2_ap, tB_ap, asB_bl, tAndF_ap, tOrF_ap, tNotF_ap, dAnd_ap, dOr_ap, dNot_ap, dIf_ap, ite_and, ite_or, ite_andD, ite_orD, dNilA_ap, dConsA_ap, dTup_ap, dLst_ap, dImm_ap, oNone_ap, oSome_ap, asI_int, dCut_ap, cutK_lst, cutK_scr, dFld_ap, fldK_obj, dCall_ap, dCallN_ap, dFun_ap, okR_ok, dFunN_ap, okRN_lst, okRN_dI, okRN_dT, dMethN_ap, dMeth_ap, isObj_obj, uName_ap, uNil_ap, uCons_ap, uTup_ap, iLst_ap, lstOf_lst, lstOf_scr, iTupD_ap, tupOf_tup, iRev_ap, iEnum_ap, iRange1_ap, rng1K_int, iRange2_ap, rng2K_int, dLc_ap, tTrue_ap, dChain_ap, seqOf_lst, seqOf_tup, seqOf_scr, gLen_lst, gLen_tup, gLen_scr, gCat_lst, gAdd_int, gSub_int, gMul_int, gMod_int, gDiv_int, gLt_int, gLe_int, gGt_int, gGe_int, gMax2_int, gMin2_int, gIsi_lst, gEq_int, gNe_int, bindS, mapS, rng_len, Int.toNat_natCast, List.getElem?_cons_zero, List.getElem?_cons_succ, List.set_cons_zero, List.set_cons_succ, List.append_nil, List.nil_append, List.cons_append, List.replicate_succ, List.replicate_zero, List.length_map, List.length_cons, List.length_nil, Bool.not_true, Bool.not_false, decide_true, decide_false, reduceIte, Bool.false_eq_true, and_true, true_and, or_true, true_or, and_self, Bool.and_true, Bool.true_and, Bool.and_false, Bool.false_and, Bool.or_false, Bool.false_or, Bool.or_true, Bool.true_or, Int.reduceLT, Int.reduceLE, Int.reducePow, Int.reduceNeg, Int.reduceAdd, Int.reduceSub, Int.reduceMul, Int.reduceToNat, Nat.reduceLT, Nat.reduceAdd, Nat.reduceLeDiff, Nat.reducePow, dDGet2_ap, dPut_ap, dForE_ap, forEK_some, dMethPop_ap, dImm_ap, gIsN_non, gNotN_non, isNon_int, isNon_non, flat_int, in_int, notIn_int, eq_ints, ne_ints, eq_nil, ne_nil, gDIn_dict, gDNotIn_dict, getD'_dict, dSetM_ap, setmK_non, setmK_lst, isNon_lst, gIsi_list_non, lit_ps, hg1, s1, lit_sp, s2, hg2, s3, s4, hgi, hgl, s5, appK_some hlt, hadd])
  have hjt := (rowsP_w n6 g gq).join
  unfold fn_l_text sm_l_text
  simp only [bindS, mapS, rng_len, dSeq_ap, seqK_nx, seqK_ret, seqK_cont, seqK_brk, seqK_exc, dNext_ap, dAsg_ap, asgK_some, dRet_ap, retK_some, dIfS_ap, ifK_true, ifK_false, dDrop_ap, dropK_some, dApp_ap, appK_some, dExt_ap, extK_some, dClear_ap, clearK_some, dFor_ap, forK_some, dUnpk_ap, unpK_some, dFst_ap, fstK_some, dRaise_ap, raiK_some, runF_ap, runK_ret, runK_nx, runK_exc, runI_ap, runIK_nx, runIK_exc, dVar_ap, dC_ap, d1_ap, d2_ap, tB_ap, asB_bl, tAndF_ap, tOrF_ap, tNotF_ap, dAnd_ap, dOr_ap, dNot_ap, dIf_ap, ite_and, ite_or, ite_andD, ite_orD, dNilA_ap, dConsA_ap, dTup_ap, dLst_ap, dImm_ap, oNone_ap, oSome_ap, asI_int, dCut_ap, cutK_lst, cutK_scr, dFld_ap, fldK_obj, dCall_ap, dCallN_ap, dFun_ap, okR_ok, dFunN_ap, okRN_lst, okRN_dI, okRN_dT, dMethN_ap, dMeth_ap, isObj_obj, uName_ap, uNil_ap, uCons_ap, uTup_ap, iLst_ap, lstOf_lst, lstOf_scr, iTupD_ap, tupOf_tup, iRev_ap, iEnum_ap, iRange1_ap, rng1K_int, iRange2_ap, rng2K_int, dLc_ap, tTrue_ap, dChain_ap, seqOf_lst, seqOf_tup, seqOf_scr, gLen_lst, gLen_tup, gLen_scr, gCat_lst, gAdd_int, gSub_int, gMul_int, gMod_int, gDiv_int, gLt_int, gLe_int, gGt_int, gGe_int, gMax2_int, gMin2_int, gIsi_lst, gEq_int, gNe_int, bindS, mapS, rng_len, Int.toNat_natCast, List.getElem?_cons_zero, List.getElem?_cons_succ, List.set_cons_zero, List.set_cons_succ, List.append_nil, List.nil_append, List.cons_append, List.replicate_succ, List.replicate_zero, List.length_map, List.length_cons, List.length_nil, Bool.not_true, Bool.not_false, decide_true, decide_false, reduceIte, Bool.false_eq_true, and_true, true_and, or_true, true_or, and_self, Bool.and_true, Bool.true_and, Bool.and_false, Bool.false_and, Bool.or_false, Bool.false_or, Bool.or_true, Bool.true_or, Int.reduceLT, Int.reduceLE, Int.reducePow, Int.reduceNeg, Int.reduceAdd, Int.reduceSub, Int.reduceMul, Int.reduceToNat, Nat.reduceLT, Nat.reduceAdd, Nat.reduceLeDiff, Nat.reducePow, dDGet2_ap, dPut_ap, dForE_ap, forEK_some, dMethPop_ap, dImm_ap, gIsN_non, gNotN_non, isNon_int, isNon_non, flat_int, in_int, notIn_int, eq_ints, ne_ints, eq_nil, ne_nil, gDIn_dict, gDNotIn_dict, getD'_dict, dSetM_ap, setmK_non, setmK_lst, isNon_lst, gIsi_list_non, hn, txt_hands n n6, lit_lead, if_pos hle, hlc, hcat, lit_sp, hj1, hs, e, lit_nl, hjt]
theorem sameT_eq (v : Valid n ps) : sameT ((sortE ps).map fun p => ([p.1, p.2], D.int (lim p))) (ps.map fun p => ([p.1, p.2], D.int (lim p))) = true := by
  have hp := sortE_perm ps
  unfold sameT
  rw [Bool.and_eq_true, decide_eq_true_eq, List.all_eq_true]
  refine ⟨by rw [List.length_map, List.length_map, hp.length_eq], fun x hx => ?_⟩
  obtain ⟨p, hm, rfl⟩ := List.mem_map.mp hx
  rw [Bool.and_eq_true, List.any_eq_true]
  exact ⟨rfl, _, List.mem_map.mpr ⟨p, hp.mem_iff.mp hm, rfl⟩, by simp⟩
theorem l_right_eq (n6 : n ≤ 6) (v : Valid n ps) (g : GoodL n L) : fn_l_right [planD n (sortE ps) L lim, .int n, .lst (ps.map enc), .lst (L.map .int), dTP (ps.map fun p => (p, lim p))] = .ok (.bl true) := by
  have hp := sortE_perm ps
  have v2 : Valid n (sortE ps) := v.perm hp
  have hps := valid_len n6 v
  have hs : gSort (.lst (ps.map enc)) = some ((sortE ps).map enc) := gSort_enc ps (by omega)
  have f0 : fldK .Plan 0 (planD n (sortE ps) L lim) = some (webD n (sortE ps)) := rfl
  have f1 : fldK .Plan 1 (planD n (sortE ps) L lim) = some (.lst (L.map .int)) := rfl
  have f2 : fldK .Plan 2 (planD n (sortE ps) L lim) = some (dTP ((sortE ps).map fun p => (p, lim p))) := by
    show some (dTP ((sortE (sortE ps)).map fun p => (p, lim p))) = _
    rw [sortE_idem]
  have w0 : fldK .Web 0 (webD n (sortE ps)) = some (.int n) := rfl
  have w1 : fldK .Web 1 (webD n (sortE ps)) = some (.lst ((sortE ps).map enc)) := by
    show some (D.lst ((sortE (sortE ps)).map enc)) = _
    rw [sortE_idem]
  have hiso : gIsO .Plan (planD n (sortE ps) L lim) = some (.bl true) := rfl
  have n0 : gNe (.int (n : Int)) (.int (n : Int)) = some (.bl false) := by rw [gNe_int, decide_eq_true rfl]; rfl
  have n1 : gNe (.lst ((sortE ps).map enc)) (.lst ((sortE ps).map enc)) = some (.bl false) := by
    have := gNe_encL (sortE ps) (sortE ps)
    rw [decide_eq_true rfl] at this
    exact this
  have n2 : gNe (.lst (L.map .int)) (.lst (L.map .int)) = some (.bl false) := by rw [ne_ints, decide_eq_true rfl]; rfl
  have n3 : gNeT (dTP ((sortE ps).map fun p => (p, lim p))) (dTP (ps.map fun p => (p, lim p))) = some (.bl false) := by
    unfold dTP
    rw [List.map_map, List.map_map]
    exact if_pos (sameT_eq v)
  have hlim : ∀ p ∈ ps, fn_Plan_limit [planD n (sortE ps) L lim, enc p] = .ok (.int (lim p)) := fun p h => limit_eq v2 (hp.mem_iff.mpr h)
  have hget : ∀ p ∈ ps, gDIx (dTP (ps.map fun p => (p, lim p))) (enc p) = some (.int (lim p)) := fun p h => gDIx_P (ps_lk v h)
  obtain ⟨P, eP⟩ : ∃ P, P = planD n (sortE ps) L lim := ⟨_, rfl⟩
  have hP : isObj .Plan P = true := by rw [eP]; rfl
  rw [← eP] at f0 f1 f2 hiso hlim ⊢
  obtain ⟨H, eH⟩ : ∃ H, H = dTP (ps.map fun p => (p, lim p)) := ⟨_, rfl⟩
  rw [← eH] at n3 hget ⊢
  have hlc : lcD (uName 5) (DL.tB (d2 gNe (dMeth .Plan fn_Plan_limit (dVar 0) (dConsA (dVar 5) dNilA) []) (d2 gDIx (dVar 4) (dVar 5)))) (dVar 5) [P, .int n, .lst (ps.map enc), .lst (L.map .int), H, .non] (ps.map enc) = some [] := by
    have := lcD_map (en := (enc : Int × Int → D)) (en' := (enc : Int × Int → D)) (u := uName 5) (t := DL.tB (d2 gNe (dMeth .Plan fn_Plan_limit (dVar 0) (dConsA (dVar 5) dNilA) []) (d2 gDIx (dVar 4) (dVar 5)))) (f := dVar 5) (ρ := [P, .int n, .lst (ps.map enc), .lst (L.map .int), H, .non]) (fun _ => false) (fun p => p) (xs := ps) fun p hx => ⟨_, rfl, by
      have h1 := hlim p hx
      have h2 := hget p hx
      have h3 : gNe (.int (lim p)) (.int (lim p)) = some (.bl false) := by rw [gNe_int, decide_eq_true rfl]; rfl
      simp only [bindS, mapS, rng_len, dSeq_ap, seqK_nx, seqK_ret, seqK_cont, seqK_brk, seqK_exc, dNext_ap, dAsg_ap, asgK_some, dRet_ap, retK_some, dIfS_ap, ifK_true, ifK_false, dDrop_ap, dropK_some, dApp_ap, appK_some, dExt_ap, extK_some, dClear_ap, clearK_some, dFor_ap, forK_some, dUnpk_ap, unpK_some, dFst_ap, fstK_some, dRaise_ap, raiK_some, runF_ap, runK_ret, runK_nx, runK_exc, runI_ap, runIK_nx, runIK_exc, dVar_ap, dC_ap, d1_ap, d2_ap, tB_ap, asB_bl, tAndF_ap, tOrF_ap, tNotF_ap, dAnd_ap, dOr_ap, dNot_ap, dIf_ap, ite_and, ite_or, ite_andD, ite_orD, dNilA_ap, dConsA_ap, dTup_ap, dLst_ap, dImm_ap, oNone_ap, oSome_ap, asI_int, dCut_ap, cutK_lst, cutK_scr, dFld_ap, fldK_obj, dCall_ap, dCallN_ap, dFun_ap, okR_ok, dFunN_ap, okRN_lst, okRN_dI, okRN_dT, dMethN_ap, dMeth_ap, isObj_obj, uName_ap, uNil_ap, uCons_ap, uTup_ap, iLst_ap, lstOf_lst, lstOf_scr, iTupD_ap, tupOf_tup, iRev_ap, iEnum_ap, iRange1_ap, rng1K_int, iRange2_ap, rng2K_int, dLc_ap, tTrue_ap, dChain_ap, seqOf_lst, seqOf_tup, seqOf_scr, gLen_lst, gLen_tup, gLen_scr, gCat_lst, gAdd_int, gSub_int, gMul_int, gMod_int, gDiv_int, gLt_int, gLe_int, gGt_int, gGe_int, gMax2_int, gMin2_int, gIsi_lst, gEq_int, gNe_int, bindS, mapS, rng_len, Int.toNat_natCast, List.getElem?_cons_zero, List.getElem?_cons_succ, List.set_cons_zero, List.set_cons_succ, List.append_nil, List.nil_append, List.cons_append, List.replicate_succ, List.replicate_zero, List.length_map, List.length_cons, List.length_nil, Bool.not_true, Bool.not_false, decide_true, decide_false, reduceIte, Bool.false_eq_true, and_true, true_and, or_true, true_or, and_self, Bool.and_true, Bool.true_and, Bool.and_false, Bool.false_and, Bool.or_false, Bool.false_or, Bool.or_true, Bool.true_or, Int.reduceLT, Int.reduceLE, Int.reducePow, Int.reduceNeg, Int.reduceAdd, Int.reduceSub, Int.reduceMul, Int.reduceToNat, Nat.reduceLT, Nat.reduceAdd, Nat.reduceLeDiff, Nat.reducePow, dDGet2_ap, dPut_ap, dForE_ap, forEK_some, dMethPop_ap, dImm_ap, gIsN_non, gNotN_non, isNon_int, isNon_non, flat_int, in_int, notIn_int, eq_ints, ne_ints, eq_nil, ne_nil, gDIn_dict, gDNotIn_dict, getD'_dict, dSetM_ap, setmK_non, setmK_lst, isNon_lst, gIsi_list_non, hP, h1, h2, h3], fun h => nomatch h⟩
    rw [List.filter_eq_nil_iff.mpr fun _ _ => by decide] at this
    exact this
  have hle : ps.length ≤ 100000 := by omega
  have n4 : gEq (.lst []) (.lst []) = some (.bl true) := rfl
  unfold fn_l_right sm_l_right
  simp only [bindS, mapS, rng_len, dSeq_ap, seqK_nx, seqK_ret, seqK_cont, seqK_brk, seqK_exc, dNext_ap, dAsg_ap, asgK_some, dRet_ap, retK_some, dIfS_ap, ifK_true, ifK_false, dDrop_ap, dropK_some, dApp_ap, appK_some, dExt_ap, extK_some, dClear_ap, clearK_some, dFor_ap, forK_some, dUnpk_ap, unpK_some, dFst_ap, fstK_some, dRaise_ap, raiK_some, runF_ap, runK_ret, runK_nx, runK_exc, runI_ap, runIK_nx, runIK_exc, dVar_ap, dC_ap, d1_ap, d2_ap, tB_ap, asB_bl, tAndF_ap, tOrF_ap, tNotF_ap, dAnd_ap, dOr_ap, dNot_ap, dIf_ap, ite_and, ite_or, ite_andD, ite_orD, dNilA_ap, dConsA_ap, dTup_ap, dLst_ap, dImm_ap, oNone_ap, oSome_ap, asI_int, dCut_ap, cutK_lst, cutK_scr, dFld_ap, fldK_obj, dCall_ap, dCallN_ap, dFun_ap, okR_ok, dFunN_ap, okRN_lst, okRN_dI, okRN_dT, dMethN_ap, dMeth_ap, isObj_obj, uName_ap, uNil_ap, uCons_ap, uTup_ap, iLst_ap, lstOf_lst, lstOf_scr, iTupD_ap, tupOf_tup, iRev_ap, iEnum_ap, iRange1_ap, rng1K_int, iRange2_ap, rng2K_int, dLc_ap, tTrue_ap, dChain_ap, seqOf_lst, seqOf_tup, seqOf_scr, gLen_lst, gLen_tup, gLen_scr, gCat_lst, gAdd_int, gSub_int, gMul_int, gMod_int, gDiv_int, gLt_int, gLe_int, gGt_int, gGe_int, gMax2_int, gMin2_int, gIsi_lst, gEq_int, gNe_int, bindS, mapS, rng_len, Int.toNat_natCast, List.getElem?_cons_zero, List.getElem?_cons_succ, List.set_cons_zero, List.set_cons_succ, List.append_nil, List.nil_append, List.cons_append, List.replicate_succ, List.replicate_zero, List.length_map, List.length_cons, List.length_nil, Bool.not_true, Bool.not_false, decide_true, decide_false, reduceIte, Bool.false_eq_true, and_true, true_and, or_true, true_or, and_self, Bool.and_true, Bool.true_and, Bool.and_false, Bool.false_and, Bool.or_false, Bool.false_or, Bool.or_true, Bool.true_or, Int.reduceLT, Int.reduceLE, Int.reducePow, Int.reduceNeg, Int.reduceAdd, Int.reduceSub, Int.reduceMul, Int.reduceToNat, Nat.reduceLT, Nat.reduceAdd, Nat.reduceLeDiff, Nat.reducePow, dDGet2_ap, dPut_ap, dForE_ap, forEK_some, dMethPop_ap, dImm_ap, gIsN_non, gNotN_non, isNon_int, isNon_non, flat_int, in_int, notIn_int, eq_ints, ne_ints, eq_nil, ne_nil, gDIn_dict, gDNotIn_dict, getD'_dict, dSetM_ap, setmK_non, setmK_lst, isNon_lst, gIsi_list_non, hiso, f0, f1, f2, w0, w1, n0, hs, n1, n2, n3, if_pos hle, hlc, n4]
theorem copy_eq (n6 : n ≤ 6) (v : Valid n ps) : gCopyD (dTP (ps.map fun p => (p, lim p))) = some (dTP (ps.map fun p => (p, lim p))) := by
  unfold dTP
  rw [List.map_map]
  refine if_pos ?_
  unfold smallK
  rw [Bool.and_eq_true, decide_eq_true_eq, List.all_eq_true]
  refine ⟨?_, fun x hx => ?_⟩
  · rw [List.map_map]
    exact List.pairwise_map.mpr ((List.nodup_iff_pairwise_ne.mp v.nd).imp fun h z => h ((pairK _ _).mp z))
  · obtain ⟨p, hm, rfl⟩ := List.mem_map.mp hx
    have := v.ok p hm
    show (decide (0 ≤ p.1) && decide (p.1 < 6) && (decide (0 ≤ p.2) && decide (p.2 < 6))) = true
    simp only [Bool.and_eq_true, decide_eq_true_eq]
    omega
end
theorem law_true (ns : List Int) (hns : ns.length ≤ 63) : fn_law [.scr ns] = .ok (.bl true) := by
  have h0 := cell_at_eq ns 0
  have h1 := cell_at_eq ns 1
  have h2 := cell_at_eq ns 2
  obtain ⟨c0, ec0⟩ : ∃ c, c = ns.getD 0 0 := ⟨_, rfl⟩
  obtain ⟨c1, ec1⟩ : ∃ c, c = ns.getD 1 0 := ⟨_, rfl⟩
  obtain ⟨c2, ec2⟩ : ∃ c, c = ns.getD 2 0 := ⟨_, rfl⟩
  have h0' : fn_l_cell_at [.scr ns, .int 0] = .ok (.int c0) := by rw [ec0]; exact h0
  have h1' : fn_l_cell_at [.scr ns, .int 1] = .ok (.int c1) := by rw [ec1]; exact h1
  have h2' : fn_l_cell_at [.scr ns, .int 2] = .ok (.int c2) := by rw [ec2]; exact h2
  obtain ⟨n, ps, n2, n6, v, hl42, hweb⟩ := l_web_eq c0
  obtain ⟨L, g, hld⟩ := l_leadersN c1 n n2 n6
  have hps := valid_len n6 v
  obtain ⟨lim, hlim, hlm⟩ := l_limits_eq c2 v hps
  have hcp := copy_eq (lim := lim) n6 v
  have hw := Web_init_eq n2 n6 v (by omega)
  have hpl := Plan_init_eq (lim := lim) (kvs := ps.map fun p => (p, lim p)) v (by omega) g fun p hm => ps_lk v hm
  have hwr := written_plan_eq n6 v g hlim
  have htx := l_text_eq n6 v g hlim
  have hrd := read_plan_ok n2 n6 g (goodQ_of n6 v hlim) (lim := lim) fun q hq => by
    obtain ⟨p, _, rfl⟩ := List.mem_map.mp hq
    rfl
  rw [qs_keys] at hrd
  have hri := l_right_eq (L := L) (lim := lim) n6 v g
  have hwr2 := written_plan_eq n6 (v.perm (sortE_perm ps)) g hlim
  rw [sortE_idem] at hwr2
  obtain ⟨T, eT⟩ : ∃ T, T = textR (rowsP n L ((sortE ps).map fun p => (p, lim p))) := ⟨_, rfl⟩
  obtain ⟨H, eH⟩ : ∃ H, H = dTP (ps.map fun p => (p, lim p)) := ⟨_, rfl⟩
  obtain ⟨P1, eP1⟩ : ∃ P, P = planD n ps L lim := ⟨_, rfl⟩
  obtain ⟨P2, eP2⟩ : ∃ P, P = planD n (sortE ps) L lim := ⟨_, rfl⟩
  obtain ⟨W, eW⟩ : ∃ W, W = webD n ps := ⟨_, rfl⟩
  rw [← eT] at hwr htx hrd hwr2
  rw [← eH] at hlm hcp hpl htx hri
  rw [← eP1] at hpl hwr
  rw [← eP2] at hrd hri hwr2
  rw [← eW] at hw hpl
  have i1 : gIsi "str" (sD T) = some (.bl true) := by
    show (kitB "str" "str").map D.bl = _
    rfl
  have t1 : gNe (sD T) (sD T) = some (.bl false) := by rw [gNe_sD, decide_eq_true rfl]; rfl
  unfold fn_law sm_law
  simp only [bindS, mapS, rng_len, dSeq_ap, seqK_nx, seqK_ret, seqK_cont, seqK_brk, seqK_exc, dNext_ap, dAsg_ap, asgK_some, dRet_ap, retK_some, dIfS_ap, ifK_true, ifK_false, dDrop_ap, dropK_some, dApp_ap, appK_some, dExt_ap, extK_some, dClear_ap, clearK_some, dFor_ap, forK_some, dUnpk_ap, unpK_some, dFst_ap, fstK_some, dRaise_ap, raiK_some, runF_ap, runK_ret, runK_nx, runK_exc, runI_ap, runIK_nx, runIK_exc, dVar_ap, dC_ap, d1_ap, d2_ap, tB_ap, asB_bl, tAndF_ap, tOrF_ap, tNotF_ap, dAnd_ap, dOr_ap, dNot_ap, dIf_ap, ite_and, ite_or, ite_andD, ite_orD, dNilA_ap, dConsA_ap, dTup_ap, dLst_ap, dImm_ap, oNone_ap, oSome_ap, asI_int, dCut_ap, cutK_lst, cutK_scr, dFld_ap, fldK_obj, dCall_ap, dCallN_ap, dFun_ap, okR_ok, dFunN_ap, okRN_lst, okRN_dI, okRN_dT, dMethN_ap, dMeth_ap, isObj_obj, uName_ap, uNil_ap, uCons_ap, uTup_ap, iLst_ap, lstOf_lst, lstOf_scr, iTupD_ap, tupOf_tup, iRev_ap, iEnum_ap, iRange1_ap, rng1K_int, iRange2_ap, rng2K_int, dLc_ap, tTrue_ap, dChain_ap, seqOf_lst, seqOf_tup, seqOf_scr, gLen_lst, gLen_tup, gLen_scr, gCat_lst, gAdd_int, gSub_int, gMul_int, gMod_int, gDiv_int, gLt_int, gLe_int, gGt_int, gGe_int, gMax2_int, gMin2_int, gIsi_lst, gEq_int, gNe_int, bindS, mapS, rng_len, Int.toNat_natCast, List.getElem?_cons_zero, List.getElem?_cons_succ, List.set_cons_zero, List.set_cons_succ, List.append_nil, List.nil_append, List.cons_append, List.replicate_succ, List.replicate_zero, List.length_map, List.length_cons, List.length_nil, Bool.not_true, Bool.not_false, decide_true, decide_false, reduceIte, Bool.false_eq_true, and_true, true_and, or_true, true_or, and_self, Bool.and_true, Bool.true_and, Bool.and_false, Bool.false_and, Bool.or_false, Bool.false_or, Bool.or_true, Bool.true_or, Int.reduceLT, Int.reduceLE, Int.reducePow, Int.reduceNeg, Int.reduceAdd, Int.reduceSub, Int.reduceMul, Int.reduceToNat, Nat.reduceLT, Nat.reduceAdd, Nat.reduceLeDiff, Nat.reducePow, dDGet2_ap, dPut_ap, dForE_ap, forEK_some, dMethPop_ap, dImm_ap, gIsN_non, gNotN_non, isNon_int, isNon_non, flat_int, in_int, notIn_int, eq_ints, ne_ints, eq_nil, ne_nil, gDIn_dict, gDNotIn_dict, getD'_dict, dSetM_ap, setmK_non, setmK_lst, isNon_lst, gIsi_list_non, h0', h1', h2', hweb, hld, hlm, hcp, hw, hpl, hwr, i1, htx, t1, hrd, hri, hwr2]

end DL

theorem PySem.Challenge.cw_wordswap_k71_plans_written_holds : PySem.Challenge.rw_wordswap_k71_plans_written.Holds := by
  exact DL.endL DL.law_true
