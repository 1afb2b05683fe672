import PyProof.Rows.All
import Wide.All
import OpenK.AllK
import Wide.FinOn
import PyProof.EqAt
import PyProof.EqKinds
import PyProof.TupleCall
import HandS.ForMost
import HandS.Exc
import HandS.TryOnly
import HandS.ExcOwn
import HandS.WordsExc
import HandS.ExcInit
import HandS.ExcField
import HandS.CallSlots
import HandS.Deep
import HandS.Conv
import HandS.Defaults
import HandS.Wide
import HandS.More
import HandS.IsInst
import HandS.Strs
import KE.SortData
import KE.DataEq
import HandS.Walk
import HandS.ExcCtx
import HandS.Dict
import HandS.WordsDict
import HandS.List
import HandS.Set
import HandS.SetFor
import HandS.TupAny
import HandS.Rev
import HandS.RevTup
import PyProof.ListRange
import HandS.SortKw
import KE.DatumOrd
import OpenK.KEqL
import HandS.Style
import HandS.ExcIs
import HandS.HeadHook2
import KE.KExcIs
import KE.KStateDown
import HandS.Head0
import HandS.Head1
import HandS.Head2
import HandS.HeadEnd
import HandS.HeadHook1
import HandS.Codes
import HandS.RaiseMore
import HandS.Text
import HandS.ReplaceLit
import PyProof.ListIndex
import KE.KDictPairs
import KE.KDictCopyH
import HandS.TupLe
import HandS.DictEq
import HandS.DeepEq
import KE.KDictDisplayH
import HandS.DictTup
import KE.KDictSum
import PyProof.DictMoreH
import HandS.TupSets
import HandS.Hot
import KE.KDictList
import KE.KDictWalk
import KE.OsArith
import KE.BitLaws
import PySem.Challenge.RW_wordswap_k31_hands_and_rows
set_option Elab.async false
set_option linter.all false
set_option maxRecDepth 100000
/-! DL: values as data, over the hand layer. -/
namespace DL
open PySem PySem.Spec PyProof.Rows L2

/-- the text's classes -/
inductive Cl where
  | SwapError | NoWeb | NoPlan | NotJoined | NoLeader | NoDeed | Laid | NotLaid | Late | Unknown | NoText
  | Web | Plan | Ledger | Hand | Free | Keeper | Run
  deriving DecidableEq, Inhabited
/-- an instance's fields in the order in which they are stored -/
def flds : Cl → List Str
  | .Web => ["number", "passings"]
  | .Plan => ["web", "leaders", "limits"]
  | .Ledger => ["plan", "free", "now", "lays", "sayings", "shown"]
  | .Free => ["rows", "act"]
  | .Keeper => ["me"]
  | .Run => ["ledger"]
  | _ => []

inductive D where
  | non | bl (b : Bool) | int (i : Int) | str (x : Str)
  | tup (xs : List D) | lst (xs : List D)
  | scr (ns : List Int)
  | dI (kvs : List (Int × D)) | dT (kvs : List (List Int × D)) | dS (kvs : List (Str × D))
  | obj (c : Cl) (fs : List D)
  | cls (c : Cl)
  deriving Inhabited

structure Ct where
  K : PySem.W.Frag
  ca : Cl → Addr

mutual
/-- the value v stands for d in the heap H -/
inductive Rep (c : Ct) (H : Hp) : V → D → Prop
  | non : Rep c H .non .non
  | bl (b : Bool) : Rep c H (.bl b) (.bl b)
  | int (i : Int) : Rep c H (.int i) (.int i)
  | str (x : Str) : Rep c H (.str x) (.str x)
  | tup {a : Addr} {xs : List V} {ds : List D} : H a = some (.tup xs) → Reps c H xs ds → Rep c H (.ref a) (.tup ds)
  | lst {a : Addr} {xs : List V} {ds : List D} : H a = some (.lst xs) → Reps c H xs ds → Rep c H (.ref a) (.lst ds)
  | scr {a : Addr} {ns : List Int} : SqL c.K H a (ns.map V.int) → Rep c H (.ref a) (.scr ns)
  | dI {a : Addr} {ks : List Int} {vs : List V} {ds : List D} : ks.length = vs.length → H a = some (.dK ((ks.map Sum.inl).zip vs)) → Reps c H vs ds → Rep c H (.ref a) (.dI (ks.zip ds))
  | dT {a : Addr} {ks : List (List Int)} {vs : List V} {ds : List D} : ks.length = vs.length → H a = some (.dT ((ks.map fun k => k.map Sum.inl).zip vs)) → Reps c H vs ds → Rep c H (.ref a) (.dT (ks.zip ds))
  | dS {a : Addr} {ks : List Str} {vs : List V} {ds : List D} : ks.length = vs.length → H a = some (.dK ((ks.map Sum.inr).zip vs)) → Reps c H vs ds → Rep c H (.ref a) (.dS (ks.zip ds))
  | obj {a dx : Addr} {vs : List V} {k : Cl} {fs : List D} : H a = some (.ins (c.ca k) dx ((flds k).zip vs)) → Reps c H vs fs → Rep c H (.ref a) (.obj k fs)
  | cls (k : Cl) : Rep c H (.ref (c.ca k)) (.cls k)
inductive Reps (c : Ct) (H : Hp) : List V → List D → Prop
  | nil : Reps c H [] []
  | cons {v : V} {vs : List V} {d : D} {ds : List D} : Rep c H v d → Reps c H vs ds → Reps c H (v :: vs) (d :: ds)
end

/-- all that H knows stands so in H' -/
def Ex (H H' : Hp) : Prop := ∀ a o, H a = some o → H' a = some o
theorem Ex.refl (H : Hp) : Ex H H := fun _ _ h => h
theorem Ex.trans {H H1 H2 : Hp} (a : Ex H H1) (b : Ex H1 H2) : Ex H H2 := fun x o h => b x o (a x o h)
theorem Ex.new {H : Hp} {p : Addr} {o : HO} (h : H p = none) : Ex H (upd H p o) := fun a u e => by
  rw [upd_ne (ne_of_none e h)]
  exact e
theorem Ex.free {H H' : Hp} (e : Ex H H') {p : Addr} (h : H' p = none) : H p = none := by
  cases q : H p with
  | none => rfl
  | some o => rw [e p o q] at h; cases h
theorem Ex.sq {K : PySem.W.Frag} {H H' : Hp} {a : Addr} {xs : List V} (e : Ex H H') (h : SqL K H a xs) : SqL K H' a xs := by
  rcases h with (h | ⟨o, h⟩) | h
  · exact .inl (.inl (e _ _ h))
  · exact .inl (.inr ⟨o, e _ _ h⟩)
  · exact .inr h
section
variable {c : Ct} {H H' : Hp}
mutual
theorem Rep.mono (e : Ex H H') : ∀ {v : V} {d : D}, Rep c H v d → Rep c H' v d
  | _, _, .non => .non
  | _, _, .bl b => .bl b
  | _, _, .int i => .int i
  | _, _, .str x => .str x
  | _, _, .tup h r => .tup (e _ _ h) (Reps.mono e r)
  | _, _, .lst h r => .lst (e _ _ h) (Reps.mono e r)
  | _, _, .scr h => .scr (e.sq h)
  | _, _, .dI l h r => .dI l (e _ _ h) (Reps.mono e r)
  | _, _, .dT l h r => .dT l (e _ _ h) (Reps.mono e r)
  | _, _, .dS l h r => .dS l (e _ _ h) (Reps.mono e r)
  | _, _, .obj h r => .obj (e _ _ h) (Reps.mono e r)
  | _, _, .cls k => .cls k
theorem Reps.mono (e : Ex H H') : ∀ {vs : List V} {ds : List D}, Reps c H vs ds → Reps c H' vs ds
  | _, _, .nil => .nil
  | _, _, .cons h r => .cons (Rep.mono e h) (Reps.mono e r)
end
end
section
variable {c : Ct} {H : Hp}
theorem Reps.length : ∀ {vs : List V} {ds : List D}, Reps c H vs ds → vs.length = ds.length
  | _, _, .nil => rfl
  | _, _, .cons _ r => congrArg Nat.succ (Reps.length r)
theorem Reps.get : ∀ {vs : List V} {ds : List D} {i : Nat} {v : V}, Reps c H vs ds → vs[i]? = some v → ∃ d, ds[i]? = some d ∧ Rep c H v d
  | _, _, _, _, .nil, e => by simp at e
  | _, _, 0, _, .cons h _, e => by simp at e; subst e; exact ⟨_, by simp, h⟩
  | _, _, i + 1, v, .cons _ r, e => by
    obtain ⟨d, h1, h2⟩ := Reps.get (i := i) (v := v) r (by simpa using e)
    exact ⟨d, by simpa using h1, h2⟩
theorem Reps.getD : ∀ {vs : List V} {ds : List D} {i : Nat} {d : D}, Reps c H vs ds → ds[i]? = some d → ∃ v, vs[i]? = some v ∧ Rep c H v d
  | _, _, _, _, .nil, e => by simp at e
  | _, _, 0, _, .cons h _, e => by simp at e; subst e; exact ⟨_, by simp, h⟩
  | _, _, i + 1, d, .cons _ r, e => by
    obtain ⟨v, h1, h2⟩ := Reps.getD (i := i) (d := d) r (by simpa using e)
    exact ⟨v, by simpa using h1, h2⟩
theorem Reps.append : ∀ {vs ws : List V} {ds es : List D}, Reps c H vs ds → Reps c H ws es → Reps c H (vs ++ ws) (ds ++ es)
  | _, _, _, _, .nil, s => s
  | _, _, _, _, .cons h r, s => .cons h (Reps.append r s)
theorem Reps.take : ∀ {vs : List V} {ds : List D} (n : Nat), Reps c H vs ds → Reps c H (vs.take n) (ds.take n)
  | _, _, 0, _ => .nil
  | _, _, _ + 1, .nil => .nil
  | _, _, n + 1, .cons h r => .cons h (Reps.take n r)
theorem Reps.drop : ∀ {vs : List V} {ds : List D} (n : Nat), Reps c H vs ds → Reps c H (vs.drop n) (ds.drop n)
  | _, _, 0, r => r
  | _, _, _ + 1, .nil => .nil
  | _, _, n + 1, .cons _ r => Reps.drop n r
theorem Reps.set : ∀ {vs : List V} {ds : List D} {v : V} {d : D} (i : Nat), Rep c H v d → Reps c H vs ds → Reps c H (vs.set i v) (ds.set i d)
  | _, _, _, _, _, _, .nil => .nil
  | _, _, _, _, 0, h, .cons _ r => .cons h r
  | _, _, _, _, i + 1, h, .cons q r => .cons q (Reps.set i h r)
theorem Reps.snoc {vs : List V} {ds : List D} {v : V} {d : D} (h : Reps c H vs ds) (r : Rep c H v d) : Reps c H (vs ++ [v]) (ds ++ [d]) := h.append (.cons r .nil)
theorem Reps.reverse : ∀ {vs : List V} {ds : List D}, Reps c H vs ds → Reps c H vs.reverse ds.reverse
  | _, _, .nil => .nil
  | _, _, .cons h r => by rw [List.reverse_cons, List.reverse_cons]; exact (Reps.reverse r).snoc h
theorem Reps.ints : ∀ {vs : List V} {ns : List Int}, Reps c H vs (ns.map .int) → vs = ns.map V.int
  | _, [], h => by cases h; rfl
  | _, n :: ns, h => by
    cases h with
    | cons h r => cases h; rw [Reps.ints r]; rfl
theorem Reps.of_ints : ∀ (ns : List Int), Reps c H (ns.map V.int) (ns.map D.int)
  | [] => .nil
  | n :: ns => .cons (.int n) (Reps.of_ints ns)
end

/-! ### what is hidden -/
open Classical in
/-- H without the addresses of m -/
noncomputable def hide (m : Addr → Prop) (H : Hp) : Hp := fun a => if m a then none else H a
theorem hide_of {m : Addr → Prop} {H : Hp} {a : Addr} {o : HO} (h : hide m H a = some o) : ¬ m a ∧ H a = some o := by
  unfold hide at h
  split at h
  · cases h
  · exact ⟨by assumption, h⟩
theorem hide_in {m : Addr → Prop} {H : Hp} {a : Addr} {o : HO} (h : ¬ m a) (e : H a = some o) : hide m H a = some o := by
  unfold hide
  rw [if_neg h]
  exact e
theorem hide_none {m : Addr → Prop} {H : Hp} {a : Addr} (h : hide m H a = none) : m a ∨ H a = none := by
  unfold hide at h
  split at h
  · exact .inl (by assumption)
  · exact .inr h
theorem hide_ex {m : Addr → Prop} {H : Hp} : Ex (hide m H) H := fun _ _ h => (hide_of h).2
/-- fewer hidden, more known -/
theorem hide_le {m m' : Addr → Prop} {H H' : Hp} (e : ∀ a o, ¬ m a → H a = some o → ¬ m' a ∧ H' a = some o) : Ex (hide m H) (hide m' H') := fun a o h =>
  let ⟨h1, h2⟩ := hide_of h
  let ⟨h3, h4⟩ := e a o h1 h2
  hide_in h3 h4
theorem hide_mono {m : Addr → Prop} {H H' : Hp} (e : Ex H H') : Ex (hide m H) (hide m H') := hide_le fun a o h q => ⟨h, e a o q⟩

/-! ### what is one's own -/
mutual
/-- v stands for d; the objects at l are its own, all else is shared in S -/
inductive Own (c : Ct) (S H : Hp) : List Addr → V → D → Prop
  | sh {v : V} {d : D} : Rep c S v d → Own c S H [] v d
  | lst {a : Addr} {l : List Addr} {xs : List V} {ds : List D} : H a = some (.lst xs) → Owns c S H l xs ds → Own c S H (a :: l) (.ref a) (.lst ds)
  | dI {a : Addr} {l : List Addr} {ks : List Int} {vs : List V} {ds : List D} : ks.length = vs.length → H a = some (.dK ((ks.map Sum.inl).zip vs)) → Owns c S H l vs ds → Own c S H (a :: l) (.ref a) (.dI (ks.zip ds))
  | dT {a : Addr} {l : List Addr} {ks : List (List Int)} {vs : List V} {ds : List D} : ks.length = vs.length → H a = some (.dT ((ks.map fun k => k.map Sum.inl).zip vs)) → Owns c S H l vs ds → Own c S H (a :: l) (.ref a) (.dT (ks.zip ds))
  | obj {a dx : Addr} {l : List Addr} {vs : List V} {k : Cl} {fs : List D} : H a = some (.ins (c.ca k) dx ((flds k).zip vs)) → Owns c S H l vs fs → Own c S H (a :: l) (.ref a) (.obj k fs)
inductive Owns (c : Ct) (S H : Hp) : List Addr → List V → List D → Prop
  | nil : Owns c S H [] [] []
  | cons {l l' : List Addr} {v : V} {vs : List V} {d : D} {ds : List D} : Own c S H l v d → Owns c S H l' vs ds → Owns c S H (l ++ l') (v :: vs) (d :: ds)
end
section
variable {c : Ct} {S S' H H' : Hp}
mutual
theorem Own.mono (e : Ex S S') : ∀ {l : List Addr} {v : V} {d : D}, (∀ a ∈ l, ∀ o, H a = some o → H' a = some o) → Own c S H l v d → Own c S' H' l v d
  | _, _, _, _, .sh h => .sh (h.mono e)
  | _, _, _, k, .lst h r => .lst (k _ (.head _) _ h) (Owns.mono e (fun a m => k a (.tail _ m)) r)
  | _, _, _, k, .dI l h r => .dI l (k _ (.head _) _ h) (Owns.mono e (fun a m => k a (.tail _ m)) r)
  | _, _, _, k, .dT l h r => .dT l (k _ (.head _) _ h) (Owns.mono e (fun a m => k a (.tail _ m)) r)
  | _, _, _, k, .obj h r => .obj (k _ (.head _) _ h) (Owns.mono e (fun a m => k a (.tail _ m)) r)
theorem Owns.mono (e : Ex S S') : ∀ {l : List Addr} {vs : List V} {ds : List D}, (∀ a ∈ l, ∀ o, H a = some o → H' a = some o) → Owns c S H l vs ds → Owns c S' H' l vs ds
  | _, _, _, _, .nil => .nil
  | _, _, _, k, .cons h r => .cons (Own.mono e (fun a m => k a (List.mem_append_left _ m)) h) (Owns.mono e (fun a m => k a (List.mem_append_right _ m)) r)
end
mutual
/-- what is one's own may be shared -/
theorem Own.rep (e : Ex S S') : ∀ {l : List Addr} {v : V} {d : D}, (∀ a ∈ l, ∀ o, H a = some o → S' a = some o) → Own c S H l v d → Rep c S' v d
  | _, _, _, _, .sh h => h.mono e
  | _, _, _, k, .lst h r => .lst (k _ (.head _) _ h) (Owns.rep e (fun a m => k a (.tail _ m)) r)
  | _, _, _, k, .dI l h r => .dI l (k _ (.head _) _ h) (Owns.rep e (fun a m => k a (.tail _ m)) r)
  | _, _, _, k, .dT l h r => .dT l (k _ (.head _) _ h) (Owns.rep e (fun a m => k a (.tail _ m)) r)
  | _, _, _, k, .obj h r => .obj (k _ (.head _) _ h) (Owns.rep e (fun a m => k a (.tail _ m)) r)
theorem Owns.rep (e : Ex S S') : ∀ {l : List Addr} {vs : List V} {ds : List D}, (∀ a ∈ l, ∀ o, H a = some o → S' a = some o) → Owns c S H l vs ds → Reps c S' vs ds
  | _, _, _, _, .nil => .nil
  | _, _, _, k, .cons h r => .cons (Own.rep e (fun a m => k a (List.mem_append_left _ m)) h) (Owns.rep e (fun a m => k a (List.mem_append_right _ m)) r)
end
theorem Owns.sh : ∀ {vs : List V} {ds : List D}, Reps c S vs ds → Owns c S H [] vs ds
  | _, _, .nil => .nil
  | _, _, .cons h r => .cons (l := []) (.sh h) (Owns.sh r)
mutual
/-- one's own objects stand -/
theorem Own.there : ∀ {l : List Addr} {v : V} {d : D}, Own c S H l v d → ∀ a ∈ l, Mut (H a)
  | _, _, _, .sh _, a, m => by cases m
  | _, _, _, .lst h r, a, m => by
    rcases List.mem_cons.mp m with rfl | m
    · rw [h]; exact True.intro
    · exact Owns.there r a m
  | _, _, _, .dI _ h r, a, m => by
    rcases List.mem_cons.mp m with rfl | m
    · rw [h]; exact True.intro
    · exact Owns.there r a m
  | _, _, _, .dT _ h r, a, m => by
    rcases List.mem_cons.mp m with rfl | m
    · rw [h]; exact True.intro
    · exact Owns.there r a m
  | _, _, _, .obj h r, a, m => by
    rcases List.mem_cons.mp m with rfl | m
    · rw [h]; exact True.intro
    · exact Owns.there r a m
theorem Owns.there : ∀ {l : List Addr} {vs : List V} {ds : List D}, Owns c S H l vs ds → ∀ a ∈ l, Mut (H a)
  | _, _, _, .nil, a, m => by cases m
  | _, _, _, .cons h r, a, m => by
    rcases List.mem_append.mp m with m | m
    · exact Own.there h a m
    · exact Owns.there r a m
end
end

/-! ### what is one's own, by its shape -/
/-- s: shared; else one's own, with such parts -/
inductive Sh where
  | s | lst (i : Sh) | dI (i : Sh) | dT (i : Sh) | dS (is : Sh) | obj (k : Cl) (fs : Sh) | tup (is : Sh) | nil | cons (a b : Sh)
  deriving DecidableEq
mutual
inductive OwnT (c : Ct) (S H : Hp) : Sh → List Addr → V → D → Prop
  | s {v : V} {d : D} : Rep c S v d → OwnT c S H .s [] v d
  | lst {i : Sh} {a : Addr} {l : List Addr} {xs : List V} {ds : List D} : H a = some (.lst xs) → OwnU c S H i l xs ds → OwnT c S H (.lst i) (a :: l) (.ref a) (.lst ds)
  | dI {i : Sh} {a : Addr} {l : List Addr} {ks : List Int} {vs : List V} {ds : List D} : ks.length = vs.length → H a = some (.dK ((ks.map Sum.inl).zip vs)) → OwnU c S H i l vs ds → OwnT c S H (.dI i) (a :: l) (.ref a) (.dI (ks.zip ds))
  | dT {i : Sh} {a : Addr} {l : List Addr} {ks : List (List Int)} {vs : List V} {ds : List D} : ks.length = vs.length → H a = some (.dT ((ks.map fun k => k.map Sum.inl).zip vs)) → OwnU c S H i l vs ds → OwnT c S H (.dT i) (a :: l) (.ref a) (.dT (ks.zip ds))
  | dS {i : Sh} {a : Addr} {l : List Addr} {ks : List Str} {vs : List V} {ds : List D} : ks.length = vs.length → H a = some (.dK ((ks.map Sum.inr).zip vs)) → OwnF c S H i l vs ds → OwnT c S H (.dS i) (a :: l) (.ref a) (.dS (ks.zip ds))
  | obj {i : Sh} {a dx : Addr} {l : List Addr} {vs : List V} {k : Cl} {fs : List D} : H a = some (.ins (c.ca k) dx ((flds k).zip vs)) → OwnF c S H i l vs fs → OwnT c S H (.obj k i) (a :: l) (.ref a) (.obj k fs)
  | tup {i : Sh} {a : Addr} {l : List Addr} {xs : List V} {ds : List D} : S a = some (.tup xs) → OwnF c S H i l xs ds → OwnT c S H (.tup i) l (.ref a) (.tup ds)
/-- parts of unlike shapes -/
inductive OwnF (c : Ct) (S H : Hp) : Sh → List Addr → List V → List D → Prop
  | nil : OwnF c S H .nil [] [] []
  | cons {h hs : Sh} {l l' : List Addr} {v : V} {vs : List V} {d : D} {ds : List D} : OwnT c S H h l v d → OwnF c S H hs l' vs ds → OwnF c S H (.cons h hs) (l ++ l') (v :: vs) (d :: ds)
/-- parts of one shape -/
inductive OwnU (c : Ct) (S H : Hp) : Sh → List Addr → List V → List D → Prop
  | nil {h : Sh} : OwnU c S H h [] [] []
  | cons {h : Sh} {l l' : List Addr} {v : V} {vs : List V} {d : D} {ds : List D} : OwnT c S H h l v d → OwnU c S H h l' vs ds → OwnU c S H h (l ++ l') (v :: vs) (d :: ds)
end
section
variable {c : Ct} {S S' H H' : Hp}
mutual
theorem OwnT.mono (e : Ex S S') : ∀ {h : Sh} {l : List Addr} {v : V} {d : D}, (∀ a ∈ l, ∀ o, H a = some o → H' a = some o) → OwnT c S H h l v d → OwnT c S' H' h l v d
  | _, _, _, _, _, .s h => .s (h.mono e)
  | _, _, _, _, k, .lst h r => .lst (k _ (.head _) _ h) (OwnU.mono e (fun a m => k a (.tail _ m)) r)
  | _, _, _, _, k, .dI l h r => .dI l (k _ (.head _) _ h) (OwnU.mono e (fun a m => k a (.tail _ m)) r)
  | _, _, _, _, k, .dT l h r => .dT l (k _ (.head _) _ h) (OwnU.mono e (fun a m => k a (.tail _ m)) r)
  | _, _, _, _, k, .dS l h r => .dS l (k _ (.head _) _ h) (OwnF.mono e (fun a m => k a (.tail _ m)) r)
  | _, _, _, _, k, .obj h r => .obj (k _ (.head _) _ h) (OwnF.mono e (fun a m => k a (.tail _ m)) r)
  | _, _, _, _, k, .tup h r => .tup (e _ _ h) (OwnF.mono e k r)
theorem OwnF.mono (e : Ex S S') : ∀ {h : Sh} {l : List Addr} {vs : List V} {ds : List D}, (∀ a ∈ l, ∀ o, H a = some o → H' a = some o) → OwnF c S H h l vs ds → OwnF c S' H' h l vs ds
  | _, _, _, _, _, .nil => .nil
  | _, _, _, _, k, .cons h r => .cons (OwnT.mono e (fun a m => k a (List.mem_append_left _ m)) h) (OwnF.mono e (fun a m => k a (List.mem_append_right _ m)) r)
theorem OwnU.mono (e : Ex S S') : ∀ {h : Sh} {l : List Addr} {vs : List V} {ds : List D}, (∀ a ∈ l, ∀ o, H a = some o → H' a = some o) → OwnU c S H h l vs ds → OwnU c S' H' h l vs ds
  | _, _, _, _, _, .nil => .nil
  | _, _, _, _, k, .cons h r => .cons (OwnT.mono e (fun a m => k a (List.mem_append_left _ m)) h) (OwnU.mono e (fun a m => k a (List.mem_append_right _ m)) r)
end
mutual
theorem OwnT.rep (e : Ex S S') : ∀ {h : Sh} {l : List Addr} {v : V} {d : D}, (∀ a ∈ l, ∀ o, H a = some o → S' a = some o) → OwnT c S H h l v d → Rep c S' v d
  | _, _, _, _, _, .s h => h.mono e
  | _, _, _, _, k, .lst h r => .lst (k _ (.head _) _ h) (OwnU.rep e (fun a m => k a (.tail _ m)) r)
  | _, _, _, _, k, .dI l h r => .dI l (k _ (.head _) _ h) (OwnU.rep e (fun a m => k a (.tail _ m)) r)
  | _, _, _, _, k, .dT l h r => .dT l (k _ (.head _) _ h) (OwnU.rep e (fun a m => k a (.tail _ m)) r)
  | _, _, _, _, k, .dS l h r => .dS l (k _ (.head _) _ h) (OwnF.rep e (fun a m => k a (.tail _ m)) r)
  | _, _, _, _, k, .obj h r => .obj (k _ (.head _) _ h) (OwnF.rep e (fun a m => k a (.tail _ m)) r)
  | _, _, _, _, k, .tup h r => .tup (e _ _ h) (OwnF.rep e k r)
theorem OwnF.rep (e : Ex S S') : ∀ {h : Sh} {l : List Addr} {vs : List V} {ds : List D}, (∀ a ∈ l, ∀ o, H a = some o → S' a = some o) → OwnF c S H h l vs ds → Reps c S' vs ds
  | _, _, _, _, _, .nil => .nil
  | _, _, _, _, k, .cons h r => .cons (OwnT.rep e (fun a m => k a (List.mem_append_left _ m)) h) (OwnF.rep e (fun a m => k a (List.mem_append_right _ m)) r)
theorem OwnU.rep (e : Ex S S') : ∀ {h : Sh} {l : List Addr} {vs : List V} {ds : List D}, (∀ a ∈ l, ∀ o, H a = some o → S' a = some o) → OwnU c S H h l vs ds → Reps c S' vs ds
  | _, _, _, _, _, .nil => .nil
  | _, _, _, _, k, .cons h r => .cons (OwnT.rep e (fun a m => k a (List.mem_append_left _ m)) h) (OwnU.rep e (fun a m => k a (List.mem_append_right _ m)) r)
end
theorem OwnU.sh : ∀ {vs : List V} {ds : List D}, Reps c S vs ds → OwnU c S H .s [] vs ds
  | _, _, .nil => .nil
  | _, _, .cons h r => .cons (l := []) (.s h) (OwnU.sh r)
mutual
/-- one's own objects stand -/
theorem OwnT.there : ∀ {h : Sh} {l : List Addr} {v : V} {d : D}, OwnT c S H h l v d → ∀ a ∈ l, Mut (H a)
  | _, _, _, _, .s _, a, m => by cases m
  | _, _, _, _, .lst h r, a, m => by
    rcases List.mem_cons.mp m with rfl | m
    · rw [h]; exact True.intro
    · exact OwnU.there r a m
  | _, _, _, _, .dI _ h r, a, m => by
    rcases List.mem_cons.mp m with rfl | m
    · rw [h]; exact True.intro
    · exact OwnU.there r a m
  | _, _, _, _, .dT _ h r, a, m => by
    rcases List.mem_cons.mp m with rfl | m
    · rw [h]; exact True.intro
    · exact OwnU.there r a m
  | _, _, _, _, .dS _ h r, a, m => by
    rcases List.mem_cons.mp m with rfl | m
    · rw [h]; exact True.intro
    · exact OwnF.there r a m
  | _, _, _, _, .obj h r, a, m => by
    rcases List.mem_cons.mp m with rfl | m
    · rw [h]; exact True.intro
    · exact OwnF.there r a m
  | _, _, _, _, .tup _ r, a, m => OwnF.there r a m
theorem OwnF.there : ∀ {h : Sh} {l : List Addr} {vs : List V} {ds : List D}, OwnF c S H h l vs ds → ∀ a ∈ l, Mut (H a)
  | _, _, _, _, .nil, a, m => by cases m
  | _, _, _, _, .cons h r, a, m => by
    rcases List.mem_append.mp m with m | m
    · exact OwnT.there h a m
    · exact OwnF.there r a m
theorem OwnU.there : ∀ {h : Sh} {l : List Addr} {vs : List V} {ds : List D}, OwnU c S H h l vs ds → ∀ a ∈ l, Mut (H a)
  | _, _, _, _, .nil, a, m => by cases m
  | _, _, _, _, .cons h r, a, m => by
    rcases List.mem_append.mp m with m | m
    · exact OwnT.there h a m
    · exact OwnU.there r a m
end
end

/-! ### what a frame's slots hold -/
inductive Md where
  /-- nothing known | lent: stands in B | shared: stands in S | its own, the items shared | the instance that is made, likewise -/
  | n | b | s | f | x
  /-- its own, of shape h; pin: the object at z -/
  | o (h : Sh) (pin : Bool)
  /-- the exception of class k that an except suite holds: at a, its dict at dx -/
  | e (a dx : Addr) (k : Cl)
  deriving DecidableEq
def SlotR (c : Ct) (B : Hp) (z : Addr) (S H : Hp) : Md → List Addr → Option V → D → Prop
  | .n, l, _, _ => l = []
  | .b, l, x, d => l = [] ∧ ∃ v, x = some v ∧ Rep c B v d
  | .s, l, x, d => l = [] ∧ ∃ v, x = some v ∧ Rep c S v d
  | .f, l, x, d => ∃ p, l = [p] ∧ x = some (.ref p) ∧ Own c S H [p] (.ref p) d
  | .x, l, x, d => l = [z] ∧ x = some (.ref z) ∧ Own c S H [z] (.ref z) d
  | .o h pin, l, x, d => l.Nodup ∧ ∃ v, x = some v ∧ (pin = true → v = .ref z) ∧ OwnT c S H h l v d
  | .e a dx k, l, x, d => l = [] ∧ x = some (.ref a) ∧ ∃ (v : V) (d' : D), d = .obj k [d'] ∧ S dx = some (.xd [("at", v)]) ∧ Rep c S v d'
inductive Slots (c : Ct) (B : Hp) (z : Addr) (S H : Hp) : List Md → List (List Addr) → L2.St → List D → Prop
  | nil : Slots c B z S H [] [] [] []
  | cons {m : Md} {ms : List Md} {l : List Addr} {ls : List (List Addr)} {x : Option V} {σ : L2.St} {d : D} {ρ : List D} : SlotR c B z S H m l x d → Slots c B z S H ms ls σ ρ → Slots c B z S H (m :: ms) (l :: ls) (x :: σ) (d :: ρ)
def In (L : List (List Addr)) (a : Addr) : Prop := ∃ l, l ∈ L ∧ a ∈ l
/-- what is hidden from a frame; the instance that it makes, where it is a class's __init__ -/
structure Mz where
  m : Addr → Prop
  z : Addr
instance : CoeFun Mz (fun _ => Addr → Prop) := ⟨Mz.m⟩
def Msk (M : Mz) (L : List (List Addr)) (a : Addr) : Prop := M a ∨ In L a
/-- no address stands in two of the lists -/
def Apart : List (List Addr) → Prop
  | [] => True
  | l :: ls => (∀ a ∈ l, ¬ In ls a) ∧ Apart ls
/-- a frame's state. B: what is lent to it; S0: some part of what is shared; M: hidden (a caller's own things) -/
structure EnvR (c : Ct) (B S0 : Hp) (M : Mz) (Γ : List Md) (L : List (List Addr)) (σ : L2.St) (H : Hp) (ρ : List D) : Prop where
  eb : Ex B H
  hm : ∀ a, M a → Mut (H a) ∧ ¬ In L a
  es : Ex S0 (hide (Msk M L) H)
  ap : Apart L
  hl : ∀ a, In L a → Mut (H a) ∧ B a = none
  sl : Slots c B M.z (hide (Msk M L) H) H Γ L σ ρ
end DL

/-! DL: a frame's state; what expressions give. -/
namespace DL
open PySem PySem.Spec PyProof.Rows L2
section
variable {c : Ct} {z : Addr} {B S S' S0 H H' : Hp} {M : Mz} {Γ : List Md} {L : List (List Addr)} {σ : L2.St} {ρ : List D}
theorem SlotR.mono (e : Ex S S') {m : Md} {l : List Addr} {x : Option V} {d : D} (k : ∀ a ∈ l, ∀ o, H a = some o → H' a = some o) (h : SlotR c B z S H m l x d) : SlotR c B z S' H' m l x d := by
  cases m with
  | n => exact h
  | b => exact h
  | s => obtain ⟨h1, v, h2, h3⟩ := h; exact ⟨h1, v, h2, h3.mono e⟩
  | f => obtain ⟨p, h1, h2, h3⟩ := h; subst h1; exact ⟨p, rfl, h2, h3.mono e k⟩
  | x => obtain ⟨h1, h2, h3⟩ := h; subst h1; exact ⟨rfl, h2, h3.mono e k⟩
  | o => obtain ⟨h1, v, h2, hp, h3⟩ := h; exact ⟨h1, v, h2, hp, h3.mono e k⟩
  | e a dx kk => obtain ⟨h1, h2, v, d', h3, h4, h5⟩ := h; exact ⟨h1, h2, v, d', h3, e _ _ h4, h5.mono e⟩
theorem In.cons {L : List (List Addr)} {l : List Addr} {a : Addr} (h : In L a) : In (l :: L) a := let ⟨l', h1, h2⟩ := h; ⟨l', .tail _ h1, h2⟩
theorem In.head {L : List (List Addr)} {l : List Addr} {a : Addr} (h : a ∈ l) : In (l :: L) a := ⟨l, .head _, h⟩
theorem In.inv {L : List (List Addr)} {l : List Addr} {a : Addr} (h : In (l :: L) a) : a ∈ l ∨ In L a := by
  obtain ⟨l', h1, h2⟩ := h
  rcases List.mem_cons.mp h1 with rfl | h1
  · exact .inl h2
  · exact .inr ⟨l', h1, h2⟩
theorem In.nil {a : Addr} (h : In [] a) : False := by
  obtain ⟨_, h1, _⟩ := h
  cases h1
theorem In.set {l' : List Addr} {a : Addr} : ∀ {L : List (List Addr)} {i : Nat}, In (L.set i l') a → In L a ∨ a ∈ l'
  | [], _, h => (h.nil).elim
  | l :: L, 0, h => by
    rcases In.inv (show In (l' :: L) a from h) with h | h
    · exact .inr h
    · exact .inl h.cons
  | l :: L, i + 1, h => by
    rcases In.inv (show In (l :: L.set i l') a from h) with h | h
    · exact .inl (.head h)
    · rcases In.set h with h | h
      · exact .inl h.cons
      · exact .inr h
theorem In.set_of {l' : List Addr} {a : Addr} : ∀ {L : List (List Addr)} {i : Nat} {l : List Addr}, L[i]? = some l → In L a → a ∉ l → In (L.set i l') a
  | [], _, _, h, _, _ => by simp at h
  | l0 :: L, 0, l, h, hi, hn => by
    simp at h; subst h
    rcases hi.inv with h | h
    · exact absurd h hn
    · exact In.cons h
  | l0 :: L, i + 1, l, h, hi, hn => by
    rcases hi.inv with h' | h'
    · exact .head h'
    · exact In.cons (In.set_of (i := i) (by simpa using h) h' hn)
theorem Apart.set {l' : List Addr} : ∀ {L : List (List Addr)} {i : Nat}, Apart L → (∀ a ∈ l', ¬ In L a) → Apart (L.set i l')
  | [], _, h, _ => h
  | l :: L, 0, h, hn => ⟨fun a ha hi => hn a ha hi.cons, h.2⟩
  | l :: L, i + 1, h, hn => ⟨fun a ha hi => by
      rcases In.set hi with hi | hi
      · exact h.1 a ha hi
      · exact hn a hi (.head ha), Apart.set h.2 fun a ha hi => hn a ha hi.cons⟩
/-- the slots stand in a greater heap -/
theorem Slots.mono (e : Ex S S') : ∀ {Γ : List Md} {L : List (List Addr)} {σ : L2.St} {ρ : List D}, (∀ a, In L a → ∀ o, H a = some o → H' a = some o) → Slots c B z S H Γ L σ ρ → Slots c B z S' H' Γ L σ ρ
  | _, _, _, _, _, .nil => .nil
  | _, _, _, _, k, .cons h r => .cons (h.mono e fun a m => k a (.head m)) (Slots.mono e (fun a m => k a m.cons) r)
theorem Slots.get : ∀ {Γ : List Md} {L : List (List Addr)} {σ : L2.St} {ρ : List D} {i : Nat} {m : Md}, Slots c B z S H Γ L σ ρ → Γ[i]? = some m → ∃ l x d, L[i]? = some l ∧ σ[i]? = some x ∧ ρ[i]? = some d ∧ SlotR c B z S H m l x d
  | _, _, _, _, _, _, .nil, e => by simp at e
  | _, _, _, _, 0, _, .cons h _, e => by simp at e; subst e; exact ⟨_, _, _, by simp, by simp, by simp, h⟩
  | _, _, _, _, i + 1, m, .cons _ r, e => by
    obtain ⟨l, x, d, h1, h2, h3, h4⟩ := Slots.get (i := i) (m := m) r (by simpa using e)
    exact ⟨l, x, d, by simpa using h1, by simpa using h2, by simpa using h3, h4⟩
theorem Slots.len : ∀ {Γ : List Md} {L : List (List Addr)} {σ : L2.St} {ρ : List D}, Slots c B z S H Γ L σ ρ → L.length = Γ.length ∧ σ.length = Γ.length ∧ ρ.length = Γ.length
  | _, _, _, _, .nil => ⟨rfl, rfl, rfl⟩
  | _, _, _, _, .cons _ r => let ⟨a, b, c⟩ := Slots.len r; ⟨congrArg Nat.succ a, congrArg Nat.succ b, congrArg Nat.succ c⟩
/-- all slots but the i-th in a greater heap, the i-th anew -/
theorem Slots.put (e : Ex S S') {m' : Md} {l' : List Addr} {x' : Option V} {d' : D} (hs : SlotR c B z S' H' m' l' x' d') : ∀ {Γ : List Md} {L : List (List Addr)} {σ : L2.St} {ρ : List D} (i : Nat), Apart L →
    (∀ a, In L a → (∀ l, L[i]? = some l → a ∉ l) → ∀ o, H a = some o → H' a = some o) → Slots c B z S H Γ L σ ρ → Slots c B z S' H' (Γ.set i m') (L.set i l') (σ.set i x') (ρ.set i d')
  | _, _, _, _, _, _, _, .nil => .nil
  | _, _, _, _, 0, ap, k, .cons _ r => .cons hs (r.mono e fun a ha => k a ha.cons fun l hl hal => by
      simp at hl
      subst hl
      exact ap.1 a hal ha)
  | _, l0 :: L, _, _, i + 1, ap, k, .cons h r => .cons (h.mono e fun a ha => k a (.head ha) fun l hl hal => ap.1 a ha ⟨l, List.mem_of_getElem? (by simpa using hl), hal⟩)
      (Slots.put e hs i ap.2 (fun a ha hn => k a ha.cons fun l hl => hn l (by simpa using hl)) r)
theorem list_set_self {α : Type} : ∀ {l : List α} {i : Nat} {x : α}, l[i]? = some x → l.set i x = l
  | [], _, _, _ => rfl
  | _ :: _, 0, _, h => by simp at h; subst h; rfl
  | _ :: l, i + 1, x, h => by
    show _ :: l.set i x = _
    rw [list_set_self (l := l) (i := i) (by simpa using h)]

theorem mut_ex (e : Ex H H') {a : Addr} (q : Mut (H a)) : Mut (H' a) := by
  cases z : H a with
  | none => rw [z] at q; exact q.elim
  | some o => rw [z] at q; rw [e a o z]; exact q
/-- the frame in a greater heap -/
theorem EnvR.ext (E : EnvR c B S0 M Γ L σ H ρ) (e : Ex H H') : EnvR c B S0 M Γ L σ H' ρ :=
  ⟨E.eb.trans e, fun a h => ⟨mut_ex e (E.hm a h).1, (E.hm a h).2⟩, E.es.trans (hide_mono e), E.ap, fun a h => ⟨by
      have q := (E.hl a h).1
      cases z : H a with
      | none => rw [z] at q; exact q.elim
      | some o => rw [z] at q; rw [e a o z]; exact q, (E.hl a h).2⟩, E.sl.mono (hide_mono e) fun a _ o h => e a o h⟩
/-- less is asked of what is shared -/
theorem EnvR.base {S1 : Hp} (E : EnvR c B S0 M Γ L σ H ρ) (e : Ex S1 S0) : EnvR c B S1 M Γ L σ H ρ := ⟨E.eb, E.hm, e.trans E.es, E.ap, E.hl, E.sl⟩
/-- all that is shared now -/
theorem EnvR.now (E : EnvR c B S0 M Γ L σ H ρ) : EnvR c B (hide (Msk M L) H) M Γ L σ H ρ := ⟨E.eb, E.hm, Ex.refl _, E.ap, E.hl, E.sl⟩
theorem EnvR.noM (E : EnvR c B S0 M Γ L σ H ρ) {a : Addr} (h : H a = none) : ¬ M a := fun hm => by
  have q := (E.hm a hm).1
  rw [h] at q
  exact q
theorem EnvR.noL (E : EnvR c B S0 M Γ L σ H ρ) {a : Addr} (h : H a = none) : ¬ In L a := fun hi => by
  have q := (E.hl a hi).1
  rw [h] at q
  exact q
theorem EnvR.sub (E : EnvR c B S0 M Γ L σ H ρ) : Ex (hide (Msk M L) H) H := hide_ex
/-- a slot is stored: its new objects are new to H, H' is greater -/
theorem EnvR.put (E : EnvR c B S0 M Γ L σ H ρ) (e : Ex H H') (i : Nat) {m' : Md} {l' : List Addr} {x' : Option V} {d' : D} (hn : ∀ a ∈ l', H a = none) (ht : ∀ a ∈ l', Mut (H' a))
    (hs : SlotR c B M.z (hide (Msk M (L.set i l')) H') H' m' l' x' d') : EnvR c B S0 M (Γ.set i m') (L.set i l') (σ.set i x') H' (ρ.set i d') := by
  have hh : Ex (hide (Msk M L) H) (hide (Msk M (L.set i l')) H') := hide_le fun a o hm ho => ⟨fun z => by
    rcases z with z | z
    · exact hm (.inl z)
    · rcases z.set with z | z
      · exact hm (.inr z)
      · rw [hn a z] at ho
        exact (nomatch ho), e a o ho⟩
  refine ⟨E.eb.trans e, fun a h => ⟨mut_ex e (E.hm a h).1, fun z => by
    rcases z.set with z | z
    · exact (E.hm a h).2 z
    · exact E.noM (hn a z) h⟩, E.es.trans hh, E.ap.set fun a ha => E.noL (hn a ha), fun a h => ?_, E.sl.put hh hs i E.ap fun a _ _ o h => e a o h⟩
  rcases h.set with h | h
  · exact ⟨((E.ext e).hl a h).1, (E.hl a h).2⟩
  · exact ⟨ht a h, E.eb.free (hn a h)⟩
/-- a slot is stored, nothing of it one's own -/
theorem EnvR.put0 (E : EnvR c B S0 M Γ L σ H ρ) (e : Ex H H') (i : Nat) {m' : Md} {x' : Option V} {d' : D} (hs : SlotR c B M.z (hide (Msk M (L.set i [])) H') H' m' [] x' d') : EnvR c B S0 M (Γ.set i m') (L.set i []) (σ.set i x') H' (ρ.set i d') :=
  E.put e i (fun _ h => by cases h) (fun _ h => by cases h) hs
theorem Msk.set0 {i : Nat} {a : Addr} (h : Msk M (L.set i []) a) : Msk M L a := by
  rcases h with h | h
  · exact .inl h
  · rcases h.set with h | h
    · exact .inr h
    · cases h
theorem hide_set0 {i : Nat} : Ex (hide (Msk M L) H) (hide (Msk M (L.set i [])) H) := hide_le fun _ _ h q => ⟨fun z => h z.set0, q⟩
/-- an owned slot changes within its own objects and new ones -/
theorem EnvR.change (E : EnvR c B S0 M Γ L σ H ρ) (i : Nat) {l : List Addr} (hl : L[i]? = some l) {m' : Md} {l' : List Addr} {x' : Option V} {d' : D} (e : ∀ a o, a ∉ l → H a = some o → H' a = some o) (hn : ∀ a ∈ l', a ∈ l ∨ H a = none) (ht : ∀ a ∈ l', Mut (H' a))
    (hs : SlotR c B M.z (hide (Msk M (L.set i l')) H') H' m' l' x' d') : EnvR c B S0 M (Γ.set i m') (L.set i l') (σ.set i x') H' (ρ.set i d') := by
  have inL : ∀ a ∈ l, In L a := fun a h => ⟨l, List.mem_of_getElem? hl, h⟩
  have hh : Ex (hide (Msk M L) H) (hide (Msk M (L.set i l')) H') := hide_le fun a o hm ho => ⟨fun z => by
    rcases z with z | z
    · exact hm (.inl z)
    · rcases z.set with z | z
      · exact hm (.inr z)
      · rcases hn a z with z | z
        · exact hm (.inr (inL a z))
        · rw [z] at ho
          exact (nomatch ho), e a o (fun z => hm (.inr (inL a z))) ho⟩
  have sep : ∀ {L : List (List Addr)} {i : Nat} {l : List Addr}, L[i]? = some l → Apart L → ∀ a ∈ l, ¬ In (L.set i []) a := by
    intro L
    induction L with
    | nil => intro i l h; simp at h
    | cons l0 L ih =>
      intro i l h ap a ha hi
      cases i with
      | zero =>
        simp at h; subst h
        rcases In.inv (show In ([] :: L) a from hi) with z | z
        · cases z
        · exact ap.1 a ha z
      | succ i =>
        have h' : L[i]? = some l := by simpa using h
        rcases In.inv (show In (l0 :: L.set i []) a from hi) with z | z
        · exact ap.1 a z ⟨l, List.mem_of_getElem? h', ha⟩
        · exact ih h' ap.2 a ha z
  have ap0 : Apart (L.set i []) := E.ap.set fun a h => by cases h
  have eq : (L.set i []).set i l' = L.set i l' := by rw [List.set_set]
  have ap1 : Apart (L.set i l') := by
    rw [← eq]
    refine ap0.set fun a ha hi => ?_
    rcases hn a ha with z | z
    · exact sep hl E.ap a z hi
    · rcases hi.set with y | y
      · exact E.noL z y
      · cases y
  refine ⟨fun a o h => e a o (fun z => ?_) (E.eb a o h), fun a h => ⟨by
    have q := (E.hm a h).1
    cases y : H a with
    | none => rw [y] at q; exact q.elim
    | some o => rw [y] at q; rw [e a o (fun z => (E.hm a h).2 (inL a z)) y]; exact q, fun z => by
    rcases z.set with z | z
    · exact (E.hm a h).2 z
    · rcases hn a z with y | y
      · exact (E.hm a h).2 (inL a y)
      · exact E.noM y h⟩, E.es.trans hh, ap1, fun a h => ?_, E.sl.put hh hs i E.ap fun a ha hna o h => e a o (hna l hl) h⟩
  · rw [(E.hl a (inL a z)).2] at h; cases h
  · by_cases hal : a ∈ l'
    · refine ⟨ht a hal, ?_⟩
      rcases hn a hal with z | z
      · exact (E.hl a (inL a z)).2
      · exact E.eb.free z
    · rcases h.set with h | h
      · refine ⟨?_, (E.hl a h).2⟩
        by_cases z : a ∈ l
        · exfalso
          have hi2 : In ((L.set i []).set i l') a := by rw [eq]; assumption
          rcases hi2.set with y | y
          · exact sep hl E.ap a z y
          · exact hal y
        · have q := (E.hl a h).1
          cases y : H a with
          | none => rw [y] at q; exact q.elim
          | some o => rw [y] at q; rw [e a o z y]; exact q
      · exact absurd h hal
end

/-! ### expressions -/
/-- how a value is known: for now | lent | shared | one's own, the items shared -/
inductive Vm where
  | t | b | s | f
def VR (c : Ct) (m : Vm) (B : Hp) (M : Mz) (L : List (List Addr)) (H : Hp) (v : V) (d : D) : Prop :=
  match m with
  | .t => Rep c H v d
  | .b => Rep c B v d
  | .s => Rep c (hide (Msk M L) H) v d
  | .f => ∃ p, v = .ref p ∧ Own c (hide (Msk M L) H) H [p] v d ∧ In L p
abbrev DFn := List D → Option D
section
variable (c : Ct) (Γ : List Md)
/-- the reading t gives f's data -/
def DE (t : TE) (m : Vm) (f : DFn) : Prop :=
  ∀ (B S0 : Hp) (M : Mz) (L : List (List Addr)) (σ : L2.St) (H : Hp) (ρ : List D), EnvR c B S0 M Γ L σ H ρ → ∀ d, f ρ = some d → ∀ Q : VK, (∀ v H', Ex H H' → VR c m B M L H' v d → Q v H') → t σ H Q
/-- .. in new objects of its own -/
def DN (t : TE) (f : DFn) : Prop :=
  ∀ (B S0 : Hp) (M : Mz) (L : List (List Addr)) (σ : L2.St) (H : Hp) (ρ : List D), EnvR c B S0 M Γ L σ H ρ → ∀ d, f ρ = some d → ∀ Q : VK,
    (∀ p H', Ex H H' → H p = none → Own c (hide (fun a => Msk M L a ∨ a = p) H') H' [p] (.ref p) d → Q (.ref p) H') → t σ H Q
def DT (t : TT) (f : List D → Option Bool) : Prop :=
  ∀ (B S0 : Hp) (M : Mz) (L : List (List Addr)) (σ : L2.St) (H : Hp) (ρ : List D), EnvR c B S0 M Γ L σ H ρ → ∀ b, f ρ = some b → ∀ Q : Bool → Hp → Prop, (∀ H', Ex H H' → Q b H') → t σ H Q
inductive VRs (c : Ct) (B : Hp) (M : Mz) (L : List (List Addr)) (H : Hp) : List Vm → List V → List D → Prop
  | nil : VRs c B M L H [] [] []
  | cons {m : Vm} {ms : List Vm} {v : V} {vs : List V} {d : D} {ds : List D} : VR c m B M L H v d → VRs c B M L H ms vs ds → VRs c B M L H (m :: ms) (v :: vs) (d :: ds)
def DA (t : TA) (ms : List Vm) (f : List D → Option (List D)) : Prop :=
  ∀ (B S0 : Hp) (M : Mz) (L : List (List Addr)) (σ : L2.St) (H : Hp) (ρ : List D), EnvR c B S0 M Γ L σ H ρ → ∀ ds, f ρ = some ds → ∀ Q : List V → Hp → Prop, (∀ vs H', Ex H H' → VRs c B M L H' ms vs ds → Q vs H') → t σ H Q
end
section
variable {c : Ct} {Γ : List Md} {B S0 H H' : Hp} {M : Mz} {L : List (List Addr)} {σ : L2.St} {ρ : List D} {v : V} {d : D} {m : Vm}
theorem VR.mono (e : Ex H H') (h : VR c m B M L H v d) : VR c m B M L H' v d := by
  cases m with
  | t => exact Rep.mono e h
  | b => exact h
  | s => exact Rep.mono (hide_mono e) h
  | f => obtain ⟨p, rfl, h, hi⟩ := h; exact ⟨p, rfl, h.mono (hide_mono e) fun a _ o h => e a o h, hi⟩
theorem VR.rep (e : Ex B H) (h : VR c m B M L H v d) : Rep c H v d := by
  cases m with
  | t => exact h
  | b => exact Rep.mono e h
  | s => exact Rep.mono hide_ex h
  | f => obtain ⟨p, rfl, h, _⟩ := h; exact h.rep hide_ex fun _ _ _ h => h
theorem VRs.mono (e : Ex H H') : ∀ {ms : List Vm} {vs : List V} {ds : List D}, VRs c B M L H ms vs ds → VRs c B M L H' ms vs ds
  | _, _, _, .nil => .nil
  | _, _, _, .cons h r => .cons (h.mono e) (r.mono e)
theorem VRs.reps (e : Ex B H) : ∀ {ms : List Vm} {vs : List V} {ds : List D}, VRs c B M L H ms vs ds → Reps c H vs ds
  | _, _, _, .nil => .nil
  | _, _, _, .cons h r => .cons (h.rep e) (r.reps e)
theorem VRs.shared : ∀ {ms : List Vm} {vs : List V} {ds : List D}, (∀ m ∈ ms, m = .s) → VRs c B M L H ms vs ds → Reps c (hide (Msk M L) H) vs ds
  | _, _, _, _, .nil => .nil
  | _, _, _, k, .cons h r => by
    have e := k _ (.head _)
    subst e
    exact .cons h (r.shared fun m hm => k m (.tail _ hm))
/-- data without objects: the same in every heap -/
def Im (v : V) (d : D) : Prop := ∀ (c : Ct) (H : Hp), Rep c H v d
theorem Im.vr (h : Im v d) (hm : m ≠ .f) : VR c m B M L H v d := by
  cases m with
  | f => exact absurd rfl hm
  | t => exact h c _
  | b => exact h c _
  | s => exact h c _
/-- what is one's own is shared -/
theorem own_rep {p : Addr} (E : EnvR c B S0 M Γ L σ H ρ) (hn : H p = none) (h : Own c (hide (fun a => Msk M L a ∨ a = p) H') H' [p] v d) : Rep c (hide (Msk M L) H') v d :=
  h.rep (hide_le fun a o hm ho => ⟨fun z => hm (.inl z), ho⟩) fun a ha o ho => hide_in (fun z => by
    have e : a = p := by simpa using ha
    subst e
    rcases z with z | z
    · exact E.noM hn z
    · exact E.noL hn z) ho
theorem DN.de {t : TE} {f : DFn} (h : DN c Γ t f) : DE c Γ t .s f := fun B S0 M L σ H ρ E d hd Q q => h B S0 M L σ H ρ E d hd Q fun p H' e hn ho => q _ H' e (own_rep E hn ho)
end
/-- two in a row -/
def d2 (g : D → D → Option D) (fa fb : DFn) : DFn := fun ρ => (fa ρ).bind fun a => (fb ρ).bind fun b => g a b
def d1 (g : D → Option D) (fa : DFn) : DFn := fun ρ => (fa ρ).bind g
theorem bind_some {α β : Type} {x : Option α} {f : α → Option β} {b : β} (h : x.bind f = some b) : ∃ a, x = some a ∧ f a = some b := by
  cases x with
  | none => cases h
  | some a => exact ⟨a, rfl, h⟩
section
variable {c : Ct} {Γ : List Md} {ta tb : TE} {ma mb : Vm} {fa fb : DFn}
theorem DE.op {r : R2} {g : D → D → Option D} (ha : DE c Γ ta ma fa) (hb : DE c Γ tb mb fb) (hr : ∀ H x y a b d, Rep c H x a → Rep c H y b → g a b = some d → ∃ v, Im v d ∧ ∀ Q : VK, Q v H → r x y H Q) : DE c Γ (tOp r ta tb) .s (d2 g fa fb) := by
  intro B S0 M L σ H ρ E d hd Q q
  obtain ⟨a, ea, hd⟩ := bind_some hd
  obtain ⟨b, eb, hd⟩ := bind_some hd
  refine ha B S0 M L σ H ρ E a ea _ fun x H1 e1 rx => ?_
  refine hb B S0 M L σ H1 ρ (E.ext e1) b eb _ fun y H2 e2 ry => ?_
  have eB : Ex B H2 := (E.eb.trans e1).trans e2
  obtain ⟨v, hv, k⟩ := hr H2 x y a b d ((rx.mono e2).rep eB) (ry.rep eB) hd
  exact k Q (q v H2 (e1.trans e2) (hv.vr (by intro z; cases z)))
theorem DE.un {r : V → Hp → VK → Prop} {g : D → Option D} (ha : DE c Γ ta ma fa) (hr : ∀ H x a d, Rep c H x a → g a = some d → ∃ v, Im v d ∧ ∀ Q : VK, Q v H → r x H Q) : DE c Γ (tUn r ta) .s (d1 g fa) := by
  intro B S0 M L σ H ρ E d hd Q q
  obtain ⟨a, ea, hd⟩ := bind_some hd
  refine ha B S0 M L σ H ρ E a ea _ fun x H1 e1 rx => ?_
  obtain ⟨v, hv, k⟩ := hr H1 x a d (rx.rep (E.eb.trans e1)) hd
  exact k Q (q v H1 e1 (hv.vr (by intro z; cases z)))
/-- how an item of what is so known is known -/
def Vm.item : Vm → Vm
  | .f => .s
  | m => m
/-- a part of the operand: as the operand is known -/
theorem DE.part {r : R2} {g : D → D → Option D} (ha : DE c Γ ta ma fa) (hb : DE c Γ tb mb fb)
    (hr : ∀ S H x y a b d, Ex S H → (Rep c S x a ∨ ∃ p, x = .ref p ∧ Own c S H [p] x a) → Rep c H y b → g a b = some d → ∃ v, Rep c S v d ∧ ∀ Q : VK, Q v H → r x y H Q) : DE c Γ (tOp r ta tb) ma.item (d2 g fa fb) := by
  intro B S0 M L σ H ρ E d hd Q q
  obtain ⟨a, ea, hd⟩ := bind_some hd
  obtain ⟨b, eb, hd⟩ := bind_some hd
  refine ha B S0 M L σ H ρ E a ea _ fun x H1 e1 rx => ?_
  refine hb B S0 M L σ H1 ρ (E.ext e1) b eb _ fun y H2 e2 ry => ?_
  have eB : Ex B H2 := (E.eb.trans e1).trans e2
  have ry' := ry.rep eB
  have rx' := rx.mono e2
  cases ma with
  | t =>
    obtain ⟨v, hv, k⟩ := hr H2 H2 x y a b d (Ex.refl _) (.inl rx') ry' hd
    exact k Q (q v H2 (e1.trans e2) hv)
  | b =>
    obtain ⟨v, hv, k⟩ := hr B H2 x y a b d eB (.inl rx') ry' hd
    exact k Q (q v H2 (e1.trans e2) hv)
  | s =>
    obtain ⟨v, hv, k⟩ := hr (hide (Msk M L) H2) H2 x y a b d hide_ex (.inl rx') ry' hd
    exact k Q (q v H2 (e1.trans e2) hv)
  | f =>
    obtain ⟨p, rfl, ho, _⟩ := rx'
    obtain ⟨v, hv, k⟩ := hr (hide (Msk M L) H2) H2 _ y a b d hide_ex (.inr ⟨p, rfl, ho⟩) ry' hd
    exact k Q (q v H2 (e1.trans e2) hv)
theorem DE.weak {t : TE} {m : Vm} {f : DFn} (h : DE c Γ t m f) : DE c Γ t .t f := fun B S0 M L σ H ρ E d hd Q q => h B S0 M L σ H ρ E d hd Q fun v H' e r => q v H' e (r.rep (E.eb.trans e))
end
end DL

/-! DL: rules for expressions. -/
namespace DL
open PySem PySem.Spec PyProof.Rows L2
/-! ### plain data -/
mutual
def toP : D → PyData
  | .non => .none
  | .bl b => .bool b
  | .int i => .int i
  | .str x => .str x
  | .tup ds => .tuple (toPs ds)
  | .lst ds => .list (toPs ds)
  | .scr ns => .list (ns.map .int)
  | .dI _ => .dict []
  | .dT _ => .dict []
  | .dS _ => .dict []
  | .obj _ _ => .dict []
  | .cls _ => .dict []
def toPs : List D → List PyData
  | [] => []
  | d :: ds => toP d :: toPs ds
end
theorem toPs_map : ∀ ds : List D, toPs ds = ds.map toP
  | [] => rfl
  | d :: ds => by rw [toPs, toPs_map ds, List.map_cons]
theorem DpAll.ints {K : PySem.W.Frag} {H : Hp} : ∀ ns : List Int, DpAll K H (ns.map V.int) (ns.map PyData.int)
  | [] => .nil
  | n :: ns => .cons (.int n) (DpAll.ints ns)
section
variable {c : Ct} {H : Hp}
mutual
theorem Rep.dp : ∀ {v : V} {d : D}, Rep c H v d → (toP d).plain = true → Dp c.K H v (toP d)
  | _, _, .non, _ => by rw [toP]; exact .non
  | _, _, .bl b, _ => by rw [toP]; exact .bl b
  | _, _, .int i, _ => by rw [toP]; exact .int i
  | _, _, .str x, _ => by rw [toP]; exact .str x
  | _, _, .tup h r, p => by
    rw [toP] at p ⊢
    exact .tup (SqT.of h) (Reps.dp r (by simpa [PyData.plain] using p))
  | _, _, .lst h r, p => by
    rw [toP] at p ⊢
    exact .lst (SqL.of h) (Reps.dp r (by simpa [PyData.plain] using p))
  | _, _, .scr h, _ => by rw [toP]; exact .lst h (DpAll.ints _)
  | _, _, .dI _ _ _, p => by rw [toP] at p; exact nomatch p
  | _, _, .dT _ _ _, p => by rw [toP] at p; exact nomatch p
  | _, _, .dS _ _ _, p => by rw [toP] at p; exact nomatch p
  | _, _, .obj _ _, p => by rw [toP] at p; exact nomatch p
  | _, _, .cls _, p => by rw [toP] at p; exact nomatch p
theorem Reps.dp : ∀ {vs : List V} {ds : List D}, Reps c H vs ds → PyData.plainAll (toPs ds) = true → DpAll c.K H vs (toPs ds)
  | _, _, .nil, _ => by rw [toPs]; exact .nil
  | _, _, .cons h r, p => by
    rw [toPs] at p ⊢
    rw [PyData.plainAll] at p
    obtain ⟨p1, p2⟩ := Bool.and_eq_true_iff.mp p
    exact .cons (Rep.dp h p1) (Reps.dp r p2)
end
end
theorem Rep.reads {X : Cx} {pins : List (Addr × Obj)} {σ : L2.St} {H : Hp} {s : Shared} {c : Ct} {v : V} {d : D} {u : Value} (I : Inv X pins σ H s) (hK : c.K = X.K) (h : Rep c H v d) (hp : (toP d).plain = true) (r : RelV v u) : ∃ as, Reads s.heap u (toP d) as :=
  Dp.reads I _ _ _ (hK ▸ h.dp hp) r

/-- the items of a sequence -/
def seqOf : D → Option (List D)
  | .lst ds => some ds
  | .tup ds => some ds
  | .scr ns => some (ns.map .int)
  | _ => none
section
variable {c : Ct} {S H : Hp}
theorem Owns.flat : ∀ {l : List Addr} {xs : List V} {ds : List D}, Owns c S H l xs ds → l = [] → Reps c S xs ds
  | _, _, _, .nil, _ => .nil
  | _, _, _, .cons h r, e => by
    obtain ⟨e1, e2⟩ := List.append_eq_nil_iff.mp e
    subst e1
    cases h with
    | sh h => exact .cons h (r.flat e2)
theorem Own.flat_lst {p : Addr} {ds : List D} (h : Own c S H [p] (.ref p) (.lst ds)) : ∃ xs, H p = some (.lst xs) ∧ Reps c S xs ds := by
  cases h with
  | lst h r => exact ⟨_, h, r.flat rfl⟩
theorem seq_rep {x : V} {a : D} {ds : List D} (e : Ex S H) (h : Rep c S x a ∨ ∃ p, x = .ref p ∧ Own c S H [p] x a) (hd : seqOf a = some ds) : ∃ p xs, x = .ref p ∧ (SqL c.K H p xs ∨ SqT c.K H p xs) ∧ Reps c S xs ds := by
  rcases h with h | ⟨p, rfl, h⟩
  · cases h with
    | tup h r => cases hd; exact ⟨_, _, rfl, .inr (SqT.of (e _ _ h)), r⟩
    | lst h r => cases hd; exact ⟨_, _, rfl, .inl (SqL.of (e _ _ h)), r⟩
    | scr h => cases hd; exact ⟨_, _, rfl, .inl (e.sq h), Reps.of_ints _⟩
    | non => cases hd
    | bl => cases hd
    | int => cases hd
    | str => cases hd
    | dI => cases hd
    | dT => cases hd
    | dS => cases hd
    | obj => cases hd
    | cls => cases hd
  · cases h with
    | lst h r => cases hd; exact ⟨_, _, rfl, .inl (SqL.of h), r.flat rfl⟩
    | dI => cases hd
    | dT => cases hd
    | obj => cases hd
end

/-! ### judgements with their text -/
section
variable (X : Cx) (ca : Cl → Addr) (Γ : List Md)
abbrev cT : Ct := ⟨X.K, ca⟩
def PDE (e : Expr) (m : Vm) (f : DFn) : Prop := ∃ t, PE X e t ∧ DE ⟨X.K, ca⟩ Γ t m f
def PDN (e : Expr) (f : DFn) : Prop := ∃ t, PE X e t ∧ DN ⟨X.K, ca⟩ Γ t f
def PDT (e : Expr) (f : List D → Option Bool) : Prop := ∃ t, PT X e t ∧ DT ⟨X.K, ca⟩ Γ t f
def PDW (e : Expr) (f : List D → Option Bool) : Prop := ∃ t, PW X e t ∧ DT ⟨X.K, ca⟩ Γ t f
def PDA (es : List Expr) (ms : List Vm) (f : List D → Option (List D)) : Prop := ∃ t, PA X es t ∧ DA ⟨X.K, ca⟩ Γ t ms f
/-- a comparison's operator, by data -/
def OG (op : CmpOp) (g : D → D → Option D) : Prop := ∃ r, OpR X (compareOp op) r ∧ ∀ H x y a b d, Rep ⟨X.K, ca⟩ H x a → Rep ⟨X.K, ca⟩ H y b → g a b = some d → ∃ v, Im v d ∧ ∀ Q : VK, Q v H → r x y H Q
/-- an operator of two places, by data -/
def BG (op : Operator) (g : D → D → Option D) : Prop := ∃ r, OpR X (binaryOp op) r ∧ ∀ H x y a b d, Rep ⟨X.K, ca⟩ H x a → Rep ⟨X.K, ca⟩ H y b → g a b = some d → ∃ v, Im v d ∧ ∀ Q : VK, Q v H → r x y H Q
end
def dVar (i : Nat) : DFn := fun ρ => ρ[i]?
def dC (d : D) : DFn := fun _ => some d
def asB : D → Option Bool
  | .bl b => some b
  | _ => none
def tB (f : DFn) : List D → Option Bool := fun ρ => (f ρ).bind asB
def tAndF (f g : List D → Option Bool) : List D → Option Bool := fun ρ => (f ρ).bind fun b => if b = true then g ρ else some false
def tOrF (f g : List D → Option Bool) : List D → Option Bool := fun ρ => (f ρ).bind fun b => if b = true then some true else g ρ
def tNotF (f : List D → Option Bool) : List D → Option Bool := fun ρ => (f ρ).map (!·)
def dAnd (f g : DFn) : DFn := fun ρ => (tB f ρ).bind fun b => if b = true then g ρ else some (.bl false)
def dOr (f g : DFn) : DFn := fun ρ => (tB f ρ).bind fun b => if b = true then some (.bl true) else g ρ
def dNot (f : DFn) : DFn := fun ρ => (tB f ρ).map fun b => .bl (!b)
def dIf (t : List D → Option Bool) (f g : DFn) : DFn := fun ρ => (t ρ).bind fun b => if b = true then f ρ else g ρ
section
variable {X : Cx} {ca : Cl → Addr} {Γ : List Md} {pos : Pos} {a b : Expr} {ma mb : Vm} {fa fb : DFn}
theorem Im.int (i : Int) : Im (.int i) (.int i) := fun _ _ => .int i
theorem Im.bl (b : Bool) : Im (.bl b) (.bl b) := fun _ _ => .bl b
theorem Im.non : Im .non .non := fun _ _ => .non
theorem Im.str (x : Str) : Im (.str x) (.str x) := fun _ _ => .str x
theorem de_c {c : Ct} {v : V} {d : D} (h : Im v d) : DE c Γ (tC v) .s (dC d) := fun B S0 M L σ H ρ E d' hd Q q => by
  cases hd
  exact q v H (Ex.refl _) (h.vr (by intro z; cases z))
/-- a name: a shared thing -/
theorem pd_var (i : Nat) {x : Str} (hm : Γ[i]? = some .s := by rfl) (hN : X.N[i]? = some x := by rfl) (hv : Vis X.env.scope x := by first | exact Or.inl rfl | exact Or.inr (Or.inl rfl) | exact Or.inr (Or.inr rfl)) (hd : (x == ("__debug__" : Str)) = false := by decide)
    (hcd : (x == ("__classdict__" : Str)) = false := by decide) : PDE X ca Γ (.Name x pos) .s (dVar i) := by
  refine ⟨_, pe_var hN hv hd hcd, fun B S0 M L σ H ρ E d hd Q q => ?_⟩
  obtain ⟨l, y, d', _, h2, h3, _, v, rfl, r⟩ := E.sl.get hm
  have e : d = d' := Option.some.inj (hd.symm.trans h3)
  subst e
  exact ⟨v, h2, q v H (Ex.refl _) r⟩
/-- a name: lent -/
theorem pd_varB (i : Nat) {x : Str} (hm : Γ[i]? = some .b := by rfl) (hN : X.N[i]? = some x := by rfl) (hv : Vis X.env.scope x := by first | exact Or.inl rfl | exact Or.inr (Or.inl rfl) | exact Or.inr (Or.inr rfl)) (hd : (x == ("__debug__" : Str)) = false := by decide)
    (hcd : (x == ("__classdict__" : Str)) = false := by decide) : PDE X ca Γ (.Name x pos) .b (dVar i) := by
  refine ⟨_, pe_var hN hv hd hcd, fun B S0 M L σ H ρ E d hd Q q => ?_⟩
  obtain ⟨l, y, d', _, h2, h3, _, v, rfl, r⟩ := E.sl.get hm
  have e : d = d' := Option.some.inj (hd.symm.trans h3)
  subst e
  exact ⟨v, h2, q v H (Ex.refl _) r⟩
/-- a name: one's own, read -/
theorem pd_varF (i : Nat) {x : Str} (hm : Γ[i]? = some .f := by rfl) (hN : X.N[i]? = some x := by rfl) (hv : Vis X.env.scope x := by first | exact Or.inl rfl | exact Or.inr (Or.inl rfl) | exact Or.inr (Or.inr rfl)) (hd : (x == ("__debug__" : Str)) = false := by decide)
    (hcd : (x == ("__classdict__" : Str)) = false := by decide) : PDE X ca Γ (.Name x pos) .f (dVar i) := by
  refine ⟨_, pe_var hN hv hd hcd, fun B S0 M L σ H ρ E d hd Q q => ?_⟩
  obtain ⟨l, y, d', h1, h2, h3, p, hl, rfl, r⟩ := E.sl.get hm
  have e : d = d' := Option.some.inj (hd.symm.trans h3)
  subst e
  exact ⟨_, h2, q _ H (Ex.refl _) ⟨p, rfl, r, l, List.mem_of_getElem? h1, by rw [hl]; exact .head _⟩⟩
theorem pd_int {i : Int} {j} : PDE X ca Γ (.Constant (.int i) j pos) .s (dC (.int i)) := ⟨_, pe_int, de_c (.int i)⟩
theorem pd_bl {b : Bool} {j} : PDE X ca Γ (.Constant (.bool b) j pos) .s (dC (.bl b)) := ⟨_, pe_bl, de_c (.bl b)⟩
theorem pd_non {j} : PDE X ca Γ (.Constant .none j pos) .s (dC .non) := ⟨_, pe_non, de_c .non⟩
theorem pd_str {x : Str} {j} : PDE X ca Γ (.Constant (.str x) j pos) .s (dC (.str x)) := ⟨_, pe_str, de_c (.str x)⟩
/-- a module's constant -/
theorem pd_glob {x : Str} {v : V} {u : Value} {d : D} (hm : X.mg x = some u) (r : RelV v u) (hi : Im v d) (hg : Gl X x := by rfl) (hd : (x == ("__debug__" : Str)) = false := by decide) : PDE X ca Γ (.Name x pos) .s (dC d) := ⟨_, pe_glob hg hm r hd, de_c hi⟩
theorem pd_weak (h : PDE X ca Γ a ma fa) : PDE X ca Γ a .t fa := let ⟨t, p, q⟩ := h; ⟨t, p, q.weak⟩
theorem pd_new (h : PDN X ca Γ a fa) : PDE X ca Γ a .s fa := let ⟨t, p, q⟩ := h; ⟨t, p, q.de⟩
/-! operators -/
theorem pd_bin {op : Operator} {g : D → D → Option D} (h : BG X ca op g) (ha : PDE X ca Γ a ma fa) (hb : PDE X ca Γ b mb fb) : PDE X ca Γ (.BinOp a op b pos) .s (d2 g fa fb) := by
  obtain ⟨r, h1, h2⟩ := h
  obtain ⟨ta, pa, qa⟩ := ha
  obtain ⟨tb, pb, qb⟩ := hb
  exact ⟨_, pe_op h1 pa pb, qa.op qb h2⟩
theorem pd_cmp {op : CmpOp} {g : D → D → Option D} (h : OG X ca op g) (ha : PDE X ca Γ a ma fa) (hb : PDE X ca Γ b mb fb) (hm : behindInMarks op b = false := by first | exact nomark _ | rfl) : PDE X ca Γ (.Compare a [op] [b] pos) .s (d2 g fa fb) := by
  obtain ⟨r, h1, h2⟩ := h
  obtain ⟨ta, pa, qa⟩ := ha
  obtain ⟨tb, pb, qb⟩ := hb
  exact ⟨_, pe_cmpR h1 pa pb hm, qa.op qb h2⟩
theorem DE.tt {c : Ct} {t : TE} {m : Vm} {f : DFn} (h : DE c Γ t m f) : DT c Γ (tTest t) (DL.tB f) := fun B S0 M L σ H ρ E b hb Q q => by
  obtain ⟨d, e, hd⟩ := bind_some hb
  refine h B S0 M L σ H ρ E d e _ fun v H' e' r => ?_
  cases d with
  | bl k =>
    cases hd
    have r' := r.rep (E.eb.trans e')
    cases r'
    exact ⟨b, rfl, q H' e'⟩
  | _ => cases hd
theorem pdt_cmp {op : CmpOp} {g : D → D → Option D} (h : OG X ca op g) (ha : PDE X ca Γ a ma fa) (hb : PDE X ca Γ b mb fb) (hm : behindInMarks op b = false := by first | exact nomark _ | rfl) : PDT X ca Γ (.Compare a [op] [b] pos) (DL.tB (d2 g fa fb)) := by
  obtain ⟨r, h1, h2⟩ := h
  obtain ⟨ta, pa, qa⟩ := ha
  obtain ⟨tb, pb, qb⟩ := hb
  exact ⟨_, pt_cmpR h1 pa pb hm, (qa.op qb h2).tt⟩
/-- a value that is True or False, as a test -/
theorem pdt_val (ha : PDE X ca Γ a ma fa) (he : ∀ whole, isTrue a X.env whole = (do let v ← whole; standAt a.pos; holding [v] (truthy v)) := by intro _; rfl) : PDT X ca Γ a (DL.tB fa) := by
  obtain ⟨t, p, q⟩ := ha
  exact ⟨_, pt_val p he, q.tt⟩
theorem pdt_w {f : List D → Option Bool} (h : PDW X ca Γ a f) : PDT X ca Γ a f := let ⟨t, p, q⟩ := h; ⟨t, p.pt, q⟩
theorem pdw_and1 {op} {f : List D → Option Bool} (h : PDT X ca Γ a f) (ho : op = .And := by rfl) : PDW X ca Γ (.BoolOp op [a] pos) f := by
  subst ho
  obtain ⟨t, p, q⟩ := h
  exact ⟨t, pw_and1 p, q⟩
theorem pdw_or1 {op} {f : List D → Option Bool} (h : PDT X ca Γ a f) (ho : op = .Or := by rfl) : PDW X ca Γ (.BoolOp op [a] pos) f := by
  subst ho
  obtain ⟨t, p, q⟩ := h
  exact ⟨t, pw_or1 p, q⟩
variable {rest : List Expr} {f g : List D → Option Bool}
theorem pdw_and (ha : PDT X ca Γ a f) (hb : PDW X ca Γ (.BoolOp .And (b :: rest) pos) g) : PDW X ca Γ (.BoolOp .And (a :: b :: rest) pos) (tAndF f g) := by
  obtain ⟨t, p, q⟩ := ha
  obtain ⟨u, p2, q2⟩ := hb
  refine ⟨_, pw_and p p2, fun B S0 M L σ H ρ E d hd Q k => ?_⟩
  obtain ⟨x, hx, hd⟩ := bind_some hd
  refine q B S0 M L σ H ρ E x hx _ fun H1 e1 => ?_
  cases x with
  | true => exact q2 B S0 M L σ H1 ρ (E.ext e1) d hd Q fun H2 e2 => k H2 (e1.trans e2)
  | false => cases hd; exact k H1 e1
theorem pdw_or (ha : PDT X ca Γ a f) (hb : PDW X ca Γ (.BoolOp .Or (b :: rest) pos) g) : PDW X ca Γ (.BoolOp .Or (a :: b :: rest) pos) (tOrF f g) := by
  obtain ⟨t, p, q⟩ := ha
  obtain ⟨u, p2, q2⟩ := hb
  refine ⟨_, pw_or p p2, fun B S0 M L σ H ρ E d hd Q k => ?_⟩
  obtain ⟨x, hx, hd⟩ := bind_some hd
  refine q B S0 M L σ H ρ E x hx _ fun H1 e1 => ?_
  cases x with
  | false => exact q2 B S0 M L σ H1 ρ (E.ext e1) d hd Q fun H2 e2 => k H2 (e1.trans e2)
  | true => cases hd; exact k H1 e1
theorem pdt_not (ha : PDT X ca Γ a f) : PDT X ca Γ (.UnaryOp .Not a pos) (tNotF f) := by
  obtain ⟨t, p, q⟩ := ha
  refine ⟨_, pt_not p, fun B S0 M L σ H ρ E d hd Q k => ?_⟩
  obtain ⟨x, hx, hd⟩ := Option.map_eq_some_iff.mp hd
  subst hd
  exact q B S0 M L σ H ρ E x hx _ fun H1 e1 => k H1 e1
theorem DE.bl {c : Ct} {t : TE} {m : Vm} {f : DFn} (h : DE c Γ t m f) {B S0 : Hp} {M : Mz} {L : List (List Addr)} {σ : L2.St} {H : Hp} {ρ : List D} (E : EnvR c B S0 M Γ L σ H ρ) {x : Bool} (hx : DL.tB f ρ = some x) (Q : VK) (q : ∀ H', Ex H H' → Q (.bl x) H') : t σ H Q := by
  obtain ⟨d, e, hd⟩ := bind_some hx
  refine h B S0 M L σ H ρ E d e _ fun v H' e' r => ?_
  cases d with
  | bl k =>
    cases hd
    have r' := r.rep (E.eb.trans e')
    cases r'
    exact q H' e'
  | _ => cases hd
theorem pd_one {op} (h : PDE X ca Γ a ma fa) : PDE X ca Γ (.BoolOp op [a] pos) ma fa := let ⟨t, p, q⟩ := h; ⟨t, pe_one p, q⟩
theorem pd_and (ha : PDE X ca Γ a ma fa) (hb : PDE X ca Γ (.BoolOp .And (b :: rest) pos) .s fb) : PDE X ca Γ (.BoolOp .And (a :: b :: rest) pos) .s (dAnd fa fb) := by
  obtain ⟨t, p, q⟩ := ha
  obtain ⟨u, p2, q2⟩ := hb
  refine ⟨_, pe_and p p2, fun B S0 M L σ H ρ E d hd Q k => ?_⟩
  obtain ⟨x, hx, hd⟩ := bind_some hd
  refine q.bl E hx _ fun H1 e1 => ⟨x, rfl, ?_⟩
  cases x with
  | true => exact q2 B S0 M L σ H1 ρ (E.ext e1) d hd Q fun v H2 e2 => k v H2 (e1.trans e2)
  | false => cases hd; exact k _ H1 e1 (.bl _)
theorem pd_or (ha : PDE X ca Γ a ma fa) (hb : PDE X ca Γ (.BoolOp .Or (b :: rest) pos) .s fb) : PDE X ca Γ (.BoolOp .Or (a :: b :: rest) pos) .s (dOr fa fb) := by
  obtain ⟨t, p, q⟩ := ha
  obtain ⟨u, p2, q2⟩ := hb
  refine ⟨_, pe_or p p2, fun B S0 M L σ H ρ E d hd Q k => ?_⟩
  obtain ⟨x, hx, hd⟩ := bind_some hd
  refine q.bl E hx _ fun H1 e1 => ⟨x, rfl, ?_⟩
  cases x with
  | false => exact q2 B S0 M L σ H1 ρ (E.ext e1) d hd Q fun v H2 e2 => k v H2 (e1.trans e2)
  | true => cases hd; exact k _ H1 e1 (.bl _)
theorem pd_not (ha : PDE X ca Γ a ma fa) : PDE X ca Γ (.UnaryOp .Not a pos) .s (dNot fa) := by
  obtain ⟨t, p, q⟩ := ha
  refine ⟨_, pe_not p, fun B S0 M L σ H ρ E d hd Q k => ?_⟩
  obtain ⟨x, hx, hd⟩ := Option.map_eq_some_iff.mp hd
  subst hd
  exact q.bl E hx _ fun H1 e1 => ⟨x, rfl, k _ H1 e1 (.bl _)⟩
theorem pd_if {t : Expr} (ht : PDT X ca Γ t f) (ha : PDE X ca Γ a ma fa) (hb : PDE X ca Γ b ma fb) : PDE X ca Γ (.IfExp t a b pos) ma (dIf f fa fb) := by
  obtain ⟨t, p, q⟩ := ht
  obtain ⟨_, p1, q1⟩ := ha
  obtain ⟨_, p2, q2⟩ := hb
  refine ⟨_, pe_ifExp p p1 p2, fun B S0 M L σ H ρ E d hd Q k => ?_⟩
  obtain ⟨x, hx, hd⟩ := bind_some hd
  refine q B S0 M L σ H ρ E x hx _ fun H1 e1 => ?_
  cases x with
  | true => exact q1 B S0 M L σ H1 ρ (E.ext e1) d hd Q fun v H2 e2 => k v H2 (e1.trans e2)
  | false => exact q2 B S0 M L σ H1 ρ (E.ext e1) d hd Q fun v H2 e2 => k v H2 (e1.trans e2)
end

/-! ### operators by data -/
def gI (g : Int → Int → Option D) : D → D → Option D
  | .int i, .int j => g i j
  | _, _ => none
def gAdd : D → D → Option D := gI fun i j => some (.int (i + j))
def gSub : D → D → Option D := gI fun i j => some (.int (i - j))
def gMul : D → D → Option D := gI fun i j => if (-(2 ^ 64) < i ∧ i < 2 ^ 64) ∨ (-(2 ^ 64) < j ∧ j < 2 ^ 64) then some (.int (i * j)) else none
def gMod : D → D → Option D := gI fun i j => if 0 < j then some (.int (i % j)) else none
def gDiv : D → D → Option D := gI fun i j => if 0 < j ∧ j < 1073741824 then some (.int (i / j)) else none
def gPow : D → D → Option D := gI fun i j => if 0 ≤ j ∧ j ≤ 1000000 ∧ i.natAbs < 2 ^ 64 then some (.int (i ^ j.toNat)) else none
def gShl : D → D → Option D := gI fun i j => if 0 ≤ j ∧ j ≤ 1000000 ∧ i.natAbs < 2 ^ 64 then some (.int (i * 2 ^ j.toNat)) else none
def gShr : D → D → Option D := gI fun i j => if 0 ≤ j then some (.int (i / 2 ^ j.toNat)) else none
def gBand : D → D → Option D := gI fun i j => some (.int (Builtin.bitAnd i j))
def gLt : D → D → Option D := gI fun i j => some (.bl (decide (i < j)))
def gLe : D → D → Option D := gI fun i j => some (.bl (decide (i ≤ j)))
def gGt : D → D → Option D := gI fun i j => some (.bl (decide (j < i)))
def gGe : D → D → Option D := gI fun i j => some (.bl (decide (j ≤ i)))
/-- equal, as Python has it -/
def deq (a b : D) : Bool := PyData.eqv (toP a) (toP b)
def okEq (a b : D) : Bool := (toP a).plain && ((toP b).plain && decide (min (toP a).depth (toP b).depth ≤ 60))
def gEq (a b : D) : Option D := if okEq a b = true then some (.bl (deq a b)) else none
def gNe (a b : D) : Option D := if okEq a b = true then some (.bl (!deq a b)) else none
def gIn (a b : D) : Option D := (seqOf b).bind fun ds => if (toP a).plain = true ∧ PyData.plainAll (toPs ds) = true ∧ (toP a).depth ≤ 60 then some (.bl (ds.any fun z => deq z a)) else none
def gNotIn (a b : D) : Option D := (seqOf b).bind fun ds => if (toP a).plain = true ∧ PyData.plainAll (toPs ds) = true ∧ (toP a).depth ≤ 60 then some (.bl (!ds.any fun z => deq z a)) else none
def isNon : D → Bool
  | .non => true
  | _ => false
def gIsN (a b : D) : Option D := if isNon b = true then some (.bl (isNon a)) else none
def gNotN (a b : D) : Option D := if isNon b = true then some (.bl (!isNon a)) else none
theorem gI_some {g : Int → Int → Option D} {a b d : D} (h : gI g a b = some d) : ∃ i j, a = .int i ∧ b = .int j ∧ g i j = some d := by
  unfold gI at h
  split at h
  · exact ⟨_, _, rfl, rfl, h⟩
  · cases h
theorem Rep.int_inv {c : Ct} {H : Hp} {v : V} {i : Int} (h : Rep c H v (.int i)) : v = .int i := by
  cases h
  rfl
theorem ite_some {c : Prop} [Decidable c] {x : Option D} {d : D} (h : (if c then x else none) = some d) : c ∧ x = some d := by
  split at h
  · exact ⟨by assumption, h⟩
  · cases h
section
variable {X : Cx} {ca : Cl → Addr}
theorem bg_I0 {op : Operator} {g : Int → Int → V} {g' : Int → Int → D} (h : OpR X (binaryOp op) (rI0 g)) (hi : ∀ i j, Im (g i j) (g' i j)) : BG X ca op (gI fun i j => some (g' i j)) := ⟨_, h, fun H x y a b d rx ry e => by
  obtain ⟨i, j, rfl, rfl, e⟩ := gI_some e
  have ex := rx.int_inv
  have ey := ry.int_inv
  subst ex ey
  cases e
  exact ⟨_, hi i j, fun Q q => ⟨i, j, rfl, rfl, q⟩⟩⟩
theorem bg_I {op : Operator} {C : Int → Int → Prop} {C' : Int → Int → Prop} [∀ i j, Decidable (C' i j)] {g : Int → Int → V} {g' : Int → Int → D} (h : OpR X (binaryOp op) (rI C g)) (hc : ∀ i j, C' i j → C i j) (hi : ∀ i j, Im (g i j) (g' i j)) : BG X ca op (gI fun i j => if C' i j then some (g' i j) else none) := ⟨_, h, fun H x y a b d rx ry e => by
  obtain ⟨i, j, rfl, rfl, e⟩ := gI_some e
  have ex := rx.int_inv
  have ey := ry.int_inv
  subst ex ey
  obtain ⟨hcc, e⟩ := ite_some e
  cases e
  exact ⟨_, hi i j, fun Q q => ⟨i, j, rfl, rfl, hc i j hcc, q⟩⟩⟩
theorem og_I0 {op : CmpOp} {g : Int → Int → V} {g' : Int → Int → D} (h : OpR X (compareOp op) (rI0 g)) (hi : ∀ i j, Im (g i j) (g' i j)) : OG X ca op (gI fun i j => some (g' i j)) := ⟨_, h, fun H x y a b d rx ry e => by
  obtain ⟨i, j, rfl, rfl, e⟩ := gI_some e
  have ex := rx.int_inv
  have ey := ry.int_inv
  subst ex ey
  cases e
  exact ⟨_, hi i j, fun Q q => ⟨i, j, rfl, rfl, q⟩⟩⟩
theorem bg_add : BG X ca .Add gAdd := bg_I0 op_add fun _ _ => .int _
theorem bg_sub : BG X ca .Sub gSub := bg_I0 op_sub fun _ _ => .int _
theorem bg_mul : BG X ca .Mult gMul := bg_I (C' := fun i j => (-(2 ^ 64) < i ∧ i < 2 ^ 64) ∨ (-(2 ^ 64) < j ∧ j < 2 ^ 64)) op_mul (fun _ _ h => h) fun _ _ => .int _
theorem bg_mod : BG X ca .Mod gMod := bg_I (C' := fun _ j => 0 < j) op_mod (fun _ _ h => h) fun _ _ => .int _
theorem bg_div : BG X ca .FloorDiv gDiv := bg_I (C' := fun _ j => 0 < j ∧ j < 1073741824) op_fdiv (fun _ _ h => h) fun _ _ => .int _
theorem bg_pow : BG X ca .Pow gPow := bg_I (C' := fun i j => 0 ≤ j ∧ j ≤ 1000000 ∧ i.natAbs < 2 ^ 64) op_pow (fun _ _ h => h) fun _ _ => .int _
theorem bg_shl : BG X ca .LShift gShl := bg_I (C' := fun i j => 0 ≤ j ∧ j ≤ 1000000 ∧ i.natAbs < 2 ^ 64) op_shl (fun _ _ h => h) fun _ _ => .int _
theorem bg_shr : BG X ca .RShift gShr := bg_I (C' := fun _ j => 0 ≤ j) op_shr (fun _ _ h => h) fun _ _ => .int _
theorem bg_band : BG X ca .BitAnd gBand := bg_I0 op_and fun _ _ => .int _
theorem og_lt : OG X ca .Lt gLt := og_I0 op_lt fun _ _ => .bl _
theorem og_le : OG X ca .LtE gLe := og_I0 op_le fun _ _ => .bl _
theorem og_gt : OG X ca .Gt gGt := og_I0 op_gt fun _ _ => .bl _
theorem og_ge : OG X ca .GtE gGe := og_I0 op_ge fun _ _ => .bl _
def rEqR (c : Ct) : R2 := fun x y H Q => ∃ a b, Rep c H x a ∧ Rep c H y b ∧ okEq a b = true ∧ Q (.bl (deq a b)) H
def rNeR (c : Ct) : R2 := fun x y H Q => ∃ a b, Rep c H x a ∧ Rep c H y b ∧ okEq a b = true ∧ Q (.bl (!deq a b)) H
theorem okEq_inv {a b : D} (h : okEq a b = true) : (toP a).plain = true ∧ (toP b).plain = true ∧ min (toP a).depth (toP b).depth ≤ 60 := by
  unfold okEq at h
  simp only [Bool.and_eq_true, decide_eq_true_eq] at h
  exact h
theorem op_eqR (hu : X.A.units + 64 < cLine) : OpR X (compareOp .Eq) (rEqR ⟨X.K, ca⟩) := by
  intro pins s σ H x y v u Q I rx ry h
  obtain ⟨a, b, ha, hb, ok, q⟩ := h
  obtain ⟨h1, h2, h3⟩ := okEq_inv ok
  obtain ⟨as, r1⟩ := ha.reads I rfl h1 rx
  obtain ⟨bs, r2⟩ := hb.reads I rfl h2 ry
  exact SeqAt.eq_plain r1 r2 h1 h2 (by omega) ⟨.bl _, H, I, rfl, q⟩
theorem op_neR (hu : X.A.units + 64 < cLine) : OpR X (compareOp .NotEq) (rNeR ⟨X.K, ca⟩) := by
  intro pins s σ H x y v u Q I rx ry h
  obtain ⟨a, b, ha, hb, ok, q⟩ := h
  obtain ⟨h1, h2, h3⟩ := okEq_inv ok
  obtain ⟨as, r1⟩ := ha.reads I rfl h1 rx
  obtain ⟨bs, r2⟩ := hb.reads I rfl h2 ry
  exact SeqAt.ne_plain r1 r2 h1 h2 (by omega) ⟨.bl _, H, I, rfl, q⟩
theorem og_eq {k : Nat} (hr : Room k X.A) : OG X ca .Eq gEq := ⟨_, op_eqR hr.units, fun H x y a b d rx ry e => by
  obtain ⟨ok, e⟩ := ite_some e
  cases e
  exact ⟨_, .bl _, fun Q q => ⟨a, b, rx, ry, ok, q⟩⟩⟩
theorem og_ne {k : Nat} (hr : Room k X.A) : OG X ca .NotEq gNe := ⟨_, op_neR hr.units, fun H x y a b d rx ry e => by
  obtain ⟨ok, e⟩ := ite_some e
  cases e
  exact ⟨_, .bl _, fun Q q => ⟨a, b, rx, ry, ok, q⟩⟩⟩
def rInR (c : Ct) (neg : Bool) : R2 := fun x y H Q => ∃ a b ds, Rep c H x a ∧ Rep c H y b ∧ seqOf b = some ds ∧ (toP a).plain = true ∧ PyData.plainAll (toPs ds) = true ∧ (toP a).depth ≤ 60 ∧ Q (.bl (if neg = true then !(ds.any fun z => deq z a) else ds.any fun z => deq z a)) H
theorem any_toPs (a : D) : ∀ ds : List D, ((toPs ds).any fun z => PyData.eqv z (toP a)) = ds.any fun z => deq z a
  | [] => rfl
  | d :: ds => by rw [toPs, List.any_cons, List.any_cons, any_toPs a ds]; rfl
theorem seqOf_P {b : D} {ds : List D} (h : seqOf b = some ds) : toP b = .list (toPs ds) ∨ toP b = .tuple (toPs ds) := by
  cases b with
  | lst ds' => cases h; exact .inl (by rw [toP])
  | tup ds' => cases h; exact .inr (by rw [toP])
  | scr ns =>
    cases h
    left
    rw [toP, toPs_map, List.map_map]
    congr 1
  | _ => cases h
theorem op_inR (hu : X.A.units + 64 < cLine) : OpR X (compareOp .In) (rInR ⟨X.K, ca⟩ false) := by
  intro pins s σ H x y v u Q I rx ry h
  obtain ⟨a, b, ds, ha, hb, hd, h1, h2, h3, q⟩ := h
  rw [← any_toPs] at q
  obtain ⟨as, r1⟩ := ha.reads I rfl h1 rx
  rcases seqOf_P hd with e | e
  · obtain ⟨bs, r2⟩ := hb.reads I rfl (by rw [e]; simpa [PyData.plain] using h2) ry
    rw [e] at r2
    exact SeqAt.in_list_data r2 r1 h2 h1 (by omega) ⟨.bl _, H, I, rfl, q⟩
  · obtain ⟨bs, r2⟩ := hb.reads I rfl (by rw [e]; simpa [PyData.plain] using h2) ry
    rw [e] at r2
    exact SeqAt.in_tuple_data r2 r1 h2 h1 (by omega) ⟨.bl _, H, I, rfl, q⟩
theorem op_notInR (hu : X.A.units + 64 < cLine) : OpR X (compareOp .NotIn) (rInR ⟨X.K, ca⟩ true) := by
  intro pins s σ H x y v u Q I rx ry h
  obtain ⟨a, b, ds, ha, hb, hd, h1, h2, h3, q⟩ := h
  rw [← any_toPs] at q
  obtain ⟨as, r1⟩ := ha.reads I rfl h1 rx
  rcases seqOf_P hd with e | e
  · obtain ⟨bs, r2⟩ := hb.reads I rfl (by rw [e]; simpa [PyData.plain] using h2) ry
    rw [e] at r2
    exact SeqAt.notIn_list_data r2 r1 h2 h1 (by omega) ⟨.bl _, H, I, rfl, q⟩
  · obtain ⟨bs, r2⟩ := hb.reads I rfl (by rw [e]; simpa [PyData.plain] using h2) ry
    rw [e] at r2
    exact SeqAt.notIn_tuple_data r2 r1 h2 h1 (by omega) ⟨.bl _, H, I, rfl, q⟩
theorem og_in {k : Nat} (hr : Room k X.A) : OG X ca .In gIn := ⟨_, op_inR hr.units, fun H x y a b d rx ry e => by
  obtain ⟨ds, hd, e⟩ := bind_some e
  obtain ⟨⟨h1, h2, h3⟩, e⟩ := ite_some e
  cases e
  exact ⟨_, .bl _, fun Q q => ⟨a, b, ds, rx, ry, hd, h1, h2, h3, q⟩⟩⟩
theorem og_notIn {k : Nat} (hr : Room k X.A) : OG X ca .NotIn gNotIn := ⟨_, op_notInR hr.units, fun H x y a b d rx ry e => by
  obtain ⟨ds, hd, e⟩ := bind_some e
  obtain ⟨⟨h1, h2, h3⟩, e⟩ := ite_some e
  cases e
  exact ⟨_, .bl _, fun Q q => ⟨a, b, ds, rx, ry, hd, h1, h2, h3, q⟩⟩⟩
theorem isNon_rep {c : Ct} {H : Hp} {v : V} {d : D} (h : Rep c H v d) : decide (v = .non) = isNon d := by
  cases h <;> first | rfl | exact decide_eq_false (fun z => nomatch z)
theorem isNon_inv {c : Ct} {H : Hp} {v : V} {d : D} (h : Rep c H v d) (e : isNon d = true) : v = .non := by
  rw [← isNon_rep h] at e
  exact of_decide_eq_true e
theorem og_isN : OG X ca .Is gIsN := ⟨_, op_isN, fun H x y a b d rx ry e => by
  obtain ⟨h1, e⟩ := ite_some e
  cases e
  refine ⟨_, .bl _, fun Q q => ⟨isNon_inv ry h1, ?_⟩⟩
  rw [isNon_rep rx]
  exact q⟩
theorem og_notN : OG X ca .IsNot gNotN := ⟨_, op_notN, fun H x y a b d rx ry e => by
  obtain ⟨h1, e⟩ := ite_some e
  cases e
  refine ⟨_, .bl _, fun Q q => ⟨isNon_inv ry h1, ?_⟩⟩
  rw [isNon_rep rx]
  exact q⟩
end
end DL

/-! DL: displays, items, slices, fields, calls of built-ins. -/
namespace DL
open PySem PySem.Spec PyProof.Rows L2
theorem sz1000 {n : Nat} (h : n ≤ 1000) : n ≤ sizeLine := Nat.le_of_lt (small1000 h)
/-! ### argument lists, displays -/
def dNilA : List D → Option (List D) := fun _ => some []
def dConsA (f : DFn) (g : List D → Option (List D)) : List D → Option (List D) := fun ρ => (f ρ).bind fun d => (g ρ).map (d :: ·)
def dTup (g : List D → Option (List D)) : DFn := fun ρ => (g ρ).map .tup
def dLst (g : List D → Option (List D)) : DFn := fun ρ => (g ρ).map .lst
section
variable {X : Cx} {ca : Cl → Addr} {Γ : List Md} {pos : Pos} {a b : Expr} {ma mb : Vm} {fa fb : DFn} {es : List Expr} {ms : List Vm} {fs : List D → Option (List D)}
theorem pda_nil : PDA X ca Γ [] [] dNilA := ⟨_, pa_nil, fun B S0 M L σ H ρ E ds hd Q q => by cases hd; exact q [] H (Ex.refl _) .nil⟩
theorem pda_cons (ha : PDE X ca Γ a ma fa) (hr : PDA X ca Γ es ms fs) (hs : starEach (a :: es) X.env = (false, eval a X.env) :: starEach es X.env := by rfl) : PDA X ca Γ (a :: es) (ma :: ms) (dConsA fa fs) := by
  obtain ⟨t, p, q⟩ := ha
  obtain ⟨u, p2, q2⟩ := hr
  refine ⟨_, pa_cons p p2 hs, fun B S0 M L σ H ρ E ds hd Q k => ?_⟩
  obtain ⟨d, e1, hd⟩ := bind_some hd
  obtain ⟨r, e2, hd⟩ := Option.map_eq_some_iff.mp hd
  subst hd
  refine q B S0 M L σ H ρ E d e1 _ fun v H1 x1 r1 => ?_
  refine q2 B S0 M L σ H1 ρ (E.ext x1) r e2 _ fun vs H2 x2 r2 => ?_
  exact k _ H2 (x1.trans x2) (.cons (r1.mono x2) r2)
theorem VRs.len {c : Ct} {B H : Hp} {M : Mz} {L : List (List Addr)} : ∀ {ms : List Vm} {vs : List V} {ds : List D}, VRs c B M L H ms vs ds → vs.length = ms.length
  | _, _, _, .nil => rfl
  | _, _, _, .cons _ r => congrArg Nat.succ r.len
theorem all_s : ∀ {n : Nat} {m : Vm}, m ∈ List.replicate n Vm.s → m = .s := fun h => (List.mem_replicate.mp h).2
/-- items shared, out of a fresh object -/
theorem reps_upd {c : Ct} {M : Mz} {L : List (List Addr)} {H : Hp} {p : Addr} {o : HO} {xs : List V} {ds : List D} (hp : H p = none) (r : Reps c (hide (Msk M L) H) xs ds) : Reps c (hide (Msk M L) (upd H p o)) xs ds := r.mono (hide_mono (Ex.new hp))
theorem reps_updN {c : Ct} {M : Mz} {L : List (List Addr)} {H : Hp} {p : Addr} {o : HO} {xs : List V} {ds : List D} (hp : H p = none) (r : Reps c (hide (Msk M L) H) xs ds) : Reps c (hide (fun a => Msk M L a ∨ a = p) (upd H p o)) xs ds :=
  r.mono (hide_le fun a u h e => ⟨fun z => by
    rcases z with z | z
    · exact h z
    · rw [z, hp] at e
      exact (nomatch e), (upd_ne (ne_of_none e hp)).trans e⟩)
theorem pd_tup {x1} (h : PDA X ca Γ es ms fs) (hm : ms = List.replicate ms.length .s := by rfl) (hl : ms.length ≤ 1000 := by decide) : PDE X ca Γ (.Tuple es x1 pos) .s (dTup fs) := by
  obtain ⟨t, p, q⟩ := h
  refine ⟨_, pe_tup p, fun B S0 M L σ H ρ E d hd Q k => ?_⟩
  obtain ⟨ds, e1, hd⟩ := Option.map_eq_some_iff.mp hd
  subst hd
  refine q B S0 M L σ H ρ E ds e1 _ fun vs H1 x1 r => ⟨sz1000 (by rw [r.len]; exact hl), fun p hp => ?_⟩
  have E1 := E.ext x1
  exact k _ _ (x1.trans (Ex.new hp)) (.tup (hide_in (fun z => by
    rcases z with z | z
    · exact E1.noM hp z
    · exact E1.noL hp z) upd_same) (reps_upd hp (r.shared fun m hmm => all_s (hm ▸ hmm))))
theorem pd_lst (h : PDA X ca Γ es ms fs) (hm : ms = List.replicate ms.length .s := by rfl) (hl : ms.length ≤ 1000 := by decide) : PDN X ca Γ (.List es pos) (dLst fs) := by
  obtain ⟨t, p, q⟩ := h
  refine ⟨_, pe_lst p, fun B S0 M L σ H ρ E d hd Q k => ?_⟩
  obtain ⟨ds, e1, hd⟩ := Option.map_eq_some_iff.mp hd
  subst hd
  refine q B S0 M L σ H ρ E ds e1 _ fun vs H1 x1 r => ⟨sz1000 (by rw [r.len]; exact hl), fun p hp => ?_⟩
  exact k p _ (x1.trans (Ex.new hp)) (x1.free hp) (.lst upd_same (Owns.sh (reps_updN hp (r.shared fun m hmm => all_s (hm ▸ hmm)))))
theorem pd_dI : PDN X ca Γ (.Dict [] [] pos) (dC (.dI [])) := ⟨_, pe_dnewK, fun B S0 M L σ H ρ E d hd Q k p hp => by
  cases hd
  exact k p _ (Ex.new hp) hp (.dI (ks := []) (vs := []) rfl upd_same .nil)⟩
theorem pd_dT : PDN X ca Γ (.Dict [] [] pos) (dC (.dT [])) := ⟨_, pe_dnewT, fun B S0 M L σ H ρ E d hd Q k p hp => by
  cases hd
  exact k p _ (Ex.new hp) hp (.dT (ks := []) (vs := []) rfl upd_same .nil)⟩

/-! ### items -/
def gIx (a b : D) : Option D :=
  match b with
  | .int i => (seqOf a).bind fun ds => atI ds i
  | _ => none
theorem atI_reps {c : Ct} {S : Hp} {xs : List V} {ds : List D} (r : Reps c S xs ds) {i : Int} {d : D} (h : atI ds i = some d) : ∃ v, atI xs i = some v ∧ Rep c S v d := by
  unfold atI at h ⊢
  obtain ⟨j, e1, e2⟩ := bind_some h
  rw [r.length, e1]
  exact r.getD e2
theorem pd_ix (ha : PDE X ca Γ a ma fa) (hb : PDE X ca Γ b mb fb) (hs : PlainIx b := by exact fun _ _ => rfl) : PDE X ca Γ (.Subscript a b pos) ma.item (d2 gIx fa fb) := by
  obtain ⟨t, p, q⟩ := ha
  obtain ⟨u, p2, q2⟩ := hb
  refine ⟨_, pe_ix ix_seq p p2 hs, q.part q2 fun S H x y a b d e rx ry hg => ?_⟩
  unfold gIx at hg
  split at hg
  · obtain ⟨ds, h1, h2⟩ := bind_some hg
    obtain ⟨pp, xs, rfl, hq, r⟩ := seq_rep e rx h1
    obtain ⟨v, hv, rv⟩ := atI_reps r h2
    have ey := ry.int_inv
    subst ey
    refine ⟨v, rv, fun Q k => ?_⟩
    rcases hq with hq | hq
    · exact .inl ⟨pp, xs, _, v, rfl, rfl, hq, hv, k⟩
    · exact .inr (.inl ⟨pp, xs, _, v, rfl, rfl, hq, hv, k⟩)
  · cases hg

/-! ### a new list of shared items -/
/-- the items are shared: those of what is shared, or of one's own -/
theorem seq_shared {c : Ct} {B S0 H : Hp} {M : Mz} {L : List (List Addr)} {σ : L2.St} {ρ : List D} {v : V} {a : D} {ds : List D} {m : Vm} (hm : m = .s ∨ m = .f) (r : VR c m B M L H v a) (hd : seqOf a = some ds) :
    ∃ p xs, v = .ref p ∧ (SqL c.K H p xs ∨ SqT c.K H p xs) ∧ Reps c (hide (Msk M L) H) xs ds := by
  rcases hm with rfl | rfl
  · exact seq_rep hide_ex (.inl r) hd
  · obtain ⟨p, e, ho, _⟩ := r
    exact seq_rep hide_ex (.inr ⟨p, e, ho⟩) hd
mutual
/-- data without objects that may change -/
def flat : D → Bool
  | .non => true
  | .bl _ => true
  | .int _ => true
  | .str _ => true
  | .tup ds => flats ds
  | .lst _ => false
  | .scr _ => false
  | .dI _ => false
  | .dT _ => false
  | .dS _ => false
  | .obj _ _ => false
  | .cls _ => false
def flats : List D → Bool
  | [] => true
  | d :: ds => flat d && flats ds
end
mutual
theorem Rep.flat_any {c : Ct} {S S' : Hp} (ht : ∀ a xs, S a = some (.tup xs) → S' a = some (.tup xs)) : ∀ {v : V} {d : D}, Rep c S v d → flat d = true → Rep c S' v d
  | _, _, .non, _ => .non
  | _, _, .bl _, _ => .bl _
  | _, _, .int _, _ => .int _
  | _, _, .str _, _ => .str _
  | _, _, .tup h r, f => .tup (ht _ _ h) (Reps.flat_any ht r (by rw [flat] at f; exact f))
  | _, _, .lst _ _, f => by rw [flat] at f; exact nomatch f
  | _, _, .scr _, f => by rw [flat] at f; exact nomatch f
  | _, _, .dI _ _ _, f => by rw [flat] at f; exact nomatch f
  | _, _, .dT _ _ _, f => by rw [flat] at f; exact nomatch f
  | _, _, .dS _ _ _, f => by rw [flat] at f; exact nomatch f
  | _, _, .obj _ _, f => by rw [flat] at f; exact nomatch f
  | _, _, .cls _, f => by rw [flat] at f; exact nomatch f
theorem Reps.flat_any {c : Ct} {S S' : Hp} (ht : ∀ a xs, S a = some (.tup xs) → S' a = some (.tup xs)) : ∀ {vs : List V} {ds : List D}, Reps c S vs ds → flats ds = true → Reps c S' vs ds
  | _, _, .nil, _ => .nil
  | _, _, .cons h r, f => by
    rw [flats] at f
    obtain ⟨f1, f2⟩ := Bool.and_eq_true_iff.mp f
    exact .cons (Rep.flat_any ht h f1) (Reps.flat_any ht r f2)
end
theorem EnvR.tup_in {c : Ct} {B S0 H : Hp} {M : Mz} {L : List (List Addr)} {Γ : List Md} {σ : L2.St} {ρ : List D} (E : EnvR c B S0 M Γ L σ H ρ) {a : Addr} {xs : List V} (h : H a = some (.tup xs)) : hide (Msk M L) H a = some (.tup xs) :=
  hide_in (fun z => by
    rcases z with z | z
    · have q := (E.hm a z).1
      rw [h] at q
      exact q
    · have q := (E.hl a z).1
      rw [h] at q
      exact q) h
/-- flat data is shared, however it is known -/
theorem VR.flat {c : Ct} {B S0 H : Hp} {M : Mz} {L : List (List Addr)} {Γ : List Md} {σ : L2.St} {ρ : List D} {m : Vm} {v : V} {d : D} (E : EnvR c B S0 M Γ L σ H ρ) (h : VR c m B M L H v d) (hf : DL.flat d = true) : Rep c (hide (Msk M L) H) v d :=
  Rep.flat_any (fun _ _ h => E.tup_in h) (h.rep E.eb) hf
theorem Reps.flat {c : Ct} {B S0 H : Hp} {M : Mz} {L : List (List Addr)} {Γ : List Md} {σ : L2.St} {ρ : List D} {vs : List V} {ds : List D} (E : EnvR c B S0 M Γ L σ H ρ) (h : Reps c H vs ds) (hf : DL.flats ds = true) : Reps c (hide (Msk M L) H) vs ds :=
  Reps.flat_any (fun _ _ h => E.tup_in h) h hf
def dImm (f : DFn) : DFn := fun ρ => (f ρ).bind fun d => if flat d = true then some d else none
theorem pd_imm (h : PDE X ca Γ a ma fa) : PDE X ca Γ a .s (dImm fa) := by
  obtain ⟨t, p, q⟩ := h
  refine ⟨t, p, fun B S0 M L σ H ρ E d hd Q k => ?_⟩
  obtain ⟨d', e1, hd⟩ := bind_some hd
  obtain ⟨hf, hd⟩ := ite_some hd
  cases hd
  exact q B S0 M L σ H ρ E d e1 Q fun v H' e r => k v H' e (r.flat (E.ext e) hf)
/-- one's own, new, let go as shared -/
theorem pd_lent (h : PDE X ca Γ a .b fa) : PDE X ca Γ a .t fa := pd_weak h

/-! ### slices -/
def cutD (ds : List D) (lo hi : Option Int) : List D := (ds.drop (HT.sIx ds.length 0 lo)).take (HT.sIx ds.length ds.length hi - HT.sIx ds.length 0 lo)
theorem cut_reps {c : Ct} {S : Hp} {xs : List V} {ds : List D} (r : Reps c S xs ds) (lo hi : Option Int) : Reps c S (cutV xs lo hi) (cutD ds lo hi) := by
  unfold cutV cutD
  rw [r.length]
  exact (r.drop _).take _
def asI : D → Option Int
  | .int i => some i
  | _ => none
def PDO (X : Cx) (ca : Cl → Addr) (Γ : List Md) (e : Option Expr) (f : List D → Option (Option Int)) : Prop := ∃ t, PO X e t ∧
  ∀ (B S0 : Hp) (M : Mz) (L : List (List Addr)) (σ : L2.St) (H : Hp) (ρ : List D), EnvR ⟨X.K, ca⟩ B S0 M Γ L σ H ρ → ∀ o, f ρ = some o → ∀ Q : Option Int → Hp → Prop, (∀ H', Ex H H' → Q o H') → t σ H Q
def oNone : List D → Option (Option Int) := fun _ => some none
def oSome (f : DFn) : List D → Option (Option Int) := fun ρ => ((f ρ).bind asI).map some
theorem pdo_none : PDO X ca Γ none oNone := ⟨_, po_none, fun B S0 M L σ H ρ E o ho Q q => by cases ho; exact q H (Ex.refl _)⟩
theorem pdo_some (h : PDE X ca Γ a ma fa) : PDO X ca Γ (some a) (oSome fa) := by
  obtain ⟨t, p, q⟩ := h
  refine ⟨_, po_some p, fun B S0 M L σ H ρ E o ho Q k => ?_⟩
  obtain ⟨i, e1, ho⟩ := Option.map_eq_some_iff.mp ho
  subst ho
  obtain ⟨d, e2, e1⟩ := bind_some e1
  refine q B S0 M L σ H ρ E d e2 _ fun v H' e r => ?_
  cases d with
  | int j =>
    cases e1
    exact ⟨i, (r.rep (E.eb.trans e)).int_inv, k H' e⟩
  | _ => cases e1
def dCut (f : DFn) (lo hi : List D → Option (Option Int)) : DFn := fun ρ => (f ρ).bind fun a => (lo ρ).bind fun l => (hi ρ).bind fun u => match a with
  | .lst ds => some (.lst (cutD ds l u))
  | .scr ns => some (.lst (cutD (ns.map .int) l u))
  | _ => none
/-- a slice of a list whose items are shared: a new list -/
theorem pd_cut {lo hi : Option Expr} {fl fu : List D → Option (Option Int)} {p2 : Pos} (ha : PDE X ca Γ a ma fa) (hl : PDO X ca Γ lo fl) (hu : PDO X ca Γ hi fu) (hm : ma = .s ∨ ma = .f := by first | exact .inl rfl | exact .inr rfl) : PDN X ca Γ (.Subscript a (.Slice lo hi none p2) pos) (dCut fa fl fu) := by
  obtain ⟨t, p, q⟩ := ha
  obtain ⟨tl, pl, ql⟩ := hl
  obtain ⟨tu, pu, qu⟩ := hu
  refine ⟨_, pe_slice sl_list p pl pu, fun B S0 M L σ H ρ E d hd Q k => ?_⟩
  obtain ⟨a, e1, hd⟩ := bind_some hd
  obtain ⟨l, e2, hd⟩ := bind_some hd
  obtain ⟨u, e3, hd⟩ := bind_some hd
  refine q B S0 M L σ H ρ E a e1 _ fun x H1 x1 r1 => ?_
  refine ql B S0 M L σ H1 ρ (E.ext x1) l e2 _ fun H2 x2 => ?_
  refine qu B S0 M L σ H2 ρ ((E.ext x1).ext x2) u e3 _ fun H3 x3 => ?_
  have r3 := (r1.mono x2).mono x3
  have ex : Ex H H3 := (x1.trans x2).trans x3
  cases a with
  | lst ds =>
    cases hd
    obtain ⟨pp, xs, ex1, hq, r⟩ : ∃ pp xs, x = .ref pp ∧ SqL X.K H3 pp xs ∧ Reps ⟨X.K, ca⟩ (hide (Msk M L) H3) xs ds := by
      rcases hm with rfl | rfl
      · cases r3 with
        | lst h r => exact ⟨_, _, rfl, SqL.of (hide_of h).2, r⟩
      · obtain ⟨pp, rfl, ho, _⟩ := r3
        obtain ⟨xs, h, r⟩ := ho.flat_lst
        exact ⟨pp, xs, rfl, SqL.of h, r⟩
    refine ⟨pp, xs, ex1, hq, fun p' hp => ?_⟩
    exact k p' _ (ex.trans (Ex.new hp)) (ex.free hp) (.lst upd_same (Owns.sh (reps_updN hp (cut_reps r l u))))
  | scr ns =>
    cases hd
    obtain ⟨pp, ex1, hq⟩ : ∃ pp, x = .ref pp ∧ SqL X.K H3 pp (ns.map V.int) := by
      rcases hm with rfl | rfl
      · cases r3 with
        | scr h => exact ⟨_, rfl, Ex.sq (K := X.K) hide_ex h⟩
      · obtain ⟨pp, rfl, ho, _⟩ := r3
        cases ho
    refine ⟨pp, _, ex1, hq, fun p' hp => ?_⟩
    exact k p' _ (ex.trans (Ex.new hp)) (ex.free hp) (.lst upd_same (Owns.sh (reps_updN hp (cut_reps (Reps.of_ints ns) l u))))
  | _ => cases hd

/-! ### lists put together -/
def gCat (a b : D) : Option D :=
  match a, b with
  | .lst xs, .lst ys => if xs.length + ys.length ≤ 100000 then some (.lst (xs ++ ys)) else none
  | _, _ => none
theorem lst_shared {c : Ct} {B H : Hp} {M : Mz} {L : List (List Addr)} {x : V} {ds : List D} {m : Vm} (hm : m = .s ∨ m = .f) (r : VR c m B M L H x (.lst ds)) : ∃ p xs, x = .ref p ∧ H p = some (.lst xs) ∧ Reps c (hide (Msk M L) H) xs ds := by
  rcases hm with rfl | rfl
  · cases r with
    | lst h r => exact ⟨_, _, rfl, (hide_of h).2, r⟩
  · obtain ⟨p, rfl, ho, _⟩ := r
    obtain ⟨xs, h, r⟩ := ho.flat_lst
    exact ⟨p, xs, rfl, h, r⟩
theorem sz5 {n : Nat} (h : n ≤ 100000) : n ≤ sizeLine := Nat.le_trans h (by decide)
theorem pd_cat (ha : PDE X ca Γ a ma fa) (hb : PDE X ca Γ b mb fb) (hma : ma = .s ∨ ma = .f := by first | exact .inl rfl | exact .inr rfl) (hmb : mb = .s ∨ mb = .f := by first | exact .inl rfl | exact .inr rfl) : PDN X ca Γ (.BinOp a .Add b pos) (d2 gCat fa fb) := by
  obtain ⟨t, p, q⟩ := ha
  obtain ⟨u, p2, q2⟩ := hb
  refine ⟨_, pe_op op_cat p p2, fun B S0 M L σ H ρ E d hd Q k => ?_⟩
  obtain ⟨a, e1, hd⟩ := bind_some hd
  obtain ⟨b, e2, hd⟩ := bind_some hd
  refine q B S0 M L σ H ρ E a e1 _ fun x H1 x1 r1 => ?_
  refine q2 B S0 M L σ H1 ρ (E.ext x1) b e2 _ fun y H2 x2 r2 => ?_
  unfold gCat at hd
  split at hd
  · rename_i xs ys
    obtain ⟨hl, hd⟩ := ite_some hd
    cases hd
    obtain ⟨p1, us, rfl, h1, s1⟩ := lst_shared hma (r1.mono x2)
    obtain ⟨p2, ws, rfl, h2, s2⟩ := lst_shared hmb r2
    refine ⟨p1, p2, us, ws, rfl, rfl, h1, h2, sz5 (by rw [s1.length, s2.length]; exact hl), fun p' hp => ?_⟩
    have ex := x1.trans x2
    exact k p' _ (ex.trans (Ex.new hp)) (ex.free hp) (.lst upd_same (Owns.sh (reps_updN hp (s1.append s2))))
  · cases hd

/-! ### fields -/
/-- what the text says of a class of instances -/
structure ClsOk (K : PySem.W.Frag) (ca : Cl → Addr) (k : Cl) : Prop where
  cls : Cls K (ca k)
  no : ∀ f ∈ flds k, NoAttr K (ca k) f
def dFld (k : Cl) (i : Nat) (f : DFn) : DFn := fun ρ => (f ρ).bind fun d => match d with
  | .obj k' fs => if k' = k then fs[i]? else none
  | _ => none
theorem zip_lookup {f : Str} : ∀ {ns : List Str} {vs : List V} {i : Nat} {v : V}, ns.Nodup → ns[i]? = some f → vs[i]? = some v → (ns.zip vs).lookup f = some v
  | [], _, _, _, _, h, _ => by simp at h
  | _ :: _, [], _, _, _, _, h => by simp at h
  | n :: ns, w :: vs, 0, v, nd, h1, h2 => by
    simp at h1 h2
    subst h1 h2
    simp [List.lookup]
  | n :: ns, w :: vs, i + 1, v, nd, h1, h2 => by
    have h1' : ns[i]? = some f := by simpa using h1
    have ne : (f == n) = false := by
      have hm : f ∈ ns := List.mem_of_getElem? h1'
      have : n ∉ ns := (List.nodup_cons.mp nd).1
      simp only [beq_eq_false_iff_ne]
      rintro rfl
      exact this hm
    show ((n, w) :: ns.zip vs).lookup f = some v
    rw [List.lookup_cons, ne]
    exact zip_lookup (List.nodup_cons.mp nd).2 h1' (by simpa using h2)
theorem zip_lookup_none {f : Str} : ∀ {ns : List Str} {vs : List V}, f ∉ ns → (ns.zip vs).lookup f = none
  | [], _, _ => by simp
  | _ :: _, [], _ => by simp
  | n :: ns, w :: vs, h => by
    have ne : (f == n) = false := by
      simp only [beq_eq_false_iff_ne]
      rintro rfl
      exact h (.head _)
    show ((n, w) :: ns.zip vs).lookup f = none
    rw [List.lookup_cons, ne]
    exact zip_lookup_none fun z => h (.tail _ z)
theorem DE.fld {c : Ct} {ta : TE} {k : Cl} {i : Nat} {f : Str} (hk : ClsOk c.K c.ca k) (hf : (flds k)[i]? = some f) (hnd : (flds k).Nodup) (hm : ma ≠ .f) (q : DE c Γ ta ma fa) : DE c Γ (tFld c.K ta f) ma (dFld k i fa) := by
  intro B S0 M L σ H ρ E d hd Q kk
  obtain ⟨a, e1, hd2⟩ := bind_some hd
  refine q B S0 M L σ H ρ E a e1 _ fun x H1 x1 r => ?_
  cases a with
  | obj k' fs =>
    have hd3 : (if k' = k then fs[i]? else none) = some d := hd2
    obtain ⟨ek, hd4⟩ := ite_some hd3
    subst ek
    have fin : ∀ S, Ex S H1 → Rep c S x (.obj k' fs) → (∀ v, Rep c S v d → Q v H1) → ∃ a C dx gs v, x = .ref a ∧ H1 a = some (.ins C dx gs) ∧ Cls c.K C ∧ NoAttr c.K C f ∧ gs.lookup f = some v ∧ Q v H1 := fun S eS rS go => by
      cases rS with
      | obj h r =>
        obtain ⟨v, hv, rv⟩ := r.getD hd4
        exact ⟨_, _, _, _, v, rfl, eS _ _ h, hk.cls, hk.no f (List.mem_of_getElem? hf), zip_lookup hnd hf hv, go v rv⟩
    cases ma with
    | t => exact fin H1 (Ex.refl _) r fun v rv => kk v H1 x1 rv
    | b => exact fin B (E.eb.trans x1) r fun v rv => kk v H1 x1 rv
    | s => exact fin _ hide_ex r fun v rv => kk v H1 x1 rv
    | f => exact absurd rfl hm
  | _ => exact nomatch hd2
/-- o.f -/
theorem pd_fld (k : Cl) (i : Nat) {f : Str} (hk : ClsOk X.K ca k) (ha : PDE X ca Γ a ma fa) (hf : (flds k)[i]? = some f := by rfl) (hnd : (flds k).Nodup := by decide +kernel) (hm : ma ≠ .f := by intro z; cases z)
    (hb : attributeBase a f X.env (eval a X.env) = eval a X.env := by rfl) : PDE X ca Γ (.Attribute a f pos) ma (dFld k i fa) := by
  obtain ⟨t, p, q⟩ := ha
  exact ⟨_, pe_fld p hb, DE.fld (c := ⟨X.K, ca⟩) hk hf hnd hm q⟩
end

/-! ### built-ins -/
section
variable (X : Cx) (ca : Cl → Addr)
/-- a built-in's answer, an object of none -/
def CG (f : Value) (g : List D → Option D) : Prop := ∃ r, CallR X f r ∧ ∀ H xs ds d, Reps ⟨X.K, ca⟩ H xs ds → g ds = some d → ∃ v, Im v d ∧ ∀ Q : VK, Q v H → r xs H Q
/-- a built-in's answer: a new list of the items of its one argument -/
def CN (f : Value) (g : D → Option (List D)) : Prop := ∃ r, CallR X f r ∧ ∀ S H x a es, Ex S H → (Rep ⟨X.K, ca⟩ S x a ∨ ∃ p, x = .ref p ∧ Own ⟨X.K, ca⟩ S H [p] x a) → g a = some es → ∃ xs, Reps ⟨X.K, ca⟩ S xs es ∧ ∀ Q : VK, (∀ p, H p = none → Q (.ref p) (upd H p (.lst xs))) → r [x] H Q
end
def dCall (g : List D → Option D) (fs : List D → Option (List D)) : DFn := fun ρ => (fs ρ).bind g
def dCallN (g : D → Option (List D)) (f : DFn) : DFn := fun ρ => ((f ρ).bind g).map .lst
def dCallF (g : D → Option (List D)) (f : DFn) : DFn := fun ρ => ((f ρ).bind g).bind fun es => if flats es = true then some (.lst es) else none
section
variable {X : Cx} {ca : Cl → Addr} {Γ : List Md} {pos p : Pos} {a e : Expr} {ma : Vm} {fa : DFn} {es : List Expr} {ms : List Vm} {fs : List D → Option (List D)} {x : Str} {id T : String}
theorem pd_callB {g : List D → Option D} (h : CG X ca (.builtin id) g) (ha : PDA X ca Γ (e :: es) ms fs) (hm : X.mg x = none) (hv : bootBuiltins x = some (.builtin id) := by decide +kernel) (hg : Gl X x := by rfl) (hn : x ≠ "__name__" := by decide) (hdb : (x == ("__debug__" : Str)) = false := by decide)
    (he : starEach (e :: es) X.env = (false, eval e X.env) :: starEach es X.env := by rfl) (hpl : (backTo pos (starEach es X.env)).any (·.1) = false := by rfl) : PDE X ca Γ (.Call (.Name x p) (e :: es) [] pos) .s (dCall g fs) := by
  obtain ⟨r, h1, h2⟩ := h
  obtain ⟨t, pa, q⟩ := ha
  refine ⟨_, pe_callB h1 hg hm hv pa hn hdb he hpl, fun B S0 M L σ H ρ E d hd Q k => ?_⟩
  obtain ⟨ds, e1, hd⟩ := bind_some hd
  refine q B S0 M L σ H ρ E ds e1 _ fun vs H1 x1 rs => ?_
  obtain ⟨v, iv, hv'⟩ := h2 H1 vs ds d (rs.reps (E.eb.trans x1)) hd
  exact hv' Q (k v H1 x1 (iv.vr (by intro z; cases z)))
theorem pd_callTy {g : List D → Option D} (h : CG X ca (.type T) g) (ha : PDA X ca Γ (e :: es) ms fs) (hm : X.mg x = none) (hv : bootBuiltins x = some (.type T) := by decide +kernel) (hg : Gl X x := by rfl) (hn : x ≠ "__name__" := by decide) (hdb : (x == ("__debug__" : Str)) = false := by decide)
    (he : starEach (e :: es) X.env = (false, eval e X.env) :: starEach es X.env := by rfl) (hpl : (backTo pos (starEach es X.env)).any (·.1) = false := by rfl) : PDE X ca Γ (.Call (.Name x p) (e :: es) [] pos) .s (dCall g fs) := by
  obtain ⟨r, h1, h2⟩ := h
  obtain ⟨t, pa, q⟩ := ha
  refine ⟨_, pe_callTy h1 hg hm hv pa hn hdb he hpl, fun B S0 M L σ H ρ E d hd Q k => ?_⟩
  obtain ⟨ds, e1, hd⟩ := bind_some hd
  refine q B S0 M L σ H ρ E ds e1 _ fun vs H1 x1 rs => ?_
  obtain ⟨v, iv, hv'⟩ := h2 H1 vs ds d (rs.reps (E.eb.trans x1)) hd
  exact hv' Q (k v H1 x1 (iv.vr (by intro z; cases z)))
theorem DE.cn {c : Ct} {t : TE} {r : List V → Hp → VK → Prop} {g : D → Option (List D)} (q : DE c Γ t ma fa) (hma : ma = .s ∨ ma = .f)
    (h2 : ∀ S H x a es, Ex S H → (Rep c S x a ∨ ∃ p, x = .ref p ∧ Own c S H [p] x a) → g a = some es → ∃ xs, Reps c S xs es ∧ ∀ Q : VK, (∀ p, H p = none → Q (.ref p) (upd H p (.lst xs))) → r [x] H Q) : DN c Γ (tCB r (tCons t tNil)) (dCallN g fa) := fun B S0 M L σ H ρ E d hd Q k => by
  obtain ⟨es, e1, hd⟩ := Option.map_eq_some_iff.mp hd
  subst hd
  obtain ⟨a, e2, e1⟩ := bind_some e1
  refine q B S0 M L σ H ρ E a e2 _ fun v H1 x1 rv => ?_
  have rr : Rep c (hide (Msk M L) H1) v a ∨ ∃ p, v = .ref p ∧ Own c (hide (Msk M L) H1) H1 [p] v a := by
    rcases hma with rfl | rfl
    · exact .inl rv
    · obtain ⟨p, e, ho, _⟩ := rv
      exact .inr ⟨p, e, ho⟩
  obtain ⟨xs, rx, go⟩ := h2 _ H1 v a es hide_ex rr e1
  exact go Q fun p hp => k p _ (x1.trans (Ex.new hp)) (x1.free hp) (.lst upd_same (Owns.sh (reps_updN hp rx)))
/-- .. whatever the argument, its items flat -/
theorem DE.cf {c : Ct} {t : TE} {r : List V → Hp → VK → Prop} {g : D → Option (List D)} (q : DE c Γ t ma fa)
    (h2 : ∀ S H x a es, Ex S H → (Rep c S x a ∨ ∃ p, x = .ref p ∧ Own c S H [p] x a) → g a = some es → ∃ xs, Reps c S xs es ∧ ∀ Q : VK, (∀ p, H p = none → Q (.ref p) (upd H p (.lst xs))) → r [x] H Q) : DN c Γ (tCB r (tCons t tNil)) (dCallF g fa) := fun B S0 M L σ H ρ E d hd Q k => by
  obtain ⟨es, e1, hd⟩ := bind_some hd
  obtain ⟨hf, hd⟩ := ite_some hd
  cases hd
  obtain ⟨a, e2, e1⟩ := bind_some e1
  refine q B S0 M L σ H ρ E a e2 _ fun v H1 x1 rv => ?_
  obtain ⟨xs, rx, go⟩ := h2 H1 H1 v a es (Ex.refl _) (.inl (rv.rep (E.eb.trans x1))) e1
  have rx' : Reps c (hide (Msk M L) H1) xs es := Reps.flat (E.ext x1) rx hf
  exact go Q fun p hp => k p _ (x1.trans (Ex.new hp)) (x1.free hp) (.lst upd_same (Owns.sh (reps_updN hp rx')))
theorem pd_callBN {g : D → Option (List D)} (h : CN X ca (.builtin id) g) (ha : PDE X ca Γ e ma fa) (hm : X.mg x = none) (hma : ma = .s ∨ ma = .f := by first | exact .inl rfl | exact .inr rfl) (hv : bootBuiltins x = some (.builtin id) := by decide +kernel) (hg : Gl X x := by rfl) (hn : x ≠ "__name__" := by decide) (hdb : (x == ("__debug__" : Str)) = false := by decide)
    (he : starEach (e :: []) X.env = (false, eval e X.env) :: starEach [] X.env := by rfl) (hpl : (backTo pos (starEach [] X.env)).any (·.1) = false := by rfl) : PDN X ca Γ (.Call (.Name x p) (e :: []) [] pos) (dCallN g fa) := by
  obtain ⟨r, h1, h2⟩ := h
  obtain ⟨t, pa, q⟩ := ha
  exact ⟨_, pe_callB h1 hg hm hv (pa_cons pa pa_nil he) hn hdb he hpl, q.cn hma h2⟩
theorem pd_callTyN {g : D → Option (List D)} (h : CN X ca (.type T) g) (ha : PDE X ca Γ e ma fa) (hm : X.mg x = none) (hma : ma = .s ∨ ma = .f := by first | exact .inl rfl | exact .inr rfl) (hv : bootBuiltins x = some (.type T) := by decide +kernel) (hg : Gl X x := by rfl) (hn : x ≠ "__name__" := by decide) (hdb : (x == ("__debug__" : Str)) = false := by decide)
    (he : starEach (e :: []) X.env = (false, eval e X.env) :: starEach [] X.env := by rfl) (hpl : (backTo pos (starEach [] X.env)).any (·.1) = false := by rfl) : PDN X ca Γ (.Call (.Name x p) (e :: []) [] pos) (dCallN g fa) := by
  obtain ⟨r, h1, h2⟩ := h
  obtain ⟨t, pa, q⟩ := ha
  exact ⟨_, pe_callTy h1 hg hm hv (pa_cons pa pa_nil he) hn hdb he hpl, q.cn hma h2⟩
theorem pd_callBF {g : D → Option (List D)} (h : CN X ca (.builtin id) g) (ha : PDE X ca Γ e ma fa) (hm : X.mg x = none) (hv : bootBuiltins x = some (.builtin id) := by decide +kernel) (hg : Gl X x := by rfl) (hn : x ≠ "__name__" := by decide) (hdb : (x == ("__debug__" : Str)) = false := by decide)
    (he : starEach (e :: []) X.env = (false, eval e X.env) :: starEach [] X.env := by rfl) (hpl : (backTo pos (starEach [] X.env)).any (·.1) = false := by rfl) : PDN X ca Γ (.Call (.Name x p) (e :: []) [] pos) (dCallF g fa) := by
  obtain ⟨r, h1, h2⟩ := h
  obtain ⟨t, pa, q⟩ := ha
  exact ⟨_, pe_callB h1 hg hm hv (pa_cons pa pa_nil he) hn hdb he hpl, q.cf h2⟩
theorem pd_callTyF {g : D → Option (List D)} (h : CN X ca (.type T) g) (ha : PDE X ca Γ e ma fa) (hm : X.mg x = none) (hv : bootBuiltins x = some (.type T) := by decide +kernel) (hg : Gl X x := by rfl) (hn : x ≠ "__name__" := by decide) (hdb : (x == ("__debug__" : Str)) = false := by decide)
    (he : starEach (e :: []) X.env = (false, eval e X.env) :: starEach [] X.env := by rfl) (hpl : (backTo pos (starEach [] X.env)).any (·.1) = false := by rfl) : PDN X ca Γ (.Call (.Name x p) (e :: []) [] pos) (dCallF g fa) := by
  obtain ⟨r, h1, h2⟩ := h
  obtain ⟨t, pa, q⟩ := ha
  exact ⟨_, pe_callTy h1 hg hm hv (pa_cons pa pa_nil he) hn hdb he hpl, q.cf h2⟩
end
end DL

/-! DL: statements, loops, comprehensions. -/
namespace DL
open PySem PySem.Spec PyProof.Rows L2
inductive Out where
  | nx (ρ : List D) | ret (d : D) | reto (d : D) (ρ : List D) | rett (d : D) | brk (ρ : List D) | cont (ρ : List D) | exc (e : Cl) (d : D) (ρ : List D) | bad
/-- a frame's ends: does it hand back a thing of its own; the modes at a break, a continue, a raise that is caught here -/
structure Jd where
  rf : Bool
  Γb : List Md := []
  Γc : List Md := []
  Γx : Option (List Md) := none
  /-- the modes at a return, where the first parameter is changed; the shape of what is handed back -/
  Γr : Option (List Md) := none
  rh : Option Sh := none
def ResR (c : Ct) (B : Hp) (M : Mz) (rf : Bool) (H : Hp) (v : V) (d : D) : Prop :=
  if rf = true then (v = .non ∧ d = .non) ∨ ∃ p, v = .ref p ∧ B p = none ∧ ¬ M p ∧ Own c (hide (fun a => M a ∨ a = p) H) H [p] v d else Rep c (hide M H) v d
/-- .. behind a frame that still stands -/
def ResL (c : Ct) (M : Mz) (L : List (List Addr)) (rf : Bool) (B H : Hp) (v : V) (d : D) : Prop :=
  if rf = true then (v = .non ∧ d = .non) ∨ ∃ p, v = .ref p ∧ B p = none ∧ ¬ Msk M L p ∧ Own c (hide (fun a => Msk M L a ∨ a = p) H) H [p] v d else Rep c (hide (Msk M L) H) v d
/-- .. of shape h, all its own -/
def ResH (c : Ct) (B : Hp) (M : Mz) (h : Sh) (H : Hp) (v : V) (d : D) : Prop :=
  (v = .non ∧ d = .non) ∨ ∃ l, l.Nodup ∧ (∀ a ∈ l, B a = none ∧ ¬ M a) ∧ OwnT c (hide (fun a => M a ∨ a ∈ l) H) H h l v d
def Post (c : Ct) (B S0 : Hp) (M : Mz) (J : Jd) (W : WX) (Γ' : List Md) (N : Ends) : Out → Prop
  | .nx ρ => ∀ L σ H, EnvR c B S0 M Γ' L σ H ρ → N.nx σ H
  | .ret d => ∀ v H, Ex B H → ResR c B M J.rf H v d → N.rt v H
  | .reto d ρ => match J.Γr with
    | some Γr => ∀ v L σ H, EnvR c B S0 M Γr L σ H ρ → ResL c M L J.rf B H v d → N.rt v H
    | none => False
  | .rett d => match J.rh with
    | some h => ∀ v H, Ex B H → ResH c B M h H v d → N.rt v H
    | none => False
  | .brk ρ => ∀ L σ H, EnvR c B S0 M J.Γb L σ H ρ → N.bk σ H
  | .cont ρ => ∀ L σ H, EnvR c B S0 M J.Γc L σ H ρ → N.ct σ H
  | .exc e d ρ => ∀ dx v L σ H, Ex B H → H dx = some (.xd [("at", v)]) → B dx = none → Rep c (hide (Msk M L) H) v d → (∀ Γx, J.Γx = some Γx → EnvR c B S0 M Γx L σ H ρ) → W (.ref (c.ca e)) (some dx) σ H
  | .bad => False
abbrev SFn := List D → Out
def DS (c : Ct) (W : WX) (J : Jd) (Γ : List Md) (t : TS) (Γ' : List Md) (F : SFn) : Prop :=
  ∀ (B S0 : Hp) (M : Mz) (L : List (List Addr)) (σ : L2.St) (H : Hp) (ρ : List D) (N : Ends), EnvR c B S0 M Γ L σ H ρ → Post c B S0 M J W Γ' N (F ρ) → t N σ H
def PDS (X : Cx) (ca : Cl → Addr) (W : WX) (J : Jd) (Γ : List Md) (st : Stmt) (Γ' : List Md) (F : SFn) : Prop := ∃ t, PS X st t ∧ DS ⟨X.K, ca⟩ W J Γ t Γ' F
def PDSs (X : Cx) (ca : Cl → Addr) (W : WX) (J : Jd) (Γ : List Md) (st : List Stmt) (Γ' : List Md) (F : SFn) : Prop := ∃ t, PSs X st t ∧ DS ⟨X.K, ca⟩ W J Γ t Γ' F

def dSeq (F G : SFn) : SFn := fun ρ => match F ρ with
  | .nx ρ' => G ρ'
  | o => o
def dNext : SFn := .nx
def dAsg (i : Nat) (f : DFn) : SFn := fun ρ => match f ρ with
  | some d => .nx (ρ.set i d)
  | none => .bad
def dRet (f : DFn) : SFn := fun ρ => match f ρ with
  | some d => .ret d
  | none => .bad
def dIfS (t : List D → Option Bool) (F G : SFn) : SFn := fun ρ => match t ρ with
  | some true => F ρ
  | some false => G ρ
  | none => .bad
def dDrop (f : DFn) : SFn := fun ρ => match f ρ with
  | some _ => .nx ρ
  | none => .bad

/-! ### weaker modes -/
def wk : Md → Md → Bool
  | _, .n => true
  | .s, .s => true
  | .b, .b => true
  | .f, .f => true
  | .o h p, .o h' p' => decide (h = h') && (p || !p')
  | .f, .s => true
  | .x, .x => true
  | _, _ => false
def wks : List Md → List Md → Bool
  | [], [] => true
  | m :: ms, m' :: ms' => wk m m' && wks ms ms'
  | _, _ => false
section
variable {c : Ct} {B S0 H H' : Hp} {M : Mz} {Γ Γ' : List Md} {L : List (List Addr)} {σ : L2.St} {ρ : List D}
theorem EnvR.weak (h : wks Γ Γ' = true) (E : EnvR c B S0 M Γ L σ H ρ) : ∃ L', (∀ a, In L' a → In L a) ∧ EnvR c B S0 M Γ' L' σ H ρ := by
  -- which lists go on
  have pick : ∀ {Γ Γ' : List Md} {L : List (List Addr)} {σ : L2.St} {ρ : List D} {S : Hp}, wks Γ Γ' = true → Slots c B M.z S H Γ L σ ρ → ∃ L', (∀ a, In L' a → In L a) ∧ (Apart L → Apart L') ∧
      ∀ S', Ex S S' → (∀ a o, In L a → ¬ In L' a → H a = some o → S' a = some o) → Apart L → Slots c B M.z S' H Γ' L' σ ρ := by
    intro Γ
    induction Γ with
    | nil =>
      intro Γ' L σ ρ S h s
      cases s
      cases Γ' with
      | nil => exact ⟨[], fun _ h => h, fun h => h, fun _ _ _ _ => .nil⟩
      | cons _ _ => exact nomatch h
    | cons m Γ ih =>
      intro Γ' L σ ρ S h s
      cases s with
      | @cons _ _ l L x σ d ρ s1 s2 =>
        cases Γ' with
        | nil => exact nomatch h
        | cons m' Γ' =>
          obtain ⟨h1, h2⟩ := Bool.and_eq_true_iff.mp (show (wk m m' && wks Γ Γ') = true from h)
          obtain ⟨L', i1, i2, i3⟩ := ih h2 s2
          have go : ∀ l', (∀ a ∈ l', a ∈ l) → (∀ S', Ex S S' → (∀ a o, a ∈ l → a ∉ l' → H a = some o → S' a = some o) → SlotR c B M.z S' H m' l' x d) → ∃ L'', (∀ a, In L'' a → In (l :: L) a) ∧ (Apart (l :: L) → Apart L'') ∧
              ∀ S', Ex S S' → (∀ a o, In (l :: L) a → ¬ In L'' a → H a = some o → S' a = some o) → Apart (l :: L) → Slots c B M.z S' H (m' :: Γ') L'' (x :: σ) (d :: ρ) := fun l' hl hs => by
            refine ⟨l' :: L', fun a ha => ?_, fun ap => ⟨fun a ha hi => ap.1 a (hl a ha) (i1 a hi), i2 ap.2⟩, fun S' e k ap => .cons (hs S' e fun a o ha hn ho => k a o (.head ha) (fun z => ?_) ho) (i3 S' e (fun a o ha hn ho => k a o ha.cons (fun z => ?_) ho) ap.2)⟩
            · rcases ha.inv with z | z
              · exact .head (hl a z)
              · exact (i1 a z).cons
            · rcases z.inv with z | z
              · exact hn z
              · exact ap.1 a ha (i1 a z)
            · rcases z.inv with z | z
              · exact ap.1 a (hl a z) ha
              · exact hn z
          cases m' with
          | n => exact go [] (fun a h => by cases h) fun S' e k => rfl
          | b =>
            cases m with
            | b => exact go l (fun a h => h) fun S' e k => s1
            | n => exact nomatch h1
            | s => exact nomatch h1
            | f => exact nomatch h1
            | o => exact nomatch h1
            | x => exact nomatch h1
            | e => exact nomatch h1
          | s =>
            cases m with
            | s => exact go l (fun a h => h) fun S' e k => s1.mono e fun a _ o h => h
            | f =>
              obtain ⟨p, e1, e2, ho⟩ := s1
              subst e1
              exact go [] (fun a h => by cases h) fun S' e k => ⟨rfl, _, e2, ho.rep e fun a ha o hh => k a o ha (fun z => by cases z) hh⟩
            | n => exact nomatch h1
            | b => exact nomatch h1
            | o => exact nomatch h1
            | x => exact nomatch h1
            | e => exact nomatch h1
          | f =>
            cases m with
            | f => exact go l (fun a h => h) fun S' e k => s1.mono e fun a _ o h => h
            | n => exact nomatch h1
            | b => exact nomatch h1
            | s => exact nomatch h1
            | o => exact nomatch h1
            | x => exact nomatch h1
            | e => exact nomatch h1
          | o =>
            cases m with
            | o h0 p0 =>
              have h1' : (decide (h0 = _) && (p0 || !_)) = true := h1
              obtain ⟨g1, g2⟩ := Bool.and_eq_true_iff.mp h1'
              have eh := of_decide_eq_true g1
              subst eh
              obtain ⟨nd, v, e1, hp, r⟩ := s1
              exact go l (fun a h => h) fun S' e k => ⟨nd, v, e1, fun hq => hp (by cases p0 with | true => rfl | false => rw [hq] at g2; exact nomatch g2), r.mono e fun a _ o h => h⟩
            | n => exact nomatch h1
            | b => exact nomatch h1
            | s => exact nomatch h1
            | f => exact nomatch h1
            | x => exact nomatch h1
            | e => exact nomatch h1
          | x =>
            cases m with
            | x => exact go l (fun a h => h) fun S' e k => s1.mono e fun a _ o h => h
            | n => exact nomatch h1
            | b => exact nomatch h1
            | s => exact nomatch h1
            | f => exact nomatch h1
            | o => exact nomatch h1
            | e => exact nomatch h1
          | e =>
            cases m <;> exact nomatch h1
  obtain ⟨L', i1, i2, i3⟩ := pick h E.sl
  have hh : Ex (hide (Msk M L) H) (hide (Msk M L') H) := hide_le fun a o hm ho => ⟨fun z => hm (by
    rcases z with z | z
    · exact .inl z
    · exact .inr (i1 a z)), ho⟩
  refine ⟨L', i1, E.eb, fun a h => ⟨(E.hm a h).1, fun z => (E.hm a h).2 (i1 a z)⟩, E.es.trans hh, i2 E.ap, fun a ha => E.hl a (i1 a ha), i3 _ hh (fun a o ha hn ho => hide_in (fun z => ?_) ho) E.ap⟩
  rcases z with z | z
  · exact (E.hm a z).2 ha
  · exact hn z
end
section
variable {X : Cx} {ca : Cl → Addr} {W : WX} {J : Jd} {Γ Γ1 Γ2 Γ' : List Md} {st : Stmt} {sts rest : List Stmt} {F G : SFn}
theorem DS.after {c : Ct} {t : TS} (h : DS c W J Γ t Γ1 F) (hw : wks Γ1 Γ' = true) : DS c W J Γ t Γ' F := fun B S0 M L σ H ρ N E p => h B S0 M L σ H ρ N E (by
  cases e : F ρ with
  | nx ρ' =>
    rw [e] at p
    intro L σ H E'
    obtain ⟨L', _, E''⟩ := E'.weak hw
    exact p L' σ H E''
  | _ => rw [e] at p; exact p)
theorem DS.ahead {c : Ct} {t : TS} (h : DS c W J Γ1 t Γ' F) (hw : wks Γ Γ1 = true) : DS c W J Γ t Γ' F := fun B S0 M L σ H ρ N E p => by
  obtain ⟨L', _, E'⟩ := E.weak hw
  exact h B S0 M L' σ H ρ N E' p
theorem pdss_after (h : PDSs X ca W J Γ sts Γ1 F) (hw : wks Γ1 Γ' = true := by first | decide | rfl) : PDSs X ca W J Γ sts Γ' F := let ⟨t, p, q⟩ := h; ⟨t, p, q.after hw⟩
theorem pdss_ahead (h : PDSs X ca W J Γ1 sts Γ' F) (hw : wks Γ Γ1 = true := by first | decide | rfl) : PDSs X ca W J Γ sts Γ' F := let ⟨t, p, q⟩ := h; ⟨t, p, q.ahead hw⟩
theorem pds_after (h : PDS X ca W J Γ st Γ1 F) (hw : wks Γ1 Γ' = true := by first | decide | rfl) : PDS X ca W J Γ st Γ' F := let ⟨t, p, q⟩ := h; ⟨t, p, q.after hw⟩
theorem pds_ahead (h : PDS X ca W J Γ1 st Γ' F) (hw : wks Γ Γ1 = true := by first | decide | rfl) : PDS X ca W J Γ st Γ' F := let ⟨t, p, q⟩ := h; ⟨t, p, q.ahead hw⟩

theorem pdss_nil : PDSs X ca W J Γ [] Γ dNext := ⟨_, pss_nil, fun B S0 M L σ H ρ N E p => p L σ H E⟩
theorem pdss_cons (h1 : PDS X ca W J Γ st Γ1 F) (h2 : PDSs X ca W J Γ1 rest Γ' G) : PDSs X ca W J Γ (st :: rest) Γ' (dSeq F G) := by
  obtain ⟨t, p1, q1⟩ := h1
  obtain ⟨u, p2, q2⟩ := h2
  refine ⟨_, pss_cons p1 p2, fun B S0 M L σ H ρ N E p => ?_⟩
  refine q1 B S0 M L σ H ρ _ E ?_
  unfold dSeq at p
  cases e : F ρ with
  | nx ρ' =>
    rw [e] at p
    intro L' σ' H' E'
    exact q2 B S0 M L' σ' H' ρ' N E' p
  | _ => rw [e] at p; exact p
theorem pdss_one (h1 : PDS X ca W J Γ st Γ' F) : PDSs X ca W J Γ [st] Γ' F := let ⟨t, p, q⟩ := h1; ⟨t, pss_one p, q⟩
theorem pds_pass {pos : Pos} : PDS X ca W J Γ (.Pass pos) Γ dNext := ⟨_, ps_pass, fun B S0 M L σ H ρ N E p => p L σ H E⟩
theorem pds_doc {x : Str} {j pos pos'} : PDS X ca W J Γ (.Expr (.Constant (.str x) j pos) pos') Γ dNext := ⟨_, ps_doc, fun B S0 M L σ H ρ N E p => p L σ H E⟩
/-- code that the proof never comes to -/
theorem pdss_never : PDSs X ca W J Γ sts Γ' (fun _ => .bad) := ⟨_, pss_never, fun B S0 M L σ H ρ N E p => p.elim⟩
theorem pds_brk {pos : Pos} (h : J.Γb = Γ := by rfl) : PDS X ca W J Γ (.Break pos) Γ' .brk := ⟨_, ps_break, fun B S0 M L σ H ρ N E p => p L σ H (h ▸ E)⟩
theorem pds_cont {pos : Pos} (h : J.Γc = Γ := by rfl) : PDS X ca W J Γ (.Continue pos) Γ' .cont := ⟨_, ps_continue, fun B S0 M L σ H ρ N E p => p L σ H (h ▸ E)⟩
variable {e : Expr} {f : DFn} {m : Vm} {pos pos' : Pos} {x : Str}
theorem set_s {c : Ct} {B S0 H H' : Hp} {M : Mz} {L : List (List Addr)} {σ : L2.St} {ρ : List D} {v : V} {d : D} (E : EnvR c B S0 M Γ L σ H ρ) (e : Ex H H') (i : Nat) (r : Rep c (hide (Msk M L) H') v d) :
    EnvR c B S0 M (Γ.set i .s) (L.set i []) (σ.set i (some v)) H' (ρ.set i d) := E.put0 e i ⟨rfl, v, rfl, r.mono hide_set0⟩
theorem set_b {c : Ct} {B S0 H H' : Hp} {M : Mz} {L : List (List Addr)} {σ : L2.St} {ρ : List D} {v : V} {d : D} (E : EnvR c B S0 M Γ L σ H ρ) (e : Ex H H') (i : Nat) (r : Rep c B v d) :
    EnvR c B S0 M (Γ.set i .b) (L.set i []) (σ.set i (some v)) H' (ρ.set i d) := E.put0 e i ⟨rfl, v, rfl, r⟩
theorem hide_setp {M : Mz} {L : List (List Addr)} {H : Hp} {i : Nat} {p : Addr} : Ex (hide (fun a => Msk M L a ∨ a = p) H) (hide (Msk M (L.set i [p])) H) := hide_le fun a o h q => ⟨fun z => h (by
  rcases z with z | z
  · exact .inl (.inl z)
  · rcases z.set with z | z
    · exact .inl (.inr z)
    · exact .inr (by simpa using z)), q⟩
theorem set_f {c : Ct} {B S0 H H' : Hp} {M : Mz} {L : List (List Addr)} {σ : L2.St} {ρ : List D} {p : Addr} {d : D} (E : EnvR c B S0 M Γ L σ H ρ) (e : Ex H H') (i : Nat) (hn : H p = none) (r : Own c (hide (fun a => Msk M L a ∨ a = p) H') H' [p] (.ref p) d) :
    EnvR c B S0 M (Γ.set i .f) (L.set i [p]) (σ.set i (some (.ref p))) H' (ρ.set i d) :=
  E.put e i (fun a ha => by have e : a = p := by simpa using ha
                            subst e; exact hn) (fun a ha => r.there a ha) ⟨p, rfl, rfl, r.mono hide_setp fun _ _ _ h => h⟩
theorem DE.set {c : Ct} {t : TE} (q : DE c Γ t .s f) (i : Nat) : DS c W J Γ (tAsg t (gName i)) (Γ.set i .s) (dAsg i f) := fun B S0 M L σ H ρ N E p => by
  unfold dAsg at p
  cases hd : f ρ with
  | none => rw [hd] at p; exact p.elim
  | some d =>
    rw [hd] at p
    exact q B S0 M L σ H ρ E d hd _ fun v H' e r => p _ _ _ (set_s E e i r)
theorem DE.setb {c : Ct} {t : TE} (q : DE c Γ t .b f) (i : Nat) : DS c W J Γ (tAsg t (gName i)) (Γ.set i .b) (dAsg i f) := fun B S0 M L σ H ρ N E p => by
  unfold dAsg at p
  cases hd : f ρ with
  | none => rw [hd] at p; exact p.elim
  | some d =>
    rw [hd] at p
    exact q B S0 M L σ H ρ E d hd _ fun v H' e r => p _ _ _ (set_b E e i r)
theorem DN.set {c : Ct} {t : TE} (q : DN c Γ t f) (i : Nat) : DS c W J Γ (tAsg t (gName i)) (Γ.set i .f) (dAsg i f) := fun B S0 M L σ H ρ N E p => by
  unfold dAsg at p
  cases hd : f ρ with
  | none => rw [hd] at p; exact p.elim
  | some d =>
    rw [hd] at p
    exact q B S0 M L σ H ρ E d hd _ fun a H' e hn r => p _ _ _ (set_f E e i hn r)
/-- x = e -/
theorem pds_set (i : Nat) (he : PDE X ca Γ e .s f) (hN : X.N.Nodup) (hi : X.N[i]? = some x := by rfl) (hx : Loc X.env.scope x := by first | exact Or.inl rfl | exact Or.inr rfl) (hs : swapsWith e (some (.Name x pos')) pos.line X.env = pure false := by rfl) (hf : X.fn x = true ∨ X.env.scope.names.lookup x = some .local := by first | exact .inl rfl | exact .inr rfl) :
    PDS X ca W J Γ (.Assign [.Name x pos'] e pos) (Γ.set i .s) (dAsg i f) := let ⟨t, p, q⟩ := he; ⟨_, ps_set hN hi hx p hs hf, q.set i⟩
theorem pds_setb (i : Nat) (he : PDE X ca Γ e .b f) (hN : X.N.Nodup) (hi : X.N[i]? = some x := by rfl) (hx : Loc X.env.scope x := by first | exact Or.inl rfl | exact Or.inr rfl) (hs : swapsWith e (some (.Name x pos')) pos.line X.env = pure false := by rfl) (hf : X.fn x = true ∨ X.env.scope.names.lookup x = some .local := by first | exact .inl rfl | exact .inr rfl) :
    PDS X ca W J Γ (.Assign [.Name x pos'] e pos) (Γ.set i .b) (dAsg i f) := let ⟨t, p, q⟩ := he; ⟨_, ps_set hN hi hx p hs hf, q.setb i⟩
theorem pds_setn (i : Nat) (he : PDN X ca Γ e f) (hN : X.N.Nodup) (hi : X.N[i]? = some x := by rfl) (hx : Loc X.env.scope x := by first | exact Or.inl rfl | exact Or.inr rfl) (hs : swapsWith e (some (.Name x pos')) pos.line X.env = pure false := by rfl) (hf : X.fn x = true ∨ X.env.scope.names.lookup x = some .local := by first | exact .inl rfl | exact .inr rfl) :
    PDS X ca W J Γ (.Assign [.Name x pos'] e pos) (Γ.set i .f) (dAsg i f) := let ⟨t, p, q⟩ := he; ⟨_, ps_set hN hi hx p hs hf, q.set i⟩
/-! return -/
theorem res_s {c : Ct} {B H : Hp} {M : Mz} {L : List (List Addr)} {v : V} {d : D} (r : Rep c (hide (Msk M L) H) v d) : Rep c (hide M H) v d := r.mono (hide_le fun a o h q => ⟨fun z => h (.inl z), q⟩)
theorem pds_ret (he : PDE X ca Γ e .s f) (hr : J.rf = false := by rfl) : PDS X ca W J Γ (.Return (some e) pos) Γ' (dRet f) := by
  obtain ⟨t, p, q⟩ := he
  refine ⟨_, ps_ret p, fun B S0 M L σ H ρ N E pp => ?_⟩
  unfold dRet at pp
  cases hd : f ρ with
  | none => rw [hd] at pp; exact pp.elim
  | some d =>
    rw [hd] at pp
    exact q B S0 M L σ H ρ E d hd _ fun v H' e r => pp v H' (E.eb.trans e) (by unfold ResR; rw [hr]; exact res_s (B := B) r)
theorem pds_retn (he : PDN X ca Γ e f) (hr : J.rf = true := by rfl) : PDS X ca W J Γ (.Return (some e) pos) Γ' (dRet f) := by
  obtain ⟨t, p, q⟩ := he
  refine ⟨_, ps_ret p, fun B S0 M L σ H ρ N E pp => ?_⟩
  unfold dRet at pp
  cases hd : f ρ with
  | none => rw [hd] at pp; exact pp.elim
  | some d =>
    rw [hd] at pp
    exact q B S0 M L σ H ρ E d hd _ fun a H' e hn r => pp _ H' (E.eb.trans e) (by
      unfold ResR
      rw [hr]
      exact .inr ⟨a, rfl, E.eb.free hn, E.noM hn, r.mono (hide_le fun b o h q => ⟨fun z => h (by
        rcases z with z | z
        · exact .inl (.inl z)
        · exact .inr z), q⟩) fun _ _ _ h => h⟩)
/-- return None, where a new list would be handed back -/
theorem pds_ret0 {j pc} (hr : J.rf = true := by rfl) : PDS X ca W J Γ (.Return (some (.Constant .none j pc)) pos) Γ' (dRet (dC .non)) := by
  refine ⟨_, ps_ret pe_non, fun B S0 M L σ H ρ N E pp => ?_⟩
  exact pp .non H E.eb (by
    unfold ResR
    rw [hr]
    exact .inl ⟨rfl, rfl⟩)
/-- return x, x one's own -/
theorem pds_retf (he : PDE X ca Γ e .f f) (hr : J.rf = true := by rfl) : PDS X ca W J Γ (.Return (some e) pos) Γ' (dRet f) := by
  obtain ⟨t, p, q⟩ := he
  refine ⟨_, ps_ret p, fun B S0 M L σ H ρ N E pp => ?_⟩
  unfold dRet at pp
  cases hd : f ρ with
  | none => rw [hd] at pp; exact pp.elim
  | some d =>
    rw [hd] at pp
    refine q B S0 M L σ H ρ E d hd _ fun v H' e r => pp v H' (E.eb.trans e) ?_
    unfold ResR
    rw [hr]
    obtain ⟨a, rfl, ho, hi⟩ := r
    have hB := (E.hl a hi).2
    exact .inr ⟨a, rfl, hB, fun z => (E.hm a z).2 hi, ho.mono (hide_le fun b o h q => ⟨fun z => h (by
        rcases z with z | z
        · exact .inl z
        · rw [z]; exact .inr hi), q⟩) fun _ _ _ h => h⟩
end
end DL

/-! DL: if, loops, comprehensions. -/
namespace DL
open PySem PySem.Spec PyProof.Rows L2
section
variable {X : Cx} {ca : Cl → Addr} {W : WX} {J : Jd} {Γ Γ1 Γ2 Γ' : List Md} {st : Stmt} {sts rest : List Stmt} {F G : SFn} {e : Expr} {f : DFn} {m : Vm} {pos pos' : Pos} {x : Str}
theorem pds_if {c : Expr} {a b : List Stmt} {tf : List D → Option Bool} (ht : PDT X ca Γ c tf) (ha : PDSs X ca W J Γ a Γ' F) (hb : PDSs X ca W J Γ b Γ' G) : PDS X ca W J Γ (.If c a b pos) Γ' (dIfS tf F G) := by
  obtain ⟨t, p, q⟩ := ht
  obtain ⟨ta, p1, q1⟩ := ha
  obtain ⟨tb, p2, q2⟩ := hb
  refine ⟨_, ps_if p p1 p2, fun B S0 M L σ H ρ N E pp => ?_⟩
  unfold dIfS at pp
  cases hd : tf ρ with
  | none => rw [hd] at pp; exact pp.elim
  | some d =>
    rw [hd] at pp
    refine q B S0 M L σ H ρ E d hd _ fun H1 x1 => ?_
    cases d with
    | true => exact q1 B S0 M L σ H1 ρ N (E.ext x1) pp
    | false => exact q2 B S0 M L σ H1 ρ N (E.ext x1) pp
theorem pds_expr (he : PDE X ca Γ e m f) (hs : swapsWith e none pos.line X.env = pure false := by rfl) : PDS X ca W J Γ (.Expr e pos) Γ (dDrop f) := by
  obtain ⟨t, p, q⟩ := he
  refine ⟨_, ps_expr p hs, fun B S0 M L σ H ρ N E pp => ?_⟩
  unfold dDrop at pp
  cases hd : f ρ with
  | none => rw [hd] at pp; exact pp.elim
  | some d =>
    rw [hd] at pp
    exact q B S0 M L σ H ρ E d hd _ fun v H1 x1 _ => pp L σ H1 (E.ext x1)

/-! ### targets -/
def md : Bool → Md
  | true => .s
  | false => .b
def vm : Bool → Vm
  | true => .s
  | false => .b
/-- only the slots is are stored -/
def Only (is : List Nat) (σ σ' : L2.St) : Prop := σ'.length = σ.length ∧ ∀ k, k ∉ is → σ'[k]? = σ[k]?
theorem Only.trans {is js : List Nat} {σ σ1 σ2 : L2.St} (a : Only is σ σ1) (b : Only js σ1 σ2) : Only (is ++ js) σ σ2 :=
  ⟨b.1.trans a.1, fun k hk => (b.2 k fun h => hk (List.mem_append_right _ h)).trans (a.2 k fun h => hk (List.mem_append_left _ h))⟩
theorem Only.one (σ : L2.St) (i : Nat) (v : Option V) : Only [i] σ (σ.set i v) := ⟨List.length_set, fun k hk => List.getElem?_set_ne fun z => hk (by simp [z])⟩
/-- a target: what it does to the modes, to the data -/
def DG (c : Ct) (sh : Bool) (Γ : List Md) (g : TG) (Γ' : List Md) (is : List Nat) (u : D → List D → Option (List D)) : Prop :=
  ∀ (B S0 : Hp) (M : Mz) (L : List (List Addr)) (σ : L2.St) (H : Hp) (ρ : List D), EnvR c B S0 M Γ L σ H ρ → ∀ v d ρ', VR c (vm sh) B M L H v d → u d ρ = some ρ' → ∀ Q : L2.St → Hp → Prop, (∀ σ', Only is σ σ' → EnvR c B S0 M Γ' L σ' H ρ' → Q σ' H) → g v σ H Q
def DGs (c : Ct) (sh : Bool) (Γ : List Md) (g : TGs) (Γ' : List Md) (is : List Nat) (u : List D → List D → Option (List D)) : Prop :=
  ∀ (B S0 : Hp) (M : Mz) (L : List (List Addr)) (σ : L2.St) (H : Hp) (ρ : List D), EnvR c B S0 M Γ L σ H ρ → ∀ vs ds ρ', (if sh = true then Reps c (hide (Msk M L) H) vs ds else Reps c B vs ds) → u ds ρ = some ρ' → ∀ Q : L2.St → Hp → Prop, (∀ σ', Only is σ σ' → EnvR c B S0 M Γ' L σ' H ρ' → Q σ' H) → g vs σ H Q
def PDG (X : Cx) (ca : Cl → Addr) (sh : Bool) (Γ : List Md) (tg : Expr) (Γ' : List Md) (is : List Nat) (u : D → List D → Option (List D)) : Prop := ∃ g, PG X tg g ∧ DG ⟨X.K, ca⟩ sh Γ g Γ' is u
def PDGs (X : Cx) (ca : Cl → Addr) (sh : Bool) (Γ : List Md) (tgs : List Expr) (Γ' : List Md) (is : List Nat) (u : List D → List D → Option (List D)) : Prop := ∃ g, PGs X tgs g ∧ DGs ⟨X.K, ca⟩ sh Γ g Γ' is u
def uName (i : Nat) : D → List D → Option (List D) := fun d ρ => some (ρ.set i d)
def uNil : List D → List D → Option (List D) := fun ds ρ => match ds with
  | [] => some ρ
  | _ => none
def uCons (u : D → List D → Option (List D)) (w : List D → List D → Option (List D)) : List D → List D → Option (List D) := fun ds ρ => match ds with
  | d :: ds => (u d ρ).bind (w ds)
  | [] => none
def uTup (u : List D → List D → Option (List D)) : D → List D → Option (List D) := fun d ρ => match d with
  | .tup ds => u ds ρ
  | _ => none
variable {sh : Bool} {is js : List Nat}
/-- the slots hold nothing of one's own -/
def okW (Γ : List Md) (vs : List Nat) : Bool := vs.all fun i => match Γ[i]? with
  | some .f => false
  | some .x => false
  | some (.o _ _) => false
  | some (.e _ _ _) => false
  | _ => true
theorem okW_one {c : Ct} {B S0 H : Hp} {M : Mz} {L : List (List Addr)} {σ : L2.St} {ρ : List D} (E : EnvR c B S0 M Γ L σ H ρ) {i : Nat} (h : okW Γ [i] = true) : L.set i [] = L := by
  cases hg : Γ[i]? with
  | none => exact List.set_eq_of_length_le (by rw [E.sl.len.1]; exact List.getElem?_eq_none_iff.mp hg)
  | some m =>
    obtain ⟨l, x, d, h1, _, _, h4⟩ := E.sl.get hg
    have h' : (match Γ[i]? with | some .f => false | some .x => false | some (.o _ _) => false | some (.e _ _ _) => false | _ => true) = true := by
      unfold okW at h
      rw [List.all_cons, List.all_nil, Bool.and_true] at h
      exact h
    rw [hg] at h'
    have el : l = [] := by
      cases m with
      | n => exact h4
      | b => exact h4.1
      | s => exact h4.1
      | f => exact nomatch h'
      | x => exact nomatch h'
      | o => exact nomatch h'
      | e => exact nomatch h'
    subst el
    exact list_set_self h1
theorem pdg_name (i : Nat) (hN : X.N.Nodup) (hw : okW Γ [i] = true := by decide) (hi : X.N[i]? = some x := by rfl) (hx : Loc X.env.scope x := by first | exact Or.inl rfl | exact Or.inr rfl) (hf : X.fn x = true ∨ X.env.scope.names.lookup x = some .local := by first | exact .inl rfl | exact .inr rfl) : PDG X ca sh Γ (.Name x pos) (Γ.set i (md sh)) [i] (uName i) :=
  ⟨_, pg_name hN hi hx hf, fun B S0 M L σ H ρ E v d ρ' r hu Q q => by
    cases hu
    have eL := okW_one E hw
    cases sh with
    | true =>
      have E' := set_s E (Ex.refl _) i r
      rw [eL] at E'
      exact q _ (Only.one _ _ _) E'
    | false =>
      have E' := set_b E (Ex.refl _) i r
      rw [eL] at E'
      exact q _ (Only.one _ _ _) E'⟩
theorem pdgs_nil : PDGs X ca sh Γ [] Γ [] uNil := ⟨_, pgs_nil, fun B S0 M L σ H ρ E vs ds ρ' r hu Q q => by
  cases ds with
  | nil =>
    cases hu
    have e : vs = [] := by
      cases sh with
      | true =>
        have r' : Reps ⟨X.K, ca⟩ (hide (Msk M L) H) vs [] := r
        cases r'; rfl
      | false =>
        have r' : Reps ⟨X.K, ca⟩ B vs [] := r
        cases r'; rfl
    exact ⟨e, q _ ⟨rfl, fun _ _ => rfl⟩ E⟩
  | cons _ _ => cases hu⟩
theorem pdgs_cons {tg : Expr} {tgs : List Expr} {u : D → List D → Option (List D)} {w : List D → List D → Option (List D)} (h1 : PDG X ca sh Γ tg Γ1 is u) (h2 : PDGs X ca sh Γ1 tgs Γ' js w)
    (hs : (assignEach (tg :: tgs) X.env).map (·.2) = assign tg X.env :: (assignEach tgs X.env).map (·.2) := by rfl) : PDGs X ca sh Γ (tg :: tgs) Γ' (is ++ js) (uCons u w) := by
  obtain ⟨g1, p1, q1⟩ := h1
  obtain ⟨g2, p2, q2⟩ := h2
  refine ⟨_, pgs_cons p1 p2 hs, fun B S0 M L σ H ρ E vs ds ρ' r hu Q q => ?_⟩
  cases ds with
  | nil => cases hu
  | cons d ds =>
    obtain ⟨ρ1, e1, e2⟩ := bind_some hu
    cases sh with
    | true =>
      have r' : Reps ⟨X.K, ca⟩ (hide (Msk M L) H) vs (d :: ds) := r
      cases r' with
      | cons r1 r2 => exact ⟨_, _, rfl, q1 B S0 M L σ H ρ E _ d ρ1 r1 e1 _ fun σ' on E' => q2 B S0 M L σ' H ρ1 E' _ ds ρ' r2 e2 Q fun σ2 on2 E2 => q σ2 (on.trans on2) E2⟩
    | false =>
      have r' : Reps ⟨X.K, ca⟩ B vs (d :: ds) := r
      cases r' with
      | cons r1 r2 => exact ⟨_, _, rfl, q1 B S0 M L σ H ρ E _ d ρ1 r1 e1 _ fun σ' on E' => q2 B S0 M L σ' H ρ1 E' _ ds ρ' r2 e2 Q fun σ2 on2 E2 => q σ2 (on.trans on2) E2⟩
/-- how many targets a list of data must have -/
def uLen (n : Nat) (u : List D → List D → Option (List D)) : Prop := ∀ ds ρ ρ', u ds ρ = some ρ' → ds.length = n
theorem uLen.nil : uLen 0 uNil := fun ds ρ ρ' h => by
  cases ds with
  | nil => rfl
  | cons _ _ => cases h
theorem uLen.cons {n : Nat} {u : D → List D → Option (List D)} {w : List D → List D → Option (List D)} (h : uLen n w) : uLen (n + 1) (uCons u w) := fun ds ρ ρ' e => by
  cases ds with
  | nil => cases e
  | cons d ds =>
    obtain ⟨ρ1, e1, e2⟩ := bind_some e
    exact congrArg Nat.succ (h ds ρ1 ρ' e2)
theorem pdg_tup {es : List Expr} {k n : Nat} {u : List D → List D → Option (List D)} (h : PDGs X ca sh Γ es Γ' is u) (hl : uLen n u := by first | exact uLen.nil.cons.cons | exact uLen.nil.cons.cons.cons | exact uLen.nil.cons.cons.cons.cons | exact uLen.nil.cons.cons.cons.cons.cons | exact uLen.nil.cons.cons.cons.cons.cons.cons) (hc : X.calm = true := by rfl) (hn : (assignEach es X.env).length = n := by rfl) (hst : (assignEach es X.env).findIdx? (·.1) = none := by rfl) : PDG X ca sh Γ (.Tuple es k pos) Γ' is (uTup u) := by
  obtain ⟨g, p, q⟩ := h
  refine ⟨_, pg_tup hc p hn hst, fun B S0 M L σ H ρ E v d ρ' r hu Q k => ?_⟩
  cases d with
  | tup ds =>
    have hu' : u ds ρ = some ρ' := hu
    have hln := hl ds ρ ρ' hu'
    cases sh with
    | true =>
      cases r with
      | tup h r => exact ⟨_, _, rfl, SqT.of (hide_of h).2, by rw [r.length]; exact hln, q B S0 M L σ H ρ E _ ds ρ' r hu' Q k⟩
    | false =>
      cases r with
      | tup h r => exact ⟨_, _, rfl, SqT.of (E.eb _ _ h), by rw [r.length]; exact hln, q B S0 M L σ H ρ E _ ds ρ' r hu' Q k⟩
  | _ => cases hu

/-! ### what a loop walks -/
/-- the items ds, each known in S as long as S stands -/
def Walks (c : Ct) (S : Hp) (J : It) (ds : List D) : Prop := ∃ (n : Nat) (G : Hp → Prop) (Y : Nat → Hp → V → Hp → Prop), n = ds.length ∧ Walk J n G Y ∧ (∀ H, Ex S H → G H) ∧ ∀ i H v H', i < n → Ex S H → Y i H v H' → H' = H ∧ ∃ d, ds[i]? = some d ∧ Rep c S v d
/-- an iterable whose items are shared (sh) or lent -/
def PDI (X : Cx) (ca : Cl → Addr) (sh : Bool) (Γ : List Md) (tg iter : Expr) (f : List D → Option (List D)) : Prop := ∃ wi, PI X tg iter wi ∧
  ∀ (B S0 : Hp) (M : Mz) (L : List (List Addr)) (σ : L2.St) (H : Hp) (ρ : List D), EnvR ⟨X.K, ca⟩ B S0 M Γ L σ H ρ → ∀ ds, f ρ = some ds → ∀ R : It → Hp → Prop,
    (∀ J H', Ex H H' → Walks ⟨X.K, ca⟩ (if sh = true then hide (Msk M L) H' else B) J ds → R J H') → wi σ H R
theorem walks_list {c : Ct} {S : Hp} {a : Addr} {xs : List V} {ds : List D} (h : ∀ H, Ex S H → SqL c.K H a xs) (r : Reps c S xs ds) : Walks c S (Itl c.K a) ds :=
  ⟨xs.length, _, _, r.length, walk_list (K := c.K) (a := a) (xs := xs), h, fun i H v H' _ _ y => ⟨y.1, r.get y.2⟩⟩
theorem walks_tup {c : Ct} {S : Hp} {a : Addr} {xs : List V} {ds : List D} (h : ∀ H, Ex S H → SqT c.K H a xs) (r : Reps c S xs ds) : Walks c S (Itt c.K a) ds :=
  ⟨xs.length, _, _, r.length, walk_tup (K := c.K) (a := a) (xs := xs), h, fun i H v H' _ _ y => ⟨y.1, r.get y.2⟩⟩
def lstOf : D → Option (List D)
  | .lst ds => some ds
  | .scr ns => some (ns.map .int)
  | _ => none
def tupOf : D → Option (List D)
  | .tup ds => some ds
  | _ => none
def iLst (f : DFn) : List D → Option (List D) := fun ρ => (f ρ).bind lstOf
def iTupD (f : DFn) : List D → Option (List D) := fun ρ => (f ρ).bind tupOf
def iRev (f : DFn) : List D → Option (List D) := fun ρ => ((f ρ).bind lstOf).map List.reverse
theorem lst_in {c : Ct} {S : Hp} {v : V} {a : D} {ds : List D} (r : Rep c S v a) (h : lstOf a = some ds) : ∃ p xs, v = .ref p ∧ (∀ H, Ex S H → SqL c.K H p xs) ∧ Reps c S xs ds := by
  cases r with
  | lst h' r => cases h; exact ⟨_, _, rfl, fun H e => SqL.of (e _ _ h'), r⟩
  | scr h' => cases h; exact ⟨_, _, rfl, fun H e => e.sq h', Reps.of_ints _⟩
  | _ => cases h
theorem pdi_list {tg l : Expr} (hl : PDE X ca Γ l (vm sh) f) : PDI X ca sh Γ tg l (iLst f) := by
  obtain ⟨t, p, q⟩ := hl
  refine ⟨_, pi_list p, fun B S0 M L σ H ρ E ds hd R k => ?_⟩
  obtain ⟨a, e1, e2⟩ := bind_some hd
  refine q B S0 M L σ H ρ E a e1 _ fun v H1 x1 r => ?_
  cases sh with
  | true =>
    obtain ⟨p', xs, rfl, hs, rs⟩ := lst_in r e2
    exact ⟨p', rfl, ⟨xs, hs H1 hide_ex⟩, k _ H1 x1 (walks_list (c := ⟨X.K, ca⟩) hs rs)⟩
  | false =>
    obtain ⟨p', xs, rfl, hs, rs⟩ := lst_in r e2
    exact ⟨p', rfl, ⟨xs, hs H1 (E.eb.trans x1)⟩, k _ H1 x1 (walks_list (c := ⟨X.K, ca⟩) hs rs)⟩
theorem tup_in {c : Ct} {S : Hp} {v : V} {a : D} {ds : List D} (r : Rep c S v a) (h : tupOf a = some ds) : ∃ p xs, v = .ref p ∧ (∀ H, Ex S H → SqT c.K H p xs) ∧ Reps c S xs ds := by
  cases r with
  | tup h' r => cases h; exact ⟨_, _, rfl, fun H e => SqT.of (e _ _ h'), r⟩
  | _ => cases h
theorem pdi_tup {tg l : Expr} (hl : PDE X ca Γ l (vm sh) f) : PDI X ca sh Γ tg l (iTupD f) := by
  obtain ⟨t, p, q⟩ := hl
  refine ⟨_, pi_tup p, fun B S0 M L σ H ρ E ds hd R k => ?_⟩
  obtain ⟨a, e1, e2⟩ := bind_some hd
  refine q B S0 M L σ H ρ E a e1 _ fun v H1 x1 r => ?_
  cases sh with
  | true =>
    obtain ⟨p', xs, rfl, hs, rs⟩ := tup_in r e2
    exact ⟨p', rfl, ⟨xs, hs H1 hide_ex⟩, k _ H1 x1 (walks_tup (c := ⟨X.K, ca⟩) hs rs)⟩
  | false =>
    obtain ⟨p', xs, rfl, hs, rs⟩ := tup_in r e2
    exact ⟨p', rfl, ⟨xs, hs H1 (E.eb.trans x1)⟩, k _ H1 x1 (walks_tup (c := ⟨X.K, ca⟩) hs rs)⟩
/-- range -/
def rng (lo : Int) (n : Nat) : List D := (List.range n).map fun (k : Nat) => .int (lo + k)
def iRange1 (f : DFn) : List D → Option (List D) := fun ρ => (f ρ).bind fun d => match d with
  | .int j => if -(2 ^ 62) ≤ j ∧ j < 2 ^ 62 then some (rng 0 j.toNat) else none
  | _ => none
def iRange2 (f g : DFn) : List D → Option (List D) := fun ρ => (f ρ).bind fun d => (g ρ).bind fun d' => match d, d' with
  | .int i, .int j => if -(2 ^ 62) ≤ i ∧ i < 2 ^ 62 ∧ -(2 ^ 62) ≤ j ∧ j < 2 ^ 62 then some (rng i (j - i).toNat) else none
  | _, _ => none
theorem walks_range {c : Ct} {S : Hp} {lo : Int} {n : Nat} : Walks c S (Itr lo n) (rng lo n) := by
  refine ⟨n, _, _, by simp [rng], walk_range (lo := lo) (n := n), fun _ _ => True.intro, fun i H v H' hi _ y => ?_⟩
  obtain ⟨y1, rfl⟩ := y
  exact ⟨y1, .int (lo + i), by simp [rng, hi], .int _⟩
variable {a b : Expr} {ma mb : Vm} {fa fb : DFn} {p : Pos}
theorem ite_some' {α : Type} {c : Prop} [Decidable c] {x : Option α} {d : α} (h : (if c then x else none) = some d) : c ∧ x = some d := by
  split at h
  · exact ⟨by assumption, h⟩
  · cases h
theorem pdi_range1 {tg : Expr} (ha : PDE X ca Γ a ma fa) (hm : X.mg "range" = none) (hg : Gl X "range" := by rfl) (hs : starEach [a] X.env = [(false, eval a X.env)] := by rfl) : PDI X ca sh Γ tg (.Call (.Name "range" p) [a] [] pos) (iRange1 fa) := by
  obtain ⟨t, pa, q⟩ := ha
  refine ⟨_, pi_range1 hg hm (pa_cons pa pa_nil hs) hs, fun B S0 M L σ H ρ E ds hd R k => ?_⟩
  obtain ⟨d, e1, e2⟩ := bind_some hd
  cases d with
  | int j =>
    obtain ⟨⟨h1, h2⟩, e3⟩ := ite_some' (show (if -(2 ^ 62) ≤ j ∧ j < 2 ^ 62 then some (rng 0 j.toNat) else none) = some ds from e2)
    cases e3
    refine q B S0 M L σ H ρ E _ e1 _ fun v H1 x1 r => ?_
    have ev := (r.rep (E.eb.trans x1)).int_inv
    subst ev
    exact ⟨j, rfl, h1, h2, k _ H1 x1 walks_range⟩
  | _ => cases e2
theorem pdi_range2 {tg : Expr} (ha : PDE X ca Γ a ma fa) (hb : PDE X ca Γ b mb fb) (hm : X.mg "range" = none) (hg : Gl X "range" := by rfl) (hs : starEach [a, b] X.env = [(false, eval a X.env), (false, eval b X.env)] := by rfl) (hs2 : starEach [b] X.env = [(false, eval b X.env)] := by rfl) : PDI X ca sh Γ tg (.Call (.Name "range" p) [a, b] [] pos) (iRange2 fa fb) := by
  obtain ⟨t, pa, q⟩ := ha
  obtain ⟨u, pb, q2⟩ := hb
  refine ⟨_, pi_range2 hg hm (pa_cons pa (pa_cons pb pa_nil hs2) (by rw [hs, hs2])) hs hs2, fun B S0 M L σ H ρ E ds hd R k => ?_⟩
  obtain ⟨d, e1, hd⟩ := bind_some hd
  obtain ⟨d', e2, hd⟩ := bind_some hd
  cases d with
  | int i =>
    cases d' with
    | int j =>
      obtain ⟨hh, e3⟩ := ite_some' (show (if -(2 ^ 62) ≤ i ∧ i < 2 ^ 62 ∧ -(2 ^ 62) ≤ j ∧ j < 2 ^ 62 then some (rng i (j - i).toNat) else none) = some ds from hd)
      cases e3
      refine q B S0 M L σ H ρ E _ e1 _ fun v H1 x1 r => ?_
      refine q2 B S0 M L σ H1 ρ (E.ext x1) _ e2 _ fun w H2 x2 r2 => ?_
      have ev := (r.rep (E.eb.trans x1)).int_inv
      have ew := (r2.rep ((E.eb.trans x1).trans x2)).int_inv
      subst ev ew
      exact ⟨i, j, rfl, hh, k _ H2 (x1.trans x2) walks_range⟩
    | _ => cases hd
  | _ => cases hd
theorem pdi_rev {tg l : Expr} (hl : PDE X ca Γ l (vm sh) f) (hm : X.mg "reversed" = none) (hg : Gl X "reversed" := by rfl) (hs : starEach [l] X.env = [(false, eval l X.env)] := by rfl) : PDI X ca sh Γ tg (.Call (.Name "reversed" p) [l] [] pos) (iRev f) := by
  obtain ⟨t, pl, q⟩ := hl
  refine ⟨_, pi_reversed hg hm (pa_cons pl pa_nil hs) hs, fun B S0 M L σ H ρ E ds hd R k => ?_⟩
  obtain ⟨ds0, e1, hd⟩ := Option.map_eq_some_iff.mp hd
  subst hd
  obtain ⟨a, e2, e1⟩ := bind_some e1
  have fin : ∀ {S : Hp} {p' : Addr} {xs : List V}, (∀ H, Ex S H → SqL X.K H p' xs) → Reps ⟨X.K, ca⟩ S xs ds0 → Walks ⟨X.K, ca⟩ S (Itv X.K p' xs.length) ds0.reverse := fun {S p' xs} hs rs =>
    ⟨xs.length, _, _, by rw [List.length_reverse]; exact rs.length, walk_rev (K := X.K) (a := p') (xs := xs), hs, fun i H v H' hi _ y => by
      refine ⟨y.1, ?_⟩
      obtain ⟨d, h1, h2⟩ := rs.get y.2
      refine ⟨d, ?_, h2⟩
      rw [List.getElem?_reverse (by rw [← rs.length]; exact hi), ← rs.length]
      exact h1⟩
  refine q B S0 M L σ H ρ E a e2 _ fun v H1 x1 r => ?_
  cases sh with
  | true =>
    obtain ⟨p', xs, rfl, hs, rs⟩ := lst_in r e1
    exact ⟨p', xs, rfl, hs H1 hide_ex, k _ H1 x1 (fin hs rs)⟩
  | false =>
    obtain ⟨p', xs, rfl, hs, rs⟩ := lst_in r e1
    exact ⟨p', xs, rfl, hs H1 (E.eb.trans x1), k _ H1 x1 (fin hs rs)⟩

/-! ### for -/
def forD (u : D → List D → Option (List D)) (F : SFn) : List D → SFn
  | [], ρ => .nx ρ
  | d :: ds, ρ => match u d ρ with
    | none => .bad
    | some ρ1 => match F ρ1 with
      | .nx ρ' => forD u F ds ρ'
      | .cont ρ' => forD u F ds ρ'
      | .brk ρ' => .nx ρ'
      | o => o
def dFor (f : List D → Option (List D)) (u : D → List D → Option (List D)) (F : SFn) : SFn := fun ρ => match f ρ with
  | some ds => forD u F ds ρ
  | none => .bad
/-- the end of a body within a loop, over more that is shared -/
theorem Post.turn {c : Ct} {B S0 S1 : Hp} {M : Mz} {N : Ends} {P : L2.St → Hp → Prop} {o : Out} (eS : Ex S0 S1) {K : List D → Out}
    (h : Post c B S0 M J W Γ N (match o with | .nx ρ' => K ρ' | .cont ρ' => K ρ' | .brk ρ' => .nx ρ' | o => o))
    (hP : ∀ ρ' L σ H, EnvR c B S1 M Γ L σ H ρ' → Post c B S0 M J W Γ N (K ρ') → P σ H) : Post c B S1 M { J with Γb := Γ, Γc := Γ } W Γ { N with nx := P, ct := P, bk := N.nx } o := by
  cases o with
  | nx ρ' => exact fun L σ H E => hP ρ' L σ H E h
  | cont ρ' => exact fun L σ H E => hP ρ' L σ H E h
  | brk ρ' => exact fun L σ H E => h L σ H (E.base eS)
  | ret d => exact h
  | reto d ρ' =>
    have h' : (match J.Γr with | some Γr => ∀ v L σ H, EnvR c B S0 M Γr L σ H ρ' → ResL c M L J.rf B H v d → N.rt v H | none => False) := h
    show (match J.Γr with | some Γr => ∀ v L σ H, EnvR c B S1 M Γr L σ H ρ' → ResL c M L J.rf B H v d → N.rt v H | none => False)
    cases q : J.Γr with
    | none => rw [q] at h'; exact h'
    | some Γr => rw [q] at h'; exact fun v L σ H E => h' v L σ H (E.base eS)
  | rett d => exact h
  | exc e d ρ' => exact fun dx v L σ H h1 h2 h3 h4 h5 => h dx v L σ H h1 h2 h3 h4 fun Γx hx => (h5 Γx hx).base eS
  | bad => exact h
theorem pds_for {tg iter : Expr} {body : List Stmt} {fi : List D → Option (List D)} {u : D → List D → Option (List D)} (hp : PassesOwn (model X.prog X.w) X.A X.env X.xe) (hi : PDI X ca sh Γ tg iter fi) (hg : PDG X ca sh Γ tg Γ1 is u)
    (hb : PDSs X ca W { J with Γb := Γ, Γc := Γ } Γ1 body Γ F) (hc : X.calm = true := by rfl) (hs : ∀ x, foldedSetIterable iter X.env x = pure x := by intro _; rfl) : PDS X ca W J Γ (.For tg iter body [] pos) Γ (dFor fi u F) := by
  obtain ⟨wi, p1, q1⟩ := hi
  obtain ⟨g, p2, q2⟩ := hg
  obtain ⟨tb, p3, q3⟩ := hb
  refine ⟨_, ps_for hp hc p1 p2 p3 hs, fun B S0 M L σ H ρ N E pp => ?_⟩
  unfold dFor at pp
  cases hd : fi ρ with
  | none => rw [hd] at pp; exact pp.elim
  | some ds =>
    rw [hd] at pp
    refine q1 B S0 M L σ H ρ E ds hd _ fun Jt H1 x1 ⟨n, G, Y, hn, wk, hG, hY⟩ => ?_
    have E1 := E.ext x1
    have main : ∀ (S1 : Hp), Ex S0 S1 → Ex S1 (hide (Msk M L) H1) → (∀ H, Ex S1 H → Ex B H → Ex (if sh = true then hide (Msk M L) H1 else B) H) → (sh = true → Ex (hide (Msk M L) H1) S1) → tFor (fun σ H R => R Jt H) g tb N σ H1 := fun S1 hS01 hS1 hSB hSh => by
      refine for_it (D := N) (n := n) wk (fun i σ H => ∃ L ρ', EnvR ⟨X.K, ca⟩ B S1 M Γ L σ H ρ' ∧ Post ⟨X.K, ca⟩ B S0 M J W Γ N (forD u F (ds.drop i) ρ')) ⟨L, ρ, ⟨E1.eb, E1.hm, hS1, E1.ap, E1.hl, E1.sl⟩, pp⟩ (fun i σ H _ ⟨L, ρ', E, _⟩ => hG H (hSB H (E.es.trans hide_ex) E.eb)) ?_ ?_
      · rintro i v σ H' H'' hi ⟨L', ρ', E', post⟩ y
        obtain ⟨rfl, d, h1, h2⟩ := hY i H' v H'' hi (hSB H' (E'.es.trans hide_ex) E'.eb) y
        have hdr : ds.drop i = d :: ds.drop (i + 1) := by
          obtain ⟨hlt, e⟩ := List.getElem?_eq_some_iff.mp h1
          rw [List.drop_eq_getElem_cons hlt, e]
        rw [hdr, forD] at post
        cases hu : u d ρ' with
        | none => rw [hu] at post; exact post.elim
        | some ρ1 =>
          rw [hu] at post
          have rv : VR ⟨X.K, ca⟩ (vm sh) B M L' H'' v d := by
            cases sh with
            | true => exact h2.mono ((hSh rfl).trans E'.es)
            | false => exact h2
          refine q2 B S1 M L' σ H'' ρ' E' v d ρ1 rv hu _ fun σ2 _ E2 => ?_
          exact q3 B S1 M L' σ2 H'' ρ1 _ E2 (Post.turn hS01 post fun ρ2 L3 σ3 H3 E3 p3 => ⟨L3, ρ2, E3, p3⟩)
      · rintro σ H' ⟨L', ρ', E', post⟩
        rw [hn, List.drop_length, forD] at post
        exact post L' σ H' (E'.base hS01)
    cases sh with
    | true => exact main (hide (Msk M L) H1) E1.es (Ex.refl _) (fun H h _ => h) fun _ => Ex.refl _
    | false => exact main S0 (Ex.refl _) E1.es (fun H _ h => h) fun z => nomatch z
/-! ### while, in at most n turns -/
def whileD (t : List D → Option Bool) (F : SFn) : Nat → SFn
  | 0, _ => .bad
  | n + 1, ρ => match t ρ with
    | none => .bad
    | some false => .nx ρ
    | some true => match F ρ with
      | .nx ρ' => whileD t F n ρ'
      | .cont ρ' => whileD t F n ρ'
      | .brk ρ' => .nx ρ'
      | o => o
theorem pds_while {c : Expr} {body : List Stmt} {t : List D → Option Bool} (n : Nat) (hp : PassesOwn (model X.prog X.w) X.A X.env X.xe) (hc : PDT X ca Γ c t) (hb : PDSs X ca W { J with Γb := Γ, Γc := Γ } Γ body Γ F) : PDS X ca W J Γ (.While c body [] pos) Γ (whileD t F n) := by
  obtain ⟨tc, p1, q1⟩ := hc
  obtain ⟨tb, p2, q2⟩ := hb
  refine ⟨_, ps_while hp p1 p2, fun B S0 M L σ H ρ N E pp => ?_⟩
  refine ⟨fun m σ H => ∃ L ρ', EnvR ⟨X.K, ca⟩ B S0 M Γ L σ H ρ' ∧ Post ⟨X.K, ca⟩ B S0 M J W Γ N (whileD t F m ρ'), ⟨n, L, ρ, E, pp⟩, ?_⟩
  rintro m σ H ⟨L, ρ, E, pp⟩
  cases m with
  | zero => exact pp.elim
  | succ m =>
    rw [whileD] at pp
    cases ht : t ρ with
    | none => rw [ht] at pp; exact pp.elim
    | some b =>
      rw [ht] at pp
      refine q1 B S0 M L σ H ρ E b ht _ fun H1 x1 => ?_
      cases b with
      | false =>
        refine iteF ?_
        exact pp L σ H1 (E.ext x1)
      | true =>
        refine iteT ?_
        refine ⟨fun σ' H' => ∃ L ρ', EnvR ⟨X.K, ca⟩ B S0 M Γ L σ' H' ρ' ∧ Post ⟨X.K, ca⟩ B S0 M J W Γ N (whileD t F m ρ'), fun σ' H' h => ⟨m, Nat.lt_succ_self _, h⟩, ?_⟩
        exact q2 B S0 M L σ H1 ρ _ (E.ext x1) (Post.turn (Ex.refl _) pp fun ρ2 L3 σ3 H3 E3 p3 => ⟨L3, ρ2, E3, p3⟩)
end
end DL

/-! DL: comprehensions, lists that grow. -/
namespace DL
open PySem PySem.Spec PyProof.Rows L2
/-! ### one reading for all blocks -/
/-- the reading that a rule for expressions stands for -/
def rdE (c : Ct) (Γ : List Md) (m : Vm) (f : DFn) : TE := fun σ H Q => ∃ (B S0 : Hp) (M : Mz) (L : List (List Addr)) (ρ : List D) (d : D), EnvR c B S0 M Γ L σ H ρ ∧ f ρ = some d ∧ ∀ v H', Ex H H' → VR c m B M L H' v d → Q v H'
def rdT (c : Ct) (Γ : List Md) (f : List D → Option Bool) : TT := fun σ H Q => ∃ (B S0 : Hp) (M : Mz) (L : List (List Addr)) (ρ : List D) (b : Bool), EnvR c B S0 M Γ L σ H ρ ∧ f ρ = some b ∧ ∀ H', Ex H H' → Q b H'
def rdG (c : Ct) (sh : Bool) (Γ Γ' : List Md) (is : List Nat) (u : D → List D → Option (List D)) : TG := fun v σ H Q => ∃ (B S0 : Hp) (M : Mz) (L : List (List Addr)) (ρ : List D) (d : D) (ρ' : List D), EnvR c B S0 M Γ L σ H ρ ∧ VR c (vm sh) B M L H v d ∧ u d ρ = some ρ' ∧
  ∀ σ', Only is σ σ' → EnvR c B S0 M Γ' L σ' H ρ' → Q σ' H
section
variable {X : Cx} {ca : Cl → Addr} {Γ Γ' : List Md} {e : Expr} {m : Vm} {f : DFn}
theorem PDE.rd (h : PDE X ca Γ e m f) : PE X e (rdE ⟨X.K, ca⟩ Γ m f) := by
  obtain ⟨t, p, q⟩ := h
  exact ⟨fun pins s σ H Q I ⟨B, S0, M, L, ρ, d, E, hd, k⟩ => p.run pins s σ H Q I (q B S0 M L σ H ρ E d hd Q k)⟩
theorem PDT.rd {f : List D → Option Bool} (h : PDT X ca Γ e f) : PT X e (rdT ⟨X.K, ca⟩ Γ f) := by
  obtain ⟨t, p, q⟩ := h
  exact ⟨fun pins s σ H Q I ⟨B, S0, M, L, ρ, d, E, hd, k⟩ => p.run pins s σ H Q I (q B S0 M L σ H ρ E d hd Q k)⟩
theorem PDG.rd {sh : Bool} {is : List Nat} {u : D → List D → Option (List D)} (h : PDG X ca sh Γ e Γ' is u) : PG X e (rdG ⟨X.K, ca⟩ sh Γ Γ' is u) := by
  obtain ⟨t, p, q⟩ := h
  exact ⟨fun pins s σ H v w Q I r ⟨B, S0, M, L, ρ, d, ρ', E, rv, hu, k⟩ => p.run pins s σ H v w Q I r (q B S0 M L σ H ρ E v d ρ' rv hu Q k)⟩
end
/-! ### the block's own slots forgotten -/
def wipeM (Γ : List Md) : List Nat → List Md
  | [] => Γ
  | v :: vs => (wipeM Γ vs).set v .n
section
variable {c : Ct} {B S0 H H' : Hp} {M : Mz} {Γ Γ' : List Md} {L : List (List Addr)} {σ : L2.St} {ρ : List D}
theorem wipeM_get (Γ : List Md) (i : Nat) : ∀ vs : List Nat, (wipeM Γ vs)[i]? = Γ[i]? ∨ (wipeM Γ vs)[i]? = some .n
  | [] => .inl rfl
  | v :: vs => by
    unfold wipeM
    by_cases h : v = i
    · subst h
      by_cases hl : v < (wipeM Γ vs).length
      · right
        rw [List.getElem?_set_self hl]
      · rcases wipeM_get Γ v vs with q | q
        · left
          rw [List.getElem?_eq_none (by rw [List.length_set]; omega)]
          rw [← q, List.getElem?_eq_none (by omega)]
        · rw [List.getElem?_eq_none (by omega)] at q
          cases q
    · rw [List.getElem?_set_ne h]
      exact wipeM_get Γ i vs
theorem EnvR.wipe (E : EnvR c B S0 M Γ L σ H ρ) : ∀ {vs : List Nat}, okW Γ vs = true → EnvR c B S0 M (wipeM Γ vs) L (L2.wipe σ vs) H ρ
  | [], _ => E
  | v :: vs, h => by
    unfold okW at h
    rw [List.all_cons, Bool.and_eq_true] at h
    have E1 := E.wipe (vs := vs) h.2
    have hv1 : okW (wipeM Γ vs) [v] = true := by
      unfold okW
      rw [List.all_cons, List.all_nil, Bool.and_true]
      rcases wipeM_get Γ v vs with q | q
      · rw [q]; exact h.1
      · rw [q]
    have one : EnvR c B S0 M ((wipeM Γ vs).set v .n) (L.set v []) ((L2.wipe σ vs).set v none) H (ρ.set v (ρ.getD v .non)) := E1.put0 (m' := .n) (Ex.refl _) v rfl
    have eρ : ρ.set v (ρ.getD v .non) = ρ := by
      by_cases hv : v < ρ.length
      · exact list_set_self (by rw [List.getD_eq_getElem?_getD, List.getElem?_eq_getElem hv]; rfl)
      · exact List.set_eq_of_length_le (by omega)
    rw [eρ, okW_one E1 hv1] at one
    exact one
theorem wipe_get (σ : L2.St) (i : Nat) : ∀ vs : List Nat, (wipe σ vs)[i]? = if i ∈ vs then (if i < σ.length then some none else none) else σ[i]?
  | [] => by simp [wipe]
  | v :: vs => by
    unfold wipe
    by_cases h : v = i
    · subst h
      rw [if_pos (List.mem_cons_self ..)]
      by_cases hl : v < (wipe σ vs).length
      · rw [List.getElem?_set_self hl, if_pos (by rw [wipe_length] at hl; exact hl)]
      · rw [List.getElem?_eq_none (by rw [List.length_set]; omega), if_neg (by rw [wipe_length] at hl; exact hl)]
    · rw [List.getElem?_set_ne h, wipe_get σ i vs]
      have : (i ∈ v :: vs) ↔ i ∈ vs := by
        rw [List.mem_cons]
        exact ⟨fun z => z.elim (fun z => absurd z.symm h) id, .inr⟩
      simp only [this]
theorem Only.wipe {is vs : List Nat} {σ' : L2.St} (h : Only is (wipe σ vs) σ') (hs : ∀ i ∈ is, i ∈ vs) : L2.wipe σ' vs = L2.wipe σ vs := by
  apply List.ext_getElem?
  intro i
  rw [wipe_get, wipe_get]
  by_cases hi : i ∈ vs
  · rw [if_pos hi, if_pos hi, h.1, wipe_length]
  · rw [if_neg hi, if_neg hi, h.2 i fun z => hi (hs i z), wipe_get, if_neg hi]
/-- what is made meanwhile stands by itself -/
theorem EnvR.guard (E : EnvR c B S0 M Γ L σ H ρ) {p : Addr} (hp : H p = none) (k : ∀ a o, H a = some o → H' a = some o) (hm : Mut (H' p)) : EnvR c B S0 ⟨fun a => M a ∨ a = p, M.z⟩ Γ L σ H' ρ := by
  have hh : Ex (hide (Msk M L) H) (hide (Msk ⟨fun a => M a ∨ a = p, M.z⟩ L) H') := hide_le fun a o h q => ⟨fun z => by
    rcases z with (z | z) | z
    · exact h (.inl z)
    · rw [z, hp] at q; exact nomatch q
    · exact h (.inr z), k a o q⟩
  exact ⟨E.eb.trans k, fun a h => by
    rcases h with h | rfl
    · exact ⟨mut_ex k (E.hm a h).1, (E.hm a h).2⟩
    · exact ⟨hm, E.noL hp⟩, E.es.trans hh, E.ap, fun a h => ⟨mut_ex k (E.hl a h).1, (E.hl a h).2⟩, E.sl.mono hh fun a _ o h => k a o h⟩
/-- .. and changes -/
theorem EnvR.shift {p : Addr} {o : HO} (E : EnvR c B S0 ⟨fun a => M a ∨ a = p, M.z⟩ Γ L σ H ρ) (hB : B p = none) (hm : Mut (some o)) : EnvR c B S0 ⟨fun a => M a ∨ a = p, M.z⟩ Γ L σ (upd H p o) ρ := by
  have k : ∀ a u, a ≠ p → H a = some u → upd H p o a = some u := fun a u h q => by rw [upd_ne h]; exact q
  have hh : Ex (hide (Msk ⟨fun a => M a ∨ a = p, M.z⟩ L) H) (hide (Msk ⟨fun a => M a ∨ a = p, M.z⟩ L) (upd H p o)) := hide_le fun a u h q => ⟨h, k a u (fun z => h (.inl (.inr z))) q⟩
  have mm : ∀ a, Mut (H a) → Mut (upd H p o a) := fun a h => by
    by_cases e : a = p
    · subst e; rw [upd_same]; exact hm
    · rw [upd_ne e]; exact h
  have notL : ∀ a, In L a → a ≠ p := fun a h z => by
    subst z
    exact (E.hm a (.inr rfl)).2 h
  refine ⟨fun a u h => k a u (fun z => by rw [z, hB] at h; exact nomatch h) (E.eb a u h), fun a h => ⟨mm a (E.hm a h).1, (E.hm a h).2⟩, E.es.trans hh, E.ap, fun a h => ⟨mm a (E.hl a h).1, (E.hl a h).2⟩, E.sl.mono hh fun a h u q => k a u (notL a h) q⟩
end

/-! ### comprehensions -/
def lcD (u : D → List D → Option (List D)) (t : List D → Option Bool) (f : DFn) (ρ : List D) : List D → Option (List D)
  | [] => some []
  | d :: ds => (u d ρ).bind fun ρ1 => (t ρ1).bind fun b => if b = true then (f ρ1).bind fun y => (lcD u t f ρ ds).map (y :: ·) else lcD u t f ρ ds
def dLc (fi : List D → Option (List D)) (u : D → List D → Option (List D)) (t : List D → Option Bool) (f : DFn) : DFn := fun ρ => (fi ρ).bind fun ds => if ds.length ≤ 100000 then (lcD u t f ρ ds).map .lst else none
def tTrue : List D → Option Bool := fun _ => some true
def rdTs (c : Ct) (Γ : List Md) (f : List D → Option Bool) : TT := rdT c Γ f
def PDTs (X : Cx) (ca : Cl → Addr) (Γ : List Md) (ifs : List Expr) (f : List D → Option Bool) : Prop := PTs X ifs (rdT ⟨X.K, ca⟩ Γ f)
section
variable {X : Cx} {ca : Cl → Addr} {Γ : List Md} {c : Expr} {f : List D → Option Bool}
theorem pdts_nil : PDTs X ca Γ [] tTrue := ⟨fun pins s σ H Q I ⟨B, S0, M, L, ρ, b, E, hb, k⟩ => by
  cases hb
  exact (pts_nil (X := X)).run pins s σ H Q I (k H (Ex.refl _))⟩
theorem pdts_one (h : PDT X ca Γ c f) : PDTs X ca Γ [c] f := pts_one h.rd
end
section
variable {c : Ct} {Γ Γ1 : List Md} {sh : Bool} {is vs : List Nat} {u : D → List D → Option (List D)} {t : List D → Option Bool} {f : DFn} {fi : List D → Option (List D)}
theorem DN.lc {wi : TI} (hw : okW Γ vs = true) (his : ∀ i ∈ is, i ∈ vs)
    (q1 : ∀ (B S0 : Hp) (M : Mz) (L : List (List Addr)) (σ : L2.St) (H : Hp) (ρ : List D), EnvR c B S0 M Γ L σ H ρ → ∀ ds, fi ρ = some ds → ∀ R : It → Hp → Prop, (∀ J H', Ex H H' → Walks c (if sh = true then hide (Msk M L) H' else B) J ds → R J H') → wi σ H R) :
    DN c Γ (tLc wi (rdG c sh (wipeM Γ vs) Γ1 is u) (rdT c Γ1 t) (rdE c Γ1 .s f) vs) (dLc fi u t f) := by
  intro B S0 M L σ H ρ E d hd Q kk
  obtain ⟨ds, e1, hd⟩ := bind_some hd
  obtain ⟨hl, hd⟩ := ite_some hd
  obtain ⟨ys, e2, hd⟩ := Option.map_eq_some_iff.mp hd
  subst hd
  refine q1 B S0 M L σ H ρ E ds e1 _ fun J H1 x1 ⟨n, G, Y, hn, wk, hG, hY⟩ p hp => ?_
  have E1 := E.ext x1
  have hB1 : B p = none := E1.eb.free hp
  -- the invariant: the list so far, the rest to come
  refine lc_it (Qd := fun H' => Q (.ref p) H') wk (fun i H' => ∃ acc zs rest, H' p = some (.lst acc) ∧ Reps c (hide (Msk ⟨fun a => M a ∨ a = p, M.z⟩ L) H') acc zs ∧ zs.length ≤ i ∧ lcD u t f ρ (ds.drop i) = some rest ∧ zs ++ rest = ys ∧
      Ex H1 H' ∧ EnvR c B (hide (Msk M L) H1) ⟨fun a => M a ∨ a = p, M.z⟩ Γ L σ H' ρ) ⟨[], [], ys, upd_same, .nil, Nat.zero_le _, e2, rfl, Ex.new hp, E1.now.guard hp (Ex.new hp) (by rw [upd_same]; exact True.intro)⟩ (fun i H' _ ⟨_, _, _, _, _, _, _, _, x, E'⟩ => hG H' (by
        cases sh with
        | true => exact E'.es.trans hide_ex
        | false => exact E'.eb)) ?_ ?_
  · rintro i v H' H'' hi ⟨acc, zs, rest, h1, h2, h3, h4, h5, x, E'⟩ y
    have hS : Ex (if sh = true then hide (Msk M L) H1 else B) H' := by
      cases sh with
      | true => exact E'.es.trans hide_ex
      | false => exact E'.eb
    obtain ⟨rfl, d, g1, g2⟩ := hY i H' v H'' hi hS y
    have hdr : ds.drop i = d :: ds.drop (i + 1) := by
      obtain ⟨hlt, e⟩ := List.getElem?_eq_some_iff.mp g1
      rw [List.drop_eq_getElem_cons hlt, e]
    rw [hdr, lcD] at h4
    obtain ⟨ρ1, u1, h4⟩ := bind_some h4
    obtain ⟨b, u2, h4⟩ := bind_some h4
    have Ew := E'.wipe hw
    refine ⟨B, _, _, L, ρ, d, ρ1, Ew, (by
      cases sh with
      | true => exact g2.mono E'.es
      | false => exact g2), u1, fun σ' on E2 => ⟨on.wipe his, B, _, _, L, ρ1, b, E2, u2, fun H3 x3 => ?_⟩⟩
    have h13 : H3 p = some (.lst acc) := x3 _ _ h1
    cases b with
    | false =>
      refine iteF ?_
      exact ⟨acc, zs, rest, h13, h2.mono (hide_mono x3), Nat.le_succ_of_le h3, h4, h5, x.trans x3, E'.ext x3⟩
    | true =>
      refine iteT ?_
      obtain ⟨y, u3, h4⟩ := bind_some h4
      obtain ⟨rest', u4, h4⟩ := Option.map_eq_some_iff.mp h4
      refine ⟨B, _, _, L, ρ1, y, E2.ext x3, u3, fun w H4 x4 rw' => ⟨acc, x4 _ _ h13, ?_, ?_⟩⟩
      · rw [h2.length]
        exact Nat.lt_of_le_of_lt (Nat.le_trans h3 (Nat.le_of_lt hi)) (by rw [hn]; exact Nat.lt_of_le_of_lt hl (by decide))
      · have rw2 : Rep c (hide (Msk ⟨fun a => M a ∨ a = p, M.z⟩ L) H4) w y := by
          exact rw'
        refine ⟨acc ++ [w], zs ++ [y], rest', upd_same, ?_, ?_, u4, ?_, ?_, ?_⟩
        · exact ((h2.mono (hide_mono (x3.trans x4))).snoc rw2).mono (hide_le fun a o h q => ⟨h, by rw [upd_ne (fun z => h (.inl (.inr z)))]; exact q⟩)
        · rw [List.length_append]
          exact Nat.succ_le_succ h3
        · rw [← h5, ← h4, List.append_assoc]
          rfl
        · exact fun a o q => by
            rw [upd_ne (ne_of_none q hp)]
            exact x4 _ _ (x3 _ _ (x _ _ q))
        · exact ((E'.ext x3).ext x4).shift hB1 True.intro
  · rintro H' ⟨acc, zs, rest, h1, h2, _, h4, h5, x, E'⟩
    rw [hn, List.drop_length, lcD] at h4
    cases h4
    rw [List.append_nil] at h5
    subst h5
    exact kk p H' (x1.trans x) (x1.free hp) (.lst h1 (Owns.sh (h2.mono (hide_le fun a o h q => ⟨fun z => by
      rcases z with (z | z) | z
      · exact h (.inl (.inl z))
      · exact h (.inr z)
      · exact h (.inl (.inr z)), q⟩))))
end
end DL

/-! DL: comprehensions with their text, lists that grow, enumerate. -/
namespace DL
open PySem PySem.Spec PyProof.Rows L2
section
variable {X : Cx} {ca : Cl → Addr} {W : WX} {J : Jd} {Γ Γ1 Γ2 Γ' : List Md} {e : Expr} {f : DFn} {m : Vm} {pos pos' apos cpos spos py : Pos} {x y : Str} {sh : Bool} {is : List Nat} {elt tg iter : Expr} {ifs : List Expr} {scope : Scope} {fi : List D → Option (List D)} {u : D → List D → Option (List D)} {t : List D → Option Bool}
/-- [elt for tg in iter if ..] -/
theorem pd_lc (own : List (Str × Nat)) (hi : PDI X ca sh Γ tg iter fi) (hN : X.N.Nodup) (ok : BlkOk X.N X.env.scope scope own)
    (hg : ∀ (s : Shared) (H : Hp) (C : Addr) (cl : List (Str × Addr)) (fp : List Addr), PDG (X.blk s H scope (compEnvC scope cl C X.env) fp) ca sh (wipeM Γ (own.map (·.2))) tg Γ1 is u)
    (ht : ∀ (s : Shared) (H : Hp) (C : Addr) (cl : List (Str × Addr)) (fp : List Addr), PDTs (X.blk s H scope (compEnvC scope cl C X.env) fp) ca Γ1 ifs t)
    (he : ∀ (s : Shared) (H : Hp) (C : Addr) (cl : List (Str × Addr)) (fp : List Addr), PDE (X.blk s H scope (compEnvC scope cl C X.env) fp) ca Γ1 elt .s f)
    (hc : X.calm = true := by rfl) (hw : okW Γ (own.map (·.2)) = true := by decide) (his : ∀ i ∈ is, i ∈ own.map (·.2) := by decide) (hs : ∀ x, foldedSetIterable iter X.env x = pure x := by intro _; rfl) :
    PDN X ca Γ (.ListComp elt [⟨tg, iter, ifs, 0⟩] scope pos) (dLc fi u t f) := by
  obtain ⟨wi, p1, q1⟩ := hi
  exact ⟨_, pe_lc (tt := rdT ⟨X.K, ca⟩ Γ1 t) hc hN p1 ok (fun s H C cl fp => (hg s H C cl fp).rd) (fun s H C cl fp => ht s H C cl fp) (fun s H C cl fp => (he s H C cl fp).rd) hs, DN.lc (c := ⟨X.K, ca⟩) hw his q1⟩
/-- y = [elt for ..] on one line -/
theorem pds_setLc (i : Nat) (own : List (Str × Nat)) (hi : PDI X ca sh Γ tg iter fi) (hN : X.N.Nodup) (ok : BlkOk X.N X.env.scope scope own)
    (hg : ∀ (s : Shared) (H : Hp) (C : Addr) (cl : List (Str × Addr)) (fp : List Addr), PDG (X.blk s H scope (compEnvC scope cl C X.env) fp) ca sh (wipeM Γ (own.map (·.2))) tg Γ1 is u)
    (ht : ∀ (s : Shared) (H : Hp) (C : Addr) (cl : List (Str × Addr)) (fp : List Addr), PDTs (X.blk s H scope (compEnvC scope cl C X.env) fp) ca Γ1 ifs t)
    (he : ∀ (s : Shared) (H : Hp) (C : Addr) (cl : List (Str × Addr)) (fp : List Addr), PDE (X.blk s H scope (compEnvC scope cl C X.env) fp) ca Γ1 elt .s f)
    (hsw : swapsWith (.ListComp elt [⟨tg, iter, ifs, 0⟩] scope pos) (some (.Name y py)) spos.line X.env = pure true)
    (hy : X.N[i]? = some y := by rfl) (hyl : X.env.scope.names.lookup y = some .local := by rfl)
    (hc : X.calm = true := by rfl) (hw : okW Γ (own.map (·.2)) = true := by decide) (his : ∀ i ∈ is, i ∈ own.map (·.2) := by decide) (hs : ∀ x, foldedSetIterable iter X.env x = pure x := by intro _; rfl) :
    PDS X ca W J Γ (.Assign [.Name y py] (.ListComp elt [⟨tg, iter, ifs, 0⟩] scope pos) spos) (Γ.set i .f) (dAsg i (dLc fi u t f)) := by
  obtain ⟨wi, p1, q1⟩ := hi
  exact ⟨_, ps_setLc (tt := rdT ⟨X.K, ca⟩ Γ1 t) hc hN hy hyl hsw p1 ok (fun s H C cl fp => (hg s H C cl fp).rd) (fun s H C cl fp => ht s H C cl fp) (fun s H C cl fp => (he s H C cl fp).rd) hs, DN.set (c := ⟨X.K, ca⟩) (DN.lc (c := ⟨X.K, ca⟩) hw his q1) i⟩

/-! ### lists that grow -/
def dApp (i : Nat) (f : DFn) : SFn := fun ρ => match f ρ, ρ[i]? with
  | some d, some (.lst ds) => if ds.length < 100000 then .nx (ρ.set i (.lst (ds ++ [d]))) else .bad
  | _, _ => .bad
def dExt (i : Nat) (f : DFn) : SFn := fun ρ => match f ρ, ρ[i]? with
  | some (.lst es), some (.lst ds) => if ds.length + es.length ≤ 100000 then .nx (ρ.set i (.lst (ds ++ es))) else .bad
  | _, _ => .bad
def dClear (i : Nat) : SFn := fun ρ => match ρ[i]? with
  | some (.lst _) => .nx (ρ.set i (.lst []))
  | _ => .bad
theorem slot_f {c : Ct} {B S0 H : Hp} {M : Mz} {L : List (List Addr)} {σ : L2.St} {ρ : List D} (E : EnvR c B S0 M Γ L σ H ρ) {i : Nat} (hm : Γ[i]? = some .f) : ∃ p d, L[i]? = some [p] ∧ σ[i]? = some (some (.ref p)) ∧ ρ[i]? = some d ∧ Own c (hide (Msk M L) H) H [p] (.ref p) d := by
  obtain ⟨l, x, d, h1, h2, h3, p, e1, e2, h4⟩ := E.sl.get hm
  subst e1 e2
  exact ⟨p, d, h1, h2, h3, h4⟩
/-- a list of one's own, changed -/
theorem EnvR.relist {c : Ct} {B S0 H : Hp} {M : Mz} {L : List (List Addr)} {σ : L2.St} {ρ : List D} (E : EnvR c B S0 M Γ L σ H ρ) {i : Nat} {p : Addr} {xs : List V} {ds : List D} (hm : Γ[i]? = some .f) (hl : L[i]? = some [p]) (hs : σ[i]? = some (some (.ref p))) (r : Reps c (hide (Msk M L) H) xs ds) :
    EnvR c B S0 M Γ L σ (upd H p (.lst xs)) (ρ.set i (.lst ds)) := by
  have k : ∀ a o, a ∉ [p] → H a = some o → upd H p (.lst xs) a = some o := fun a o h q => by
    rw [upd_ne (by simpa using h)]
    exact q
  have inL : In L p := ⟨[p], List.mem_of_getElem? hl, .head _⟩
  have e1 : L.set i [p] = L := list_set_self hl
  have E' := E.change (m' := .f) (x' := some (.ref p)) (d' := .lst ds) i hl k (fun a ha => .inl ha) (fun a ha => by
    have e : a = p := by simpa using ha
    subst e
    rw [upd_same]
    exact True.intro) (by
    rw [e1]
    exact ⟨p, rfl, rfl, .lst upd_same (Owns.sh (r.mono (hide_le fun a o h q => ⟨h, k a o (fun z => h (.inr (by
      have e : a = p := by simpa using z
      subst e
      exact inL))) q⟩)))⟩)
  rw [e1, list_set_self hm, list_set_self hs] at E'
  exact E'
theorem pds_app (i : Nat) (he : PDE X ca Γ e .s f) (hm : Γ[i]? = some .f := by rfl) (hi : X.N[i]? = some x := by rfl) (hv : Vis X.env.scope x := by first | exact Or.inl rfl | exact Or.inr (Or.inl rfl) | exact Or.inr (Or.inr rfl)) (hd : (x == ("__debug__" : Str)) = false := by decide) (hcd : (x == ("__classdict__" : Str)) = false := by decide)
    (hbase : attributeBase (.Name x pos') "append" X.env (eval (.Name x pos') X.env) = eval (.Name x pos') X.env := by rfl) (hfew : ((backTo cpos (starEach (e :: []) X.env)).all (fun x => !x.1) && (backToKw cpos (keywordEach [] X.env)).all (fun x => x.1.isSome)
      && decide ((e :: []).length + ([] : List Keyword).length + (if ([] : List Keyword).isEmpty then 0 else 1) < 30)) = true := by rfl) (hline : (apos.endLine == cpos.line) = true := by rfl) (hst : starEach (e :: []) X.env = (false, eval e X.env) :: starEach [] X.env := by rfl) (hpl : (backTo cpos (starEach [] X.env)).any (·.1) = false := by rfl)
    (hs : swapsWith (.Call (.Attribute (.Name x pos') "append" apos) [e] [] cpos) none pos.line X.env = pure false := by rfl) :
    PDS X ca W J Γ (.Expr (.Call (.Attribute (.Name x pos') "append" apos) [e] [] cpos) pos) Γ (dApp i f) := by
  obtain ⟨t, p, q⟩ := he
  refine ⟨_, ps_expr (pe_bm PySem.F.plainAttrs_list PySem.F.slot_list_append PySem.F.type_list_append mt_append (pe_var (i := i) hi hv hd hcd) (pa_cons p pa_nil hst) hbase hfew hline hst hpl) hs, fun B S0 M L σ H ρ N E pp => ?_⟩
  obtain ⟨a, d, h1, h2, h3, h4⟩ := slot_f E hm
  unfold dApp at pp
  rw [h3] at pp
  cases hf : f ρ with
  | none => rw [hf] at pp; exact pp.elim
  | some d0 =>
    rw [hf] at pp
    cases d with
    | lst ds =>
      have pp' : Post ⟨X.K, ca⟩ B S0 M J W Γ N (if ds.length < 100000 then .nx (ρ.set i (.lst (ds ++ [d0]))) else .bad) := pp
      split at pp'
      · rename_i hlen
        obtain ⟨xs, g1, g2⟩ := h4.flat_lst
        refine ⟨_, h2, .inl ⟨rfl, xs, SqL.of g1⟩, ?_⟩
        refine q B S0 M L σ H ρ E d0 hf _ fun v H1 x1 rv => ?_
        have E1 := E.ext x1
        refine ⟨a, xs, v, rfl, rfl, x1 _ _ g1, Nat.lt_of_lt_of_le (by rw [g2.length]; exact hlen) (by decide : 100000 ≤ sizeLine), ?_⟩
        exact pp' L σ _ (E1.relist hm h1 h2 ((g2.mono (hide_mono x1)).snoc rv))
      · exact pp'.elim
    | _ => exact pp.elim
theorem pds_ext (i : Nat) (he : PDE X ca Γ e .s f) (hm : Γ[i]? = some .f := by rfl) (hi : X.N[i]? = some x := by rfl) (hv : Vis X.env.scope x := by first | exact Or.inl rfl | exact Or.inr (Or.inl rfl) | exact Or.inr (Or.inr rfl)) (hd : (x == ("__debug__" : Str)) = false := by decide) (hcd : (x == ("__classdict__" : Str)) = false := by decide)
    (hbase : attributeBase (.Name x pos') "extend" X.env (eval (.Name x pos') X.env) = eval (.Name x pos') X.env := by rfl) (hfew : ((backTo cpos (starEach (e :: []) X.env)).all (fun x => !x.1) && (backToKw cpos (keywordEach [] X.env)).all (fun x => x.1.isSome)
      && decide ((e :: []).length + ([] : List Keyword).length + (if ([] : List Keyword).isEmpty then 0 else 1) < 30)) = true := by rfl) (hline : (apos.endLine == cpos.line) = true := by rfl) (hst : starEach (e :: []) X.env = (false, eval e X.env) :: starEach [] X.env := by rfl) (hpl : (backTo cpos (starEach [] X.env)).any (·.1) = false := by rfl)
    (hs : swapsWith (.Call (.Attribute (.Name x pos') "extend" apos) [e] [] cpos) none pos.line X.env = pure false := by rfl) :
    PDS X ca W J Γ (.Expr (.Call (.Attribute (.Name x pos') "extend" apos) [e] [] cpos) pos) Γ (dExt i f) := by
  obtain ⟨t, p, q⟩ := he
  refine ⟨_, ps_expr (pe_bm PySem.F.plainAttrs_list PySem.F.slot_list_extend PySem.F.type_list_extend mt_extend (pe_var (i := i) hi hv hd hcd) (pa_cons p pa_nil hst) hbase hfew hline hst hpl) hs, fun B S0 M L σ H ρ N E pp => ?_⟩
  obtain ⟨a, d, h1, h2, h3, h4⟩ := slot_f E hm
  unfold dExt at pp
  rw [h3] at pp
  cases hf : f ρ with
  | none => rw [hf] at pp; exact pp.elim
  | some d0 =>
    rw [hf] at pp
    cases d0 with
    | lst es =>
      cases d with
      | lst ds =>
        have pp' : Post ⟨X.K, ca⟩ B S0 M J W Γ N (if ds.length + es.length ≤ 100000 then .nx (ρ.set i (.lst (ds ++ es))) else .bad) := pp
        split at pp'
        · rename_i hlen
          obtain ⟨xs, g1, g2⟩ := h4.flat_lst
          refine ⟨_, h2, .inl ⟨rfl, xs, SqL.of g1⟩, ?_⟩
          refine q B S0 M L σ H ρ E _ hf _ fun v H1 x1 rv => ?_
          have E1 := E.ext x1
          have rv' : Rep ⟨X.K, ca⟩ (hide (Msk M L) H1) v (.lst es) := rv
          cases rv' with
          | lst hb rb =>
            refine ⟨a, _, xs, _, rfl, rfl, x1 _ _ g1, (hide_of hb).2, sz5 (by rw [g2.length, rb.length]; exact hlen), ?_⟩
            exact pp' L σ _ (E1.relist hm h1 h2 ((g2.mono (hide_mono x1)).append rb))
        · exact pp'.elim
      | _ => exact pp.elim
    | _ => exact pp.elim
theorem pds_clear (i : Nat) (hm : Γ[i]? = some .f := by rfl) (hi : X.N[i]? = some x := by rfl) (hv : Vis X.env.scope x := by first | exact Or.inl rfl | exact Or.inr (Or.inl rfl) | exact Or.inr (Or.inr rfl)) (hd : (x == ("__debug__" : Str)) = false := by decide) (hcd : (x == ("__classdict__" : Str)) = false := by decide)
    (hbase : attributeBase (.Name x pos') "clear" X.env (eval (.Name x pos') X.env) = eval (.Name x pos') X.env := by rfl) (hline : (apos.endLine == cpos.line) = true := by rfl)
    (hs : swapsWith (.Call (.Attribute (.Name x pos') "clear" apos) [] [] cpos) none pos.line X.env = pure false := by rfl) :
    PDS X ca W J Γ (.Expr (.Call (.Attribute (.Name x pos') "clear" apos) [] [] cpos) pos) Γ (dClear i) := by
  refine ⟨_, ps_expr (pe_bm0 PySem.F.plainAttrs_list PySem.F.slot_list_clear PySem.F.type_list_clear mt_clear (pe_var (i := i) hi hv hd hcd) hbase hline) hs, fun B S0 M L σ H ρ N E pp => ?_⟩
  obtain ⟨a, d, h1, h2, h3, h4⟩ := slot_f E hm
  unfold dClear at pp
  rw [h3] at pp
  cases d with
  | lst ds =>
    obtain ⟨xs, g1, g2⟩ := h4.flat_lst
    exact ⟨_, h2, .inl ⟨rfl, xs, SqL.of g1⟩, a, xs, rfl, rfl, g1, pp L σ _ (E.relist hm h1 h2 .nil)⟩
  | _ => exact pp.elim
end
end DL

/-! DL: defs and their calls. -/
namespace DL
open PySem PySem.Spec PyProof.Rows L2
/-- nothing is let out -/
theorem passLN {X : Cx} : Passes (L2N.CX X.prog X.w) X E0 := fun _ _ _ _ _ _ _ h => by
  obtain ⟨_, _, _, _, _, _, _, _, _, _, _, _, none_⟩ := h
  exact none_.elim
/-- what a def hands back -/
inductive Rs where
  | ok (d : D) | exc (e : Cl) (d : D) | bad
/-- a def's promise, by data: Γ0 how its parameters are handed in, rf whether it hands back a new list (or dict) of its own -/
def SpD (c : Ct) (Γ0 : List Md) (rf : Bool) (F : List D → Rs) : Sp := fun vs H Q E =>
  ∃ (B S0 : Hp) (M : Mz) (L : List (List Addr)) (ds : List D), EnvR c B S0 M Γ0 L (vs.map some) H ds ∧
    match F ds with
    | .ok d => ∀ v H', Ex B H' → ResR c B M rf H' v d → Q v H'
    | .exc e d => ∀ dx v H', Ex B H' → H' dx = some (.xd [("at", v)]) → B dx = none → Rep c (hide M H') v d → E (.ref (c.ca e)) (some dx) H'
    | .bad => False
def runF (rf : Bool) (n : Nat) (F : SFn) : List D → Rs := fun ds => match F (ds ++ List.replicate n .non) with
  | .nx _ => if rf = true then .bad else .ok .non
  | .ret d => .ok d
  | .exc e d _ => .exc e d
  | _ => .bad
section
variable {c : Ct} {z : Addr} {B S H : Hp}
theorem Slots.more : ∀ {Γ : List Md} {L : List (List Addr)} {σ : L2.St} {ρ : List D} (n : Nat), Slots c B z S H Γ L σ ρ → Slots c B z S H (Γ ++ List.replicate n .n) (L ++ List.replicate n []) (σ ++ List.replicate n none) (ρ ++ List.replicate n .non)
  | _, _, _, _, 0, .nil => .nil
  | _, _, _, _, n + 1, .nil => .cons rfl (Slots.more n .nil)
  | _, _, _, _, n, .cons h r => .cons h (Slots.more n r)
theorem In.more {L : List (List Addr)} {n : Nat} {a : Addr} (h : In (L ++ List.replicate n []) a) : In L a := by
  obtain ⟨l, h1, h2⟩ := h
  rcases List.mem_append.mp h1 with h1 | h1
  · exact ⟨l, h1, h2⟩
  · rw [(List.mem_replicate.mp h1).2] at h2
    cases h2
theorem Apart.more : ∀ {L : List (List Addr)} (n : Nat), Apart L → Apart (L ++ List.replicate n [])
  | [], 0, _ => trivial
  | [], n + 1, h => ⟨fun _ h => by (exact nomatch h), Apart.more (L := []) n h⟩
  | l :: L, n, h => ⟨fun a ha hi => h.1 a ha hi.more, Apart.more n h.2⟩
theorem EnvR.more {S0 : Hp} {M : Mz} {Γ : List Md} {L : List (List Addr)} {σ : L2.St} {ρ : List D} (n : Nat) (E : EnvR c B S0 M Γ L σ H ρ) :
    EnvR c B S0 M (Γ ++ List.replicate n .n) (L ++ List.replicate n []) (σ ++ List.replicate n none) H (ρ ++ List.replicate n .non) := by
  have hh : Ex (hide (Msk M L) H) (hide (Msk M (L ++ List.replicate n [])) H) := hide_le fun a o h q => ⟨fun z => h (by
    rcases z with z | z
    · exact .inl z
    · exact .inr z.more), q⟩
  exact ⟨E.eb, fun a h => ⟨(E.hm a h).1, fun z => (E.hm a h).2 z.more⟩, E.es.trans hh, E.ap.more n, fun a h => E.hl a h.more, (E.sl.mono hh fun a _ o h => h).more n⟩
end
section
variable {P : Program} {w : World} {K : PySem.W.Frag} {mg : Str → Option Value} {base : Heap} {x qual : Str} {params : Arguments} {body : List Stmt} {scope : Scope} {dvs : List V} {kws : List (Str × V)} {f : Addr} {fd : FuncData}
/-- THE RULE for a def -/
theorem fn_D {ca : Cl → Addr} {N ps : List Str} {k n : Nat} {Γ0 Γ' : List Md} {rf : Bool} {Fb : SFn} (F : FunD K x qual params body scope dvs kws f fd) (S : FnScope N ps scope) (hl : Γ0.length = ps.length) (hn : N.length = Γ0.length + n)
    (hb : ∀ (cdv : Value) (A : Around) (outer : List Env) (s : Shared) (H : Hp) (E : XK), Room k (A.deeper (envOfC qual scope s.heap.objs.size f cdv)) →
      PDSs (cxOf (L2N.CX P w) P w K mg base N qual scope f cdv A outer s H E) ca (fun cls d _ H => E cls d H) ⟨rf, [], [], none, none, none⟩ (Γ0 ++ List.replicate n .n) body Γ' Fb) :
    FnOk P w K mg base (L2N.CX P w) (k + 1) f fd ps (SpD ⟨K, ca⟩ Γ0 rf (runF rf n Fb)) := by
  refine F.ok S (fun vs H Q E h => ?_) (fun cdv A outer s H vs Q E hr h => ?_)
  · obtain ⟨B, S0, M, L, ds, E0, _⟩ := h
    have e := E0.sl.len.2.1
    rw [List.length_map] at e
    rw [e, hl]
  · obtain ⟨B, S0, M, L, ds, E0, post⟩ := h
    obtain ⟨t, p, q⟩ := hb cdv A outer s H E hr
    refine ⟨t, p, ?_⟩
    have e0 := E0.sl.len.2.1
    rw [List.length_map] at e0
    have es : L2.start N vs = vs.map some ++ List.replicate n none := by
      unfold L2.start
      rw [hn, e0, Nat.add_sub_cancel_left]
    rw [es]
    refine q B S0 M _ _ H _ _ (E0.more n) ?_
    unfold runF at post
    cases h : Fb (ds ++ List.replicate n .non) with
    | nx ρ' =>
      rw [h] at post
      intro L' σ' H' E'
      cases rf with
      | true => exact post.elim
      | false =>
        have post' : ∀ v H', Ex B H' → ResR ⟨K, ca⟩ B M false H' v .non → Q v H' := post
        exact post' .non H' E'.eb (by unfold ResR; exact .non)
    | ret d => rw [h] at post; exact post
    | reto d ρ' => rw [h] at post; exact post.elim
    | rett d => rw [h] at post; exact post.elim
    | exc e d ρ' =>
      rw [h] at post
      intro dx v L' σ' H' h1 h2 h3 h4 _
      exact post dx v H' h1 h2 h3 (res_s (B := B) h4)
    | brk ρ' => rw [h] at post; exact post.elim
    | cont ρ' => rw [h] at post; exact post.elim
    | bad => rw [h] at post; exact post.elim
end

/-! ### calls -/
def cmp1 : Vm → Md → Bool
  | .s, .s => true
  | .s, .b => true
  | .b, .b => true
  | .t, .b => true
  | .f, .b => true
  | _, _ => false
def cmps : List Vm → List Md → Bool
  | [], [] => true
  | m :: ms, g :: gs => cmp1 m g && cmps ms gs
  | _, _ => false
def noAdr (Γ : List Md) : List (List Addr) := Γ.map fun _ => []
theorem noAdr_in {Γ : List Md} {a : Addr} (h : In (noAdr Γ) a) : False := by
  obtain ⟨l, h1, h2⟩ := h
  obtain ⟨_, _, e⟩ := List.mem_map.mp h1
  rw [← e] at h2
  cases h2
theorem noAdr_apart : ∀ Γ : List Md, Apart (noAdr Γ)
  | [] => trivial
  | _ :: Γ => ⟨fun _ h => by (exact nomatch h), noAdr_apart Γ⟩
section
variable {c : Ct} {z : Addr} {B S0 H : Hp} {M : Mz} {L : List (List Addr)}
theorem VRs.app : ∀ {ms ns : List Vm} {vs ws : List V} {ds es : List D}, VRs c B M L H ms vs ds → VRs c B M L H ns ws es → VRs c B M L H (ms ++ ns) (vs ++ ws) (ds ++ es)
  | _, _, _, _, _, _, .nil, s => s
  | _, _, _, _, _, _, .cons h r, s => .cons h (r.app s)
/-- the callee's slots -/
theorem VRs.slots (eB : Ex B H) : ∀ {ms : List Vm} {Γ0 : List Md} {vs : List V} {ds : List D}, cmps ms Γ0 = true → VRs c B M L H ms vs ds → Slots c H z (hide (Msk M L) H) H Γ0 (noAdr Γ0) (vs.map some) ds
  | [], [], _, _, _, .nil => .nil
  | [], _ :: _, _, _, h, _ => nomatch h
  | _ :: _, [], _, _, h, _ => nomatch h
  | m :: ms, g :: Γ0, _, _, h, .cons r rs => by
    obtain ⟨h1, h2⟩ := Bool.and_eq_true_iff.mp (show (cmp1 m g && cmps ms Γ0) = true from h)
    refine .cons ?_ (rs.slots eB h2)
    cases g with
    | s =>
      cases m with
      | s => exact ⟨rfl, _, rfl, r⟩
      | t => exact nomatch h1
      | b => exact nomatch h1
      | f => exact nomatch h1
    | b => exact ⟨rfl, _, rfl, r.rep eB⟩
    | n => cases m <;> exact nomatch h1
    | f => cases m <;> exact nomatch h1
    | x => cases m <;> exact nomatch h1
    | o => cases m <;> exact nomatch h1
    | e => cases m <;> exact nomatch h1
theorem VRs.env {Γ : List Md} {σ : L2.St} {ρ : List D} (E : EnvR c B S0 M Γ L σ H ρ) {ms : List Vm} {Γ0 : List Md} {vs : List V} {ds : List D} (hc : cmps ms Γ0 = true) (r : VRs c B M L H ms vs ds) : EnvR c H (fun _ => none) ⟨Msk M L, M.z⟩ Γ0 (noAdr Γ0) (vs.map some) H ds := by
  have hh : Ex (hide (Msk M L) H) (hide (Msk ⟨Msk M L, M.z⟩ (noAdr Γ0)) H) := hide_le fun a o h q => ⟨fun z => by
    rcases z with z | z
    · exact h z
    · exact noAdr_in z, q⟩
  exact ⟨Ex.refl _, fun a h => ⟨by
    rcases h with h | h
    · exact (E.hm a h).1
    · exact (E.hl a h).1, fun z => noAdr_in z⟩, fun _ _ h => (nomatch h), noAdr_apart _, fun a h => (noAdr_in h).elim, (r.slots E.eb hc).mono hh fun _ _ _ h => h⟩
end
/-- the answer, if there is one -/
def okR : Rs → Option D
  | .ok d => some d
  | _ => none
def dFun (G : List D → Rs) (fs : List D → Option (List D)) (dfl : List D) : DFn := fun ρ => (fs ρ).bind fun ds => okR (G (ds ++ dfl))
/-- .. not None -/
def okRN : Rs → Option D
  | .ok d => if isNon d = true then none else some d
  | _ => none
theorem okRN_ok {r : Rs} {d : D} (h : okRN r = some d) : okR r = some d ∧ isNon d = false := by
  cases r with
  | ok d' =>
    have h' : (if isNon d' = true then none else some d') = some d := h
    split at h'
    · exact nomatch h'
    · rename_i hn
      cases h'
      exact ⟨rfl, by
        cases q : isNon d with
        | false => rfl
        | true => exact absurd q hn⟩
  | exc _ _ => cases h
  | bad => cases h
def dFunN (G : List D → Rs) (fs : List D → Option (List D)) (dfl : List D) : DFn := fun ρ => (fs ρ).bind fun ds => okRN (G (ds ++ dfl))
inductive Ims : List V → List D → Prop
  | nil : Ims [] []
  | cons {v : V} {vs : List V} {d : D} {ds : List D} : Im v d → Ims vs ds → Ims (v :: vs) (d :: ds)
theorem Ims.vrs {c : Ct} {B H : Hp} {M : Mz} {L : List (List Addr)} : ∀ {vs : List V} {ds : List D}, Ims vs ds → VRs c B M L H (List.replicate ds.length .s) vs ds
  | _, _, .nil => .nil
  | _, _, .cons h r => .cons (h.vr (by intro z; cases z)) r.vrs
section
variable {c : Ct} {B S0 H H' : Hp} {M : Mz} {L : List (List Addr)} {Γ : List Md} {σ : L2.St} {ρ : List D}
/-- behind a call -/
theorem res_back {v : V} {d : D} (h : ResR c H ⟨Msk M L, M.z⟩ false H' v d) : VR c .s B M L H' v d := h
theorem res_new {v : V} {d : D} {Q : VK} (h : ResR c H ⟨Msk M L, M.z⟩ true H' v d) (hd : isNon d = false) (q : ∀ p, v = .ref p → H p = none → Own c (hide (fun a => Msk M L a ∨ a = p) H') H' [p] (.ref p) d → Q v H') : Q v H' := by
  rcases h with ⟨_, e⟩ | ⟨p, rfl, h1, _, h3⟩
  · rw [e] at hd
    exact nomatch hd
  · exact q p rfl h1 h3
/-- a call's reading, where nothing is raised -/
theorem sp_ok {Γ0 : List Md} {rf : Bool} {G : List D → Rs} {ms : List Vm} {vs : List V} {ds : List D} {d : D} {Q : VK} {X : XK} (E : EnvR c B S0 M Γ L σ H ρ) (hc : cmps ms Γ0 = true) (r : VRs c B M L H ms vs ds) (hG : okR (G ds) = some d)
    (q : ∀ v H', Ex H H' → ResR c H ⟨Msk M L, M.z⟩ rf H' v d → Q v H') : SpD c Γ0 rf G vs H Q X := by
  refine ⟨H, _, ⟨Msk M L, M.z⟩, _, ds, VRs.env E hc r, ?_⟩
  cases h : G ds with
  | ok d' =>
    rw [h] at hG
    cases hG
    exact q
  | exc e d' => rw [h] at hG; cases hG
  | bad => rw [h] at hG; cases hG
end
section
variable {X : Cx} {ca : Cl → Addr} {Γ Γ0 : List Md} {k : Nat} {f : Addr} {fd : FuncData} {ps : List Str} {G : List D → Rs} {dvs : List V} {ds : List Value} {dfl : List D} {x m : Str} {p pos apos : Pos} {e o : Expr} {es : List Expr} {ms : List Vm} {fs : List D → Option (List D)} {mo : Vm} {fo : DFn}
/-- f(e, ..) -/
theorem pd_call (F : FnOk X.prog X.w X.K X.mg X.base (L2N.CX X.prog X.w) k f fd ps (SpD ⟨X.K, ca⟩ Γ0 false G)) (hr : Room k X.A) (hm : X.mg x = some (.ref f)) (hk : PySem.W.keepIn X.K (.ref f) = true) (hb : Binds X.K fd ps ds) (hd : Vals dvs ds) (hi : Ims dvs dfl)
    (ha : PDA X ca Γ (e :: es) ms fs) (hc : cmps (ms ++ List.replicate dfl.length .s) Γ0 = true := by decide) (hg : Gl X x := by rfl) (hdb : (x == ("__debug__" : Str)) = false := by decide) (he : starEach (e :: es) X.env = (false, eval e X.env) :: starEach es X.env := by rfl) (hpl : (backTo pos (starEach es X.env)).any (·.1) = false := by rfl) :
    PDE X ca Γ (.Call (.Name x p) (e :: es) [] pos) .s (dFun G fs dfl) := by
  obtain ⟨t, pa, q⟩ := ha
  refine ⟨_, pe_call F hr hg hm hk hb hd passLN pa hdb he hpl, fun B S0 M L σ H ρ E d hd Q kk => ?_⟩
  obtain ⟨as, e1, hd⟩ := bind_some hd
  refine q B S0 M L σ H ρ E as e1 _ fun vs H1 x1 r => ?_
  exact sp_ok (E.ext x1) hc (r.app hi.vrs) hd fun v H' x2 res => kk v H' (x1.trans x2) (res_back res)
theorem pd_callN (F : FnOk X.prog X.w X.K X.mg X.base (L2N.CX X.prog X.w) k f fd ps (SpD ⟨X.K, ca⟩ Γ0 true G)) (hr : Room k X.A) (hm : X.mg x = some (.ref f)) (hk : PySem.W.keepIn X.K (.ref f) = true) (hb : Binds X.K fd ps ds) (hd : Vals dvs ds) (hi : Ims dvs dfl)
    (ha : PDA X ca Γ (e :: es) ms fs) (hc : cmps (ms ++ List.replicate dfl.length .s) Γ0 = true := by decide) (hg : Gl X x := by rfl) (hdb : (x == ("__debug__" : Str)) = false := by decide) (he : starEach (e :: es) X.env = (false, eval e X.env) :: starEach es X.env := by rfl) (hpl : (backTo pos (starEach es X.env)).any (·.1) = false := by rfl) :
    PDN X ca Γ (.Call (.Name x p) (e :: es) [] pos) (dFunN G fs dfl) := by
  obtain ⟨t, pa, q⟩ := ha
  refine ⟨_, pe_call F hr hg hm hk hb hd passLN pa hdb he hpl, fun B S0 M L σ H ρ E d hd Q kk => ?_⟩
  obtain ⟨as, e1, hd⟩ := bind_some hd
  refine q B S0 M L σ H ρ E as e1 _ fun vs H1 x1 r => ?_
  obtain ⟨hd1, hd2⟩ := okRN_ok hd
  exact sp_ok (E.ext x1) hc (r.app hi.vrs) hd1 fun v H' x2 res => res_new res hd2 fun a ev hn ho => by
    subst ev
    exact kk a H' (x1.trans x2) (x1.free hn) ho
/-- a method's receiver is an instance of that class -/
def isObj (k : Cl) : D → Bool
  | .obj k' _ => decide (k' = k)
  | _ => false
def dMeth (c : Cl) (G : List D → Rs) (fo : DFn) (fs : List D → Option (List D)) (dfl : List D) : DFn := fun ρ => (fo ρ).bind fun o => if isObj c o = true then (fs ρ).bind fun ds => okR (G (o :: (ds ++ dfl))) else none
def dMethN (c : Cl) (G : List D → Rs) (fo : DFn) (fs : List D → Option (List D)) (dfl : List D) : DFn := fun ρ => (fo ρ).bind fun o => if isObj c o = true then (fs ρ).bind fun ds => okRN (G (o :: (ds ++ dfl))) else none
theorem dMethN_ok {cl : Cl} {G : List D → Rs} {fo : DFn} {fs : List D → Option (List D)} {dfl ρ : List D} {d : D} (h : dMethN cl G fo fs dfl ρ = some d) : dMeth cl G fo fs dfl ρ = some d ∧ isNon d = false := by
  obtain ⟨o, e1, h⟩ := bind_some h
  obtain ⟨ho, h⟩ := ite_some h
  obtain ⟨as, e2, h⟩ := bind_some h
  obtain ⟨h1, h2⟩ := okRN_ok h
  refine ⟨?_, h2⟩
  unfold dMeth
  rw [e1]
  show (if isObj cl o = true then (fs ρ).bind fun ds => okR (G (o :: (ds ++ dfl))) else none) = some d
  rw [if_pos ho, e2]
  exact h1
theorem isObj_rep {c : Ct} {H : Hp} {v : V} {d : D} {k : Cl} (r : Rep c H v d) (h : isObj k d = true) : ∃ a dx vs, v = .ref a ∧ H a = some (.ins (c.ca k) dx ((flds k).zip vs)) := by
  cases r with
  | obj h' r =>
    rename_i k' _
    have e : k' = k := of_decide_eq_true h
    subst e
    exact ⟨_, _, _, rfl, h'⟩
  | _ => cases h
theorem DE.meth {c : Ct} {to : TE} {t : TA} {cl : Cl} {rf : Bool} {E0' : XK} (q0 : DE c Γ to mo fo) (q : DA c Γ t ms fs) (hno : m ∉ flds cl) (hi : Ims dvs dfl) (hc : cmps (mo :: (ms ++ List.replicate dfl.length .s)) Γ0 = true)
    {B S0 : Hp} {M : Mz} {L : List (List Addr)} {σ : L2.St} {H : Hp} {ρ : List D} (E : EnvR c B S0 M Γ L σ H ρ) {d : D} (hd : dMeth cl G fo fs dfl ρ = some d) {Q : VK}
    (k : ∀ H1 v H', Ex H H1 → Ex H1 H' → ResR c H1 ⟨Msk M L, M.z⟩ rf H' v d → Q v H') : tMeth (c.ca cl) m (SpD c Γ0 rf G) dvs E0' to t σ H Q := by
  obtain ⟨o, e1, hd⟩ := bind_some hd
  obtain ⟨ho, hd⟩ := ite_some hd
  obtain ⟨as, e2, hd⟩ := bind_some hd
  refine q0 B S0 M L σ H ρ E o e1 _ fun x H1 x1 r0 => ?_
  obtain ⟨a, dx, vs, ex, h1⟩ := isObj_rep (r0.rep (E.eb.trans x1)) ho
  refine ⟨a, dx, _, ex, h1, zip_lookup_none hno, ?_⟩
  refine q B S0 M L σ H1 ρ (E.ext x1) as e2 _ fun vs H2 x2 r => ?_
  exact sp_ok ((E.ext x1).ext x2) hc (.cons (r0.mono x2) (r.app hi.vrs)) hd fun v H' x3 res => k H2 v H' (x1.trans x2) x3 res
/-- o.m(e, ..) -/
theorem pd_meth {pl : Sem Bool} (cl : Cl) (F : FnOk X.prog X.w X.K X.mg X.base (L2N.CX X.prog X.w) k f fd ps (SpD ⟨X.K, ca⟩ Γ0 false G)) (hk : ClsOk X.K ca cl) (hmt : Meth X.K (ca cl) m f) (hr : Room k X.A) (hb : Binds X.K fd ps ds) (hd : Vals dvs ds) (hi : Ims dvs dfl)
    (ho : PDE X ca Γ o mo fo) (ha : PDA X ca Γ (e :: es) ms fs) (hc : cmps (mo :: (ms ++ List.replicate dfl.length .s)) Γ0 = true := by decide) (hno : m ∉ flds cl := by decide +kernel)
    (hst : starEach (e :: es) X.env = (false, eval e X.env) :: starEach es X.env := by rfl) (hpl : (backTo pos (starEach es X.env)).any (·.1) = false := by rfl)
    (ht : eval (.Call (.Attribute o m apos) (e :: es) [] pos) X.env = (do
      let ov ← eval o X.env
      standAt apos.atName
      let (f, first) ← holding [ov] (getMethod ov m pl)
      callWith pos f first (backTo pos (starEach (e :: es) X.env)) (backToKw pos (keywordEach [] X.env))) := by rfl) :
    PDE X ca Γ (.Call (.Attribute o m apos) (e :: es) [] pos) .s (dMeth cl G fo fs dfl) := by
  obtain ⟨t0, p0, q0⟩ := ho
  obtain ⟨t, pa, q⟩ := ha
  exact ⟨_, pe_meth p0 hk.cls hmt F hr hb hd passLN pa hst hpl ht, fun B S0 M L σ H ρ E d hd Q kk => DE.meth (c := ⟨X.K, ca⟩) q0 q hno hi hc E hd fun H1 v H' x1 x2 res => kk v H' (x1.trans x2) (res_back res)⟩
theorem pd_methN {pl : Sem Bool} (cl : Cl) (F : FnOk X.prog X.w X.K X.mg X.base (L2N.CX X.prog X.w) k f fd ps (SpD ⟨X.K, ca⟩ Γ0 true G)) (hk : ClsOk X.K ca cl) (hmt : Meth X.K (ca cl) m f) (hr : Room k X.A) (hb : Binds X.K fd ps ds) (hd : Vals dvs ds) (hi : Ims dvs dfl)
    (ho : PDE X ca Γ o mo fo) (ha : PDA X ca Γ (e :: es) ms fs) (hc : cmps (mo :: (ms ++ List.replicate dfl.length .s)) Γ0 = true := by decide) (hno : m ∉ flds cl := by decide +kernel)
    (hst : starEach (e :: es) X.env = (false, eval e X.env) :: starEach es X.env := by rfl) (hpl : (backTo pos (starEach es X.env)).any (·.1) = false := by rfl)
    (ht : eval (.Call (.Attribute o m apos) (e :: es) [] pos) X.env = (do
      let ov ← eval o X.env
      standAt apos.atName
      let (f, first) ← holding [ov] (getMethod ov m pl)
      callWith pos f first (backTo pos (starEach (e :: es) X.env)) (backToKw pos (keywordEach [] X.env))) := by rfl) :
    PDN X ca Γ (.Call (.Attribute o m apos) (e :: es) [] pos) (dMethN cl G fo fs dfl) := by
  obtain ⟨t0, p0, q0⟩ := ho
  obtain ⟨t, pa, q⟩ := ha
  exact ⟨_, pe_meth p0 hk.cls hmt F hr hb hd passLN pa hst hpl ht, fun B S0 M L σ H ρ E d hd Q kk => DE.meth (c := ⟨X.K, ca⟩) q0 q hno hi hc E (dMethN_ok hd).1 fun H1 v H' x1 x2 res => res_new res (dMethN_ok hd).2 fun a ev hn ho => by
    subst ev
    exact kk a H' (x1.trans x2) (x1.free hn) ho⟩
/-- o.m() -/
theorem pd_meth0 {pl : Sem Bool} (cl : Cl) (F : FnOk X.prog X.w X.K X.mg X.base (L2N.CX X.prog X.w) k f fd ps (SpD ⟨X.K, ca⟩ Γ0 false G)) (hk : ClsOk X.K ca cl) (hmt : Meth X.K (ca cl) m f) (hr : Room k X.A) (hb : Binds X.K fd ps ds) (hd : Vals dvs ds) (hi : Ims dvs dfl)
    (ho : PDE X ca Γ o mo fo) (hc : cmps (mo :: ([] ++ List.replicate dfl.length .s)) Γ0 = true := by decide) (hno : m ∉ flds cl := by decide +kernel)
    (ht : eval (.Call (.Attribute o m apos) [] [] pos) X.env = (do
      let ov ← eval o X.env
      standAt apos.atName
      let (f, first) ← holding [ov] (getMethod ov m pl)
      callWith pos f first (backTo pos (starEach [] X.env)) (backToKw pos (keywordEach [] X.env))) := by rfl) :
    PDE X ca Γ (.Call (.Attribute o m apos) [] [] pos) .s (dMeth cl G fo dNilA dfl) := by
  obtain ⟨t0, p0, q0⟩ := ho
  exact ⟨_, pe_meth0 p0 hk.cls hmt F hr hb hd passLN ht, fun B S0 M L σ H ρ E d hd Q kk => DE.meth (c := ⟨X.K, ca⟩) (ms := []) q0 (fun B S0 M L σ H ρ E ds hd Q q => by cases hd; exact q [] H (Ex.refl _) .nil) hno hi hc E hd fun H1 v H' x1 x2 res => kk v H' (x1.trans x2) (res_back res)⟩
theorem pd_meth0N {pl : Sem Bool} (cl : Cl) (F : FnOk X.prog X.w X.K X.mg X.base (L2N.CX X.prog X.w) k f fd ps (SpD ⟨X.K, ca⟩ Γ0 true G)) (hk : ClsOk X.K ca cl) (hmt : Meth X.K (ca cl) m f) (hr : Room k X.A) (hb : Binds X.K fd ps ds) (hd : Vals dvs ds) (hi : Ims dvs dfl)
    (ho : PDE X ca Γ o mo fo) (hc : cmps (mo :: ([] ++ List.replicate dfl.length .s)) Γ0 = true := by decide) (hno : m ∉ flds cl := by decide +kernel)
    (ht : eval (.Call (.Attribute o m apos) [] [] pos) X.env = (do
      let ov ← eval o X.env
      standAt apos.atName
      let (f, first) ← holding [ov] (getMethod ov m pl)
      callWith pos f first (backTo pos (starEach [] X.env)) (backToKw pos (keywordEach [] X.env))) := by rfl) :
    PDN X ca Γ (.Call (.Attribute o m apos) [] [] pos) (dMethN cl G fo dNilA dfl) := by
  obtain ⟨t0, p0, q0⟩ := ho
  exact ⟨_, pe_meth0 p0 hk.cls hmt F hr hb hd passLN ht, fun B S0 M L σ H ρ E d hd Q kk => DE.meth (c := ⟨X.K, ca⟩) (ms := []) q0 (fun B S0 M L σ H ρ E ds hd Q q => by cases hd; exact q [] H (Ex.refl _) .nil) hno hi hc E (dMethN_ok hd).1 fun H1 v H' x1 x2 res => res_new res (dMethN_ok hd).2 fun a ev hn ho => by
    subst ev
    exact kk a H' (x1.trans x2) (x1.free hn) ho⟩
end
end DL

/-! DL: errors whose context is None. -/
namespace DL
open PySem PySem.Spec PyProof.Rows L2
section
variable {X : Cx} {pins : List (Addr × Obj)} {σ : L2.St} {H1 : Hp} {Q : XK} {CX : CXT} {C fI : Addr} {k : Nat} {fd : FuncData} {ps : List Str} {sp : Sp} {ds us : List Value} {dvs vs : List V}
/-- an error of an own class, whose first method is an own def, is made -/
theorem made_err {s : Shared} (T : OexC X.K C) (init : PySem.W.findIn X.K (.ref C) "__init__" = some (some (.ref fI))) (isDef : PySem.W.typeIn X.K (.ref fI) = some (.type "function")) (Fn : FnOk X.prog X.w X.K X.mg X.base CX k fI fd ps sp) (room : Room (k + 1) X.A) (binds : Binds X.K fd ps ds) (dflt : Vals dvs ds)
    (calm : Passes CX X (fun _ _ _ => False)) (inv : Inv X pins σ H1 s) (rel : Vals vs us) (few : vs.length ≤ 1000)
    (want : ∀ a, H1 a = none → sp (.ref a :: (vs ++ dvs)) (upd H1 a (exo a C none)) (fun v H2 => v = .non ∧ ∃ (d : Addr) (fs : List (Str × V)), H2 a = some (exo a C (some d)) ∧ H2 d = some (exd d fs) ∧ H1 d = none ∧ Q (.ref C) (some d) (upd (del H2 a) d (.xd fs))) (fun _ _ _ => False)) :
    wpAny (model X.prog X.w) X.A (call (.ref C) us) (L2N.MkP X pins σ Q) X.xe s := by
  obtain ⟨_, _, _, _, bm, _, _, _, _, _, _, _, _, _, _, held, among⟩ := T.cls
  obtain ⟨heap, gens, drawn, toks, os⟩ := s
  have above : heap.objs.size ≤ heap.objs.size + 1 := Nat.le_succ _
  have wish := want (heap.objs.size + 1) (inv.hok.fresh above)
  have old : ∀ b o, heap.get? b = some o → ((heap.push (PySem.W.kdv_tup us)).push (PySem.HandSPX.excO C heap.objs.size)).get? b = some o := fun b o e => Heap.get?_push_of_some _ (Heap.get?_push_of_some _ e)
  have new : ((heap.push (PySem.W.kdv_tup us)).push (PySem.HandSPX.excO C heap.objs.size)).get? (heap.objs.size + 1) = some (PySem.HandSPX.excO C heap.objs.size) := by heap_get
  have laid := inv.laid (t' := toks) (a := heap.objs.size + 1) (o := exo (heap.objs.size + 1) C none) old above (exo_ok new)
  have all : Vals (V.ref (heap.objs.size + 1) :: (vs ++ dvs)) (Value.ref (heap.objs.size + 1) :: (us ++ ds)) := .cons rfl (rel.append dflt)
  have len : (Value.ref (heap.objs.size + 1) :: us ++ ds).length = ps.length := all.length.symm.trans (Fn.len _ _ _ _ wish)
  have fits : us.length ≤ sizeLine := by
    have := Paired.length rel
    rw [sizeLine_eq]
    omega
  refine wpAny_call (PySem.HandSPX.call_own F.excBase_ValueError (fun Y => PySem.HandSPX.refsVE_contains Y bm among) (inv.kIn _ _ held) (PySem.W.looks_findIn inv.kIn init) (fun self => PySem.W.bind_fn inv.kIn self isDef) fits ?_)
  refine codeAny_mono (Fn.run _ X.stack _ _ ⟨Value.ref (heap.objs.size + 1) :: us, []⟩ _ _ _ (fun _ _ _ => False) (room.make C us []) (laid.env0.make C us []) (binds _ _ laid.kIn len) all wish) fun r s2 came => ?_
  cases r with
  | error er => exact calm pins σ _ _ er s2 laid came
  | ok fl =>
    cases fl with
    | ret u =>
      obtain ⟨v, H2, os2, bare, un, hok, rv, nothing, d, fs, hasA, hasD, wasD, q⟩ := came
      subst nothing
      obtain ⟨heap2, gens2, drawn2, toks2, sys2⟩ := s2
      obtain ⟨t0, G, inv2, keeps, was, is, free⟩ := mk_end0 (d2 := drawn2) (t2 := toks2) inv above old un hok os2 bare hasA hasD wasD
      refine ⟨rv, heap.objs.size + 1, _, _, ⟨G, gens2, drawn2, toks2, sys2⟩, _, .ref C, some d, rfl, inv2, keeps, was, is, ⟨rfl, rfl, fun fields e => ?_⟩, rfl, rfl, free, rfl, bare, raises_own T.exC T.tyC, q⟩
      cases e
      rfl
    | _ => exact came.elim
theorem pmk_oexN {x : Str} {e : Expr} {es : List Expr} {ta : TA} {p pos : Pos} (T : OexC X.K C) (init : PySem.W.findIn X.K (.ref C) "__init__" = some (some (.ref fI))) (isDef : PySem.W.typeIn X.K (.ref fI) = some (.type "function")) (Fn : FnOk X.prog X.w X.K X.mg X.base CX k fI fd ps sp) (room : Room (k + 1) X.A) (binds : Binds X.K fd ps ds) (dflt : Vals dvs ds)
    (calm : Passes CX X (fun _ _ _ => False)) (gl : Gl X x) (named : X.mg x = some (.ref C)) (args : PA X (e :: es) ta) (nd : (x == ("__debug__" : Str)) = false := by decide) (first : starEach (e :: es) X.env = (false, eval e X.env) :: starEach es X.env := by rfl) (plain : (backTo pos (starEach es X.env)).any (·.1) = false := by rfl) :
    L2N.PMk X (.Call (.Name x p) (e :: es) [] pos) (tMkO C sp dvs ta) := by
  intro pins s σ H Q inv want
  apply wpAny_Call_Name_kw
  refine ld_glob inv gl named ?_ nd
  exact PySem.W.callWith_K (h₀ := X.base) inv.ok.mod.kin T.kC (thn (args.run pos pins s σ H _ inv want) fun us s1 ⟨vs, H1, inv1, rel, few, go⟩ => ⟨inv1.kIn, made_err T init isDef Fn room binds dflt calm inv1 rel few go⟩) first plain
end
/-! ### one clause without a name -/
theorem ps_onlyN {X : Cx} {x : Str} {c : Value} {body suite : List Stmt} {b₀ : Stmt} {np pos pos' : Pos} {tb : WX → TS} {ts : Addr → Value → Option Addr → TS} {W : WX} (hs : X.stack = X.env :: X.outer) (hf : X.env.frame = some X.env.locals) (hc : Names X x c) (tk : L2N.Takes X W)
    (hb : ∀ (W' : WX) (pn : List (Addr × Obj)) (xe : Value → Shared → Prop), L2N.Takes (X.tr pn xe) W' → PassesOwn (model X.prog X.w) X.A X.env xe → PSs (X.tr pn xe) body (tb W'))
    (hsu : ∀ (a : Addr) (oe : Obj) (cls : Value) (d : Option Addr) (pn : List (Addr × Obj)), L2N.Zn cls d oe → (∃ vs, oe.data = .fields vs) → PSs (X.suite a ((a, oe) :: pn)) (b₀ :: suite) (ts a cls d)) :
    PS X (.Try body [.ExceptHandler (some (.Name x np)) none (b₀ :: suite) pos'] [] [] pos) (fun N σ H => tb (wOnly X.K c ts W N) N σ H) :=
  L2N.ps_try_many hs hf tk hb (.cons hc hsu .nil)
end DL

/-! DL: instances made; what is raised. -/
namespace DL
open PySem PySem.Spec PyProof.Rows L2
section
variable {c : Ct} {B S0 H H' : Hp} {M : Mz} {L : List (List Addr)} {Γ : List Md} {σ : L2.St} {ρ : List D}
theorem slot_x (E : EnvR c B S0 M Γ L σ H ρ) {i : Nat} (hm : Γ[i]? = some .x) : ∃ d, L[i]? = some [M.z] ∧ σ[i]? = some (some (.ref M.z)) ∧ ρ[i]? = some d ∧ Own c (hide (Msk M L) H) H [M.z] (.ref M.z) d := by
  obtain ⟨l, x, d, h1, h2, h3, e1, e2, h4⟩ := E.sl.get hm
  subst e1 e2
  exact ⟨d, h1, h2, h3, h4⟩
/-- the instance that is made, changed -/
theorem EnvR.remake (E : EnvR c B S0 M Γ L σ H ρ) {i : Nat} {o : HO} {d : D} (hm : Γ[i]? = some .x) (hl : L[i]? = some [M.z]) (hs : σ[i]? = some (some (.ref M.z))) (ho : Mut (some o)) (r : ∀ S, Ex (hide (Msk M L) H) S → Own c S (upd H M.z o) [M.z] (.ref M.z) d) :
    EnvR c B S0 M Γ L σ (upd H M.z o) (ρ.set i d) := by
  have k : ∀ a u, a ∉ [M.z] → H a = some u → upd H M.z o a = some u := fun a u h q => by
    rw [upd_ne (by simpa using h)]
    exact q
  have inL : In L M.z := ⟨[M.z], List.mem_of_getElem? hl, .head _⟩
  have e1 : L.set i [M.z] = L := list_set_self hl
  have hh : Ex (hide (Msk M L) H) (hide (Msk M L) (upd H M.z o)) := hide_le fun a u h q => ⟨h, k a u (fun z => h (.inr (by
    have e : a = M.z := by simpa using z
    subst e
    exact inL))) q⟩
  have E' := E.change (m' := .x) (x' := some (.ref M.z)) (d' := d) i hl k (fun a ha => .inl ha) (fun a ha => by
    have e : a = M.z := by simpa using ha
    subst e
    rw [upd_same]
    exact ho) (by
    rw [e1]
    exact ⟨rfl, rfl, r _ hh⟩)
  rw [e1, list_set_self hm, list_set_self hs] at E'
  exact E'
end
theorem putF_zip {f : Str} {v : V} : ∀ {ns : List Str} {vs : List V}, ns.Nodup → ns[vs.length]? = some f → putF f v (ns.zip vs) = ns.zip (vs ++ [v])
  | [], _, _, h => by simp at h
  | n :: ns, [], _, h => by
    simp at h
    subst h
    simp [putF]
  | n :: ns, w :: vs, nd, h => by
    have h' : ns[vs.length]? = some f := by simpa using h
    have ne : ¬ n = f := fun z => by
      subst z
      exact (List.nodup_cons.mp nd).1 (List.mem_of_getElem? h')
    show (if n = f then (n, v) :: ns.zip vs else (n, w) :: putF f v (ns.zip vs)) = _
    rw [if_neg ne, putF_zip (List.nodup_cons.mp nd).2 h']
    rfl
theorem Own.flat_obj {c : Ct} {S H : Hp} {p : Addr} {k : Cl} {fs : List D} (h : Own c S H [p] (.ref p) (.obj k fs)) : ∃ dx vs, H p = some (.ins (c.ca k) dx ((flds k).zip vs)) ∧ Reps c S vs fs := by
  cases h with
  | obj h r => exact ⟨_, _, h, r.flat rfl⟩
def dFst (i : Nat) (k : Cl) (j : Nat) (f : DFn) : SFn := fun ρ => match f ρ, ρ[i]? with
  | some d, some (.obj k' fs) => if k' = k ∧ fs.length = j then .nx (ρ.set i (.obj k (fs ++ [d]))) else .bad
  | _, _ => .bad
section
variable {X : Cx} {ca : Cl → Addr} {W : WX} {J : Jd} {Γ Γ0 Γ' : List Md} {e : Expr} {f : DFn} {m : Vm} {pos pos' apos cpos p : Pos} {x fn : Str}
/-- self.f = e, a further field of the instance that is made -/
theorem pds_fst (i : Nat) (k : Cl) (j : Nat) (hk : ClsOk X.K ca k) (he : PDE X ca Γ e .s f) (hm : Γ[i]? = some .x := by rfl) (hf : (flds k)[j]? = some fn := by rfl) (hnd : (flds k).Nodup := by decide +kernel) (hi : X.N[i]? = some x := by rfl) (hv : Vis X.env.scope x := by first | exact Or.inl rfl | exact Or.inr (Or.inl rfl) | exact Or.inr (Or.inr rfl)) (hd : (x == ("__debug__" : Str)) = false := by decide) (hcd : (x == ("__classdict__" : Str)) = false := by decide)
    (hs : swapsWith e (some (.Attribute (.Name x p) fn pos')) pos.line X.env = pure false := by rfl) : PDS X ca W J Γ (.Assign [.Attribute (.Name x p) fn pos'] e pos) Γ (dFst i k j f) := by
  obtain ⟨t, pe, q⟩ := he
  refine ⟨_, ps_fld (pe_var (i := i) hi hv hd hcd) pe hs, fun B S0 M L σ H ρ N E pp => ?_⟩
  obtain ⟨d, h1, h2, h3, h4⟩ := slot_x E hm
  unfold dFst at pp
  rw [h3] at pp
  cases hf0 : f ρ with
  | none => rw [hf0] at pp; exact pp.elim
  | some d0 =>
    rw [hf0] at pp
    cases d with
    | obj k' fs =>
      have pp' : Post ⟨X.K, ca⟩ B S0 M J W Γ N (if k' = k ∧ fs.length = j then .nx (ρ.set i (.obj k (fs ++ [d0]))) else .bad) := pp
      split at pp'
      · rename_i hc
        obtain ⟨ek, ej⟩ := hc
        subst ek
        obtain ⟨dx, vs, g1, g2⟩ := h4.flat_obj
        refine q B S0 M L σ H ρ E d0 hf0 _ fun v H1 x1 rv => ?_
        have E1 := E.ext x1
        have hz : (flds k')[vs.length]? = some fn := by
          rw [g2.length, ej]
          exact hf
        refine ⟨_, h2, M.z, _, dx, _, rfl, x1 _ _ g1, hk.cls, hk.no fn (List.mem_of_getElem? hf), ?_, ?_⟩
        · rw [List.length_zip]
          exact Nat.lt_of_le_of_lt (Nat.min_le_left _ _) (by cases k' <;> decide)
        · rw [putF_zip hnd hz]
          exact pp' L σ _ (E1.remake hm h1 h2 True.intro fun S eS => .obj upd_same (Owns.sh (((g2.mono (hide_mono x1)).snoc rv).mono eS)))
      · exact pp'.elim
    | _ => exact pp.elim
end
/-- an __init__'s promise -/
def SpI (c : Ct) (k : Cl) (Γ0 : List Md) (F : List D → Rs) : Sp := fun vs H Q E =>
  ∃ (x : Addr) (as : List V) (B S0 : Hp) (M : Mz) (L : List (List Addr)) (ds : List D), vs = .ref x :: as ∧ M.z = x ∧ EnvR c B S0 M (.x :: Γ0) ([x] :: L) (vs.map some) H (.obj k [] :: ds) ∧
    match F ds with
    | .ok d => ∀ H', Ex B H' → Own c (hide (fun a => M a ∨ a = x) H') H' [x] (.ref x) d → Q .non H'
    | .exc e d => ∀ dx v H', Ex B H' → H' dx = some (.xd [("at", v)]) → B dx = none → Rep c (hide M H') v d → E (.ref (c.ca e)) (some dx) H'
    | .bad => False
def runI (k : Cl) (n : Nat) (F : SFn) : List D → Rs := fun ds => match F (.obj k [] :: (ds ++ List.replicate n .non)) with
  | .nx ρ => (match ρ[0]? with
    | some d => .ok d
    | none => .bad)
  | .exc e d _ => .exc e d
  | _ => .bad
section
variable {P : Program} {w : World} {K : PySem.W.Frag} {mg : Str → Option Value} {base : Heap} {x qual : Str} {params : Arguments} {body : List Stmt} {scope : Scope} {dvs : List V} {kws : List (Str × V)} {f : Addr} {fd : FuncData}
/-- THE RULE for an __init__ -/
theorem fn_I {ca : Cl → Addr} {cl : Cl} {N ps : List Str} {k n : Nat} {Γ0 Γ' : List Md} {Fb : SFn} (F : FunD K x qual params body scope dvs kws f fd) (S : FnScope N ps scope) (hl : Γ0.length + 1 = ps.length) (hn : N.length = Γ0.length + 1 + n) (hΓ : Γ'[0]? = some .x)
    (hb : ∀ (cdv : Value) (A : Around) (outer : List Env) (s : Shared) (H : Hp) (E : XK), Room k (A.deeper (envOfC qual scope s.heap.objs.size f cdv)) →
      PDSs (cxOf (L2N.CX P w) P w K mg base N qual scope f cdv A outer s H E) ca (fun cls d _ H => E cls d H) ⟨false, [], [], none, none, none⟩ (.x :: Γ0 ++ List.replicate n .n) body Γ' Fb) :
    FnOk P w K mg base (L2N.CX P w) (k + 1) f fd ps (SpI ⟨K, ca⟩ cl Γ0 (runI cl n Fb)) := by
  refine F.ok S (fun vs H Q E h => ?_) (fun cdv A outer s H vs Q E hr h => ?_)
  · obtain ⟨x, as, B, S0, M, L, ds, ev, ez, E0, _⟩ := h
    have e := E0.sl.len.2.1
    rw [List.length_map, List.length_cons] at e
    rw [e, hl]
  · obtain ⟨x, as, B, S0, M, L, ds, ev, ez, E0, post⟩ := h
    obtain ⟨t, p, q⟩ := hb cdv A outer s H E hr
    refine ⟨t, p, ?_⟩
    have e0 := E0.sl.len.2.1
    rw [List.length_map, List.length_cons] at e0
    have es : L2.start N vs = vs.map some ++ List.replicate n none := by
      unfold L2.start
      rw [hn, e0, Nat.add_sub_cancel_left]
    rw [es]
    refine q B S0 M _ _ H _ _ (E0.more n) ?_
    unfold runI at post
    have eρ : (D.obj cl [] :: ds) ++ List.replicate n D.non = .obj cl [] :: (ds ++ List.replicate n .non) := rfl
    rw [eρ]
    cases h : Fb (.obj cl [] :: (ds ++ List.replicate n .non)) with
    | nx ρ' =>
      rw [h] at post
      intro L' σ' H' E'
      obtain ⟨d, h1, h2, h3, h4⟩ := slot_x E' hΓ
      have post' : (match (match ρ'[0]? with | some d => Rs.ok d | none => Rs.bad) with
        | .ok d => ∀ H', Ex B H' → Own ⟨K, ca⟩ (hide (fun a => M a ∨ a = x) H') H' [x] (.ref x) d → Q .non H'
        | .exc e d => ∀ dx v H', Ex B H' → H' dx = some (.xd [("at", v)]) → B dx = none → Rep ⟨K, ca⟩ (hide M H') v d → E (.ref (ca e)) (some dx) H'
        | .bad => False) := post
      rw [h3] at post'
      rw [ez] at h4
      exact post' H' E'.eb (h4.mono (hide_le fun a o h q => ⟨fun z => h (by
        rcases z with z | z
        · exact .inl z
        · exact .inr ⟨[M.z], List.mem_of_getElem? h1, by rw [z, ez]; exact .head _⟩), q⟩) fun _ _ _ h => h)
    | ret d => rw [h] at post; exact post.elim
    | reto d ρ' => rw [h] at post; exact post.elim
    | rett d => rw [h] at post; exact post.elim
    | exc e d ρ' =>
      rw [h] at post
      intro dx v L' σ' H' h1 h2 h3 h4 _
      exact post dx v H' h1 h2 h3 (res_s (B := B) h4)
    | brk ρ' => rw [h] at post; exact post.elim
    | cont ρ' => rw [h] at post; exact post.elim
    | bad => rw [h] at post; exact post.elim
end
section
variable {c : Ct} {B S0 H H1 : Hp} {M : Mz} {L : List (List Addr)} {Γ : List Md} {σ : L2.St} {ρ : List D}
/-- the state at an __init__'s entry -/
theorem make_env (E : EnvR c B S0 M Γ L σ H ρ) {x dx C : Addr} {k : Cl} (hx : H x = none) (hdx : H dx = none) (hne : dx ≠ x) (hC : C = c.ca k) {ms : List Vm} {Γ0 : List Md} {vs : List V} {ds : List D} (hc : cmps ms Γ0 = true) (r : VRs c B M L H ms vs ds) :
    EnvR c (upd H dx (.own x)) (fun _ => none) ⟨Msk M L, x⟩ (.x :: Γ0) ([x] :: noAdr Γ0) ((V.ref x :: vs).map some) (upd (upd H dx (.own x)) x (.ins C dx [])) (.obj k [] :: ds) := by
  subst hC
  have e1 : Ex H (upd H dx (.own x)) := Ex.new hdx
  have hx1 : upd H dx (.own x) x = none := by rw [upd_ne (Ne.symm hne)]; exact hx
  have e2 : Ex (upd H dx (.own x)) (upd (upd H dx (.own x)) x (.ins (c.ca k) dx [])) := Ex.new hx1
  have inx : ∀ a, In ([x] :: noAdr Γ0) a → a = x := fun a h => by
    rcases h.inv with h | h
    · simpa using h
    · exact (noAdr_in h).elim
  have nox : ¬ Msk M L x := fun z => by
    rcases z with z | z
    · exact E.noM hx z
    · exact E.noL hx z
  have hh : Ex (hide (Msk M L) H) (hide (Msk ⟨Msk M L, x⟩ ([x] :: noAdr Γ0)) (upd (upd H dx (.own x)) x (.ins (c.ca k) dx []))) := hide_le fun a o h q => ⟨fun z => by
    rcases z with z | z
    · exact h z
    · rw [inx a z, hx] at q
      exact (nomatch q), e2 _ _ (e1 _ _ q)⟩
  refine ⟨e2, fun a h => ⟨?_, fun z => ?_⟩, fun _ _ h => (nomatch h), ⟨fun a _ h => (noAdr_in h).elim, noAdr_apart _⟩, fun a h => ?_, ?_⟩
  · rcases h with h | h
    · exact mut_ex e2 (mut_ex e1 (E.hm a h).1)
    · exact mut_ex e2 (mut_ex e1 (E.hl a h).1)
  · rw [inx a z] at h
    exact nox h
  · rw [inx a h, upd_same]
    exact ⟨True.intro, hx1⟩
  · refine .cons ⟨rfl, rfl, .obj (dx := dx) (vs := []) (by rw [upd_same, List.zip_nil_right]) .nil⟩ ?_
    have s := r.slots (z := x) E.eb hc
    have go : ∀ {Γ0 : List Md} {vs : List (Option V)} {ds : List D} {LL : List (List Addr)}, (∀ a, In LL a → False) → Slots c H x (hide (Msk M L) H) H Γ0 LL vs ds → ∀ {S' H' B' : Hp}, Ex (hide (Msk M L) H) S' → Ex H B' → Slots c B' x S' H' Γ0 LL vs ds := by
      intro Γ0 vs ds LL hL s
      induction s with
      | nil => intro S' H' B' _ _; exact .nil
      | @cons m ms l ls x' σ' d' ρ' h r ih =>
        intro S' H' B' eS eB
        have el : ∀ a, a ∉ l := fun a ha => hL a (.head ha)
        refine .cons ?_ (ih (fun a h => hL a h.cons) eS eB)
        cases m with
        | n => exact h
        | b => exact ⟨h.1, let ⟨v, e, q⟩ := h.2; ⟨v, e, q.mono eB⟩⟩
        | s => exact ⟨h.1, let ⟨v, e, q⟩ := h.2; ⟨v, e, q.mono eS⟩⟩
        | f => obtain ⟨p, e, _⟩ := h; subst e; exact (el p (.head _)).elim
        | x => obtain ⟨e, _⟩ := h; subst e; exact (el _ (.head _)).elim
        | o => obtain ⟨nd, v, e, hp, q⟩ := h; exact ⟨nd, v, e, hp, q.mono eS fun a ha => (el a ha).elim⟩
        | e => obtain ⟨h1, h2, v, d', h3, h4, h5⟩ := h; exact ⟨h1, h2, v, d', h3, eS _ _ h4, h5.mono eS⟩
    exact go (fun a h => noAdr_in h) s hh e1
end
section
variable {X : Cx} {ca : Cl → Addr} {Γ Γ0 : List Md} {k : Nat} {f : Addr} {fd : FuncData} {ps : List Str} {G : List D → Rs} {dvs : List V} {ds : List Value} {dfl : List D} {x m : Str} {p pos apos : Pos} {e o : Expr} {es : List Expr} {ms : List Vm} {fs : List D → Option (List D)} {mo : Vm} {fo : DFn}
/-- C(e, ..) -/
theorem pd_make (cl : Cl) (Mk0 : Mk X.K (ca cl) f) (F : FnOk X.prog X.w X.K X.mg X.base (L2N.CX X.prog X.w) k f fd ps (SpI ⟨X.K, ca⟩ cl Γ0 G)) (hr : Room (k + 1) X.A) (hm : X.mg x = some (.ref (ca cl))) (hb : Binds X.K fd ps ds) (hd : Vals dvs ds) (hi : Ims dvs dfl)
    (ha : PDA X ca Γ (e :: es) ms fs) (hc : cmps (ms ++ List.replicate dfl.length .s) Γ0 = true := by decide) (hg : Gl X x := by rfl) (hdb : (x == ("__debug__" : Str)) = false := by decide) (he : starEach (e :: es) X.env = (false, eval e X.env) :: starEach es X.env := by rfl) (hpl : (backTo pos (starEach es X.env)).any (·.1) = false := by rfl) :
    PDN X ca Γ (.Call (.Name x p) (e :: es) [] pos) (dFun G fs dfl) := by
  obtain ⟨t, pa, q⟩ := ha
  refine ⟨_, pe_make Mk0 F hr hg hm hb hd passLN pa hdb he hpl, fun B S0 M L σ H ρ E d hd Q kk => ?_⟩
  obtain ⟨as, e1, hd⟩ := bind_some hd
  refine q B S0 M L σ H ρ E as e1 _ fun vs H1 x1 r => fun a dx ha hdx hne => ?_
  have E1 := E.ext x1
  refine ⟨a, _, _, _, ⟨Msk M L, a⟩, _, _, rfl, rfl, make_env (k := cl) E1 ha hdx hne rfl hc (r.app hi.vrs), ?_⟩
  cases h : G (as ++ dfl) with
  | ok d' =>
    rw [h] at hd
    cases hd
    exact fun H' x2 ho => ⟨rfl, kk a H' ((x1.trans (Ex.new hdx)).trans x2) (x1.free ha) ho⟩
  | exc e d' => rw [h] at hd; cases hd
  | bad => rw [h] at hd; cases hd
end

/-! ### raise -/
/-- what the text says of a class of errors -/
structure ExcOk (K : PySem.W.Frag) (ca : Cl → Addr) (fI : Addr) (k : Cl) : Prop where
  oex : OexC K (ca k)
  no : PySem.W.findIn K (.ref (ca k)) "at" = some none
  init : PySem.W.findIn K (.ref (ca k)) "__init__" = some (some (.ref fI))
/-- SwapError.__init__ -/
def spX (K : PySem.W.Frag) : Sp := fun vs H Q _ => ∃ (a C : Addr) (v : V), vs = [.ref a, v] ∧ OexC K C ∧ PySem.W.findIn K (.ref C) "at" = some none ∧ H a = some (exo a C none) ∧ ∀ dx, H dx = none → dx ≠ a → Q .non (upd (upd H dx (exd dx [("at", v)])) a (exo a C (some dx)))
def dRaise (e : Cl) (f : DFn) : SFn := fun ρ => match f ρ with
  | some d => .exc e d ρ
  | none => .bad
section
variable {X : Cx} {ca : Cl → Addr} {W : WX} {J : Jd} {Γ Γ' : List Md} {e : Expr} {f : DFn} {pos cpos p : Pos} {x : Str} {fI : Addr} {fd : FuncData} {k : Nat}
theorem raise_heap {H : Hp} {a d : Addr} {v : V} {o1 o2 o3 : HO} (ha : H a = none) (hd : H d = none) (hne : d ≠ a) : upd (del (upd (upd (upd H a o1) d o2) a o3) a) d (.xd [("at", v)]) = upd H d (.xd [("at", v)]) := by
  funext b
  by_cases h1 : b = d
  · subst h1
    rw [upd_same, upd_same]
  · rw [upd_ne h1, upd_ne h1]
    by_cases h2 : b = a
    · subst h2
      rw [del_same, ha]
    · rw [del_ne h2, upd_ne h2, upd_ne h1, upd_ne h2]
theorem pds_raise (ec : Cl) (tk : L2N.Takes X W) (T : ExcOk X.K ca fI ec) (tI : PySem.W.typeIn X.K (.ref fI) = some (.type "function")) (F : FnOk X.prog X.w X.K X.mg X.base (L2N.CX X.prog X.w) k fI fd ["self", "at"] (spX X.K)) (hr : Room (k + 1) X.A) (hb : Binds X.K fd ["self", "at"] []) (hm : X.mg x = some (.ref (ca ec)))
    (he : PDE X ca Γ e .s f) (hx : ∀ Γx, J.Γx = some Γx → wks Γ Γx = true := by intro _ h; first | (cases h; done) | (cases h; first | decide | rfl)) (hc : X.calm = true := by rfl) (hg : Gl X x := by rfl) (hdb : (x == ("__debug__" : Str)) = false := by decide) (hst : starEach (e :: []) X.env = (false, eval e X.env) :: starEach [] X.env := by rfl) (hpl : (backTo cpos (starEach [] X.env)).any (·.1) = false := by rfl) :
    PDS X ca W J Γ (.Raise (some (.Call (.Name x p) (e :: []) [] cpos)) none pos) Γ' (dRaise ec f) := by
  obtain ⟨t, pe, q⟩ := he
  refine ⟨_, L2N.ps_raise hc tk (pmk_oexN T.oex T.init tI F hr hb .nil passLN hg hm (pa_cons pe pa_nil hst) hdb hst hpl), fun B S0 M L σ H ρ N E pp => ?_⟩
  unfold dRaise at pp
  cases hd : f ρ with
  | none => rw [hd] at pp; exact pp.elim
  | some d =>
    rw [hd] at pp
    refine q B S0 M L σ H ρ E d hd _ fun v H1 x1 rv => ⟨by show 1 ≤ 1000; decide, fun a ha => ?_⟩
    refine ⟨a, ca ec, v, rfl, T.oex, T.no, upd_same, fun dx hdx hne => ⟨rfl, dx, [("at", v)], upd_same, by rw [upd_ne hne, upd_same], ?_, ?_⟩⟩
    · rw [upd_ne hne] at hdx
      exact hdx
    · have hd1 : H1 dx = none := by
        rw [upd_ne hne] at hdx
        exact hdx
      rw [raise_heap ha hd1 hne]
      have x2 : Ex H1 (upd H1 dx (.xd [("at", v)])) := Ex.new hd1
      have E2 := (E.ext x1).ext x2
      have rv2 : Rep ⟨X.K, ca⟩ (hide (Msk M L) (upd H1 dx (.xd [("at", v)]))) v d := VR.mono (m := .s) (B := B) (M := M) (L := L) x2 rv
      have hB := (E.ext x1).eb.free hd1
      cases hΓ : J.Γx with
      | none => exact pp dx v L σ _ E2.eb upd_same hB rv2 fun Γx h => by rw [hΓ] at h; cases h
      | some Γx =>
        obtain ⟨L', sub, E3⟩ := E2.weak (hx Γx hΓ)
        exact pp dx v L' σ _ E2.eb upd_same hB (rv2.mono (hide_le fun a o h q => ⟨fun z => h (by
          rcases z with z | z
          · exact .inl z
          · exact .inr (sub a z)), q⟩)) fun Γy h => by
            rw [hΓ] at h
            cases h
            exact E3
end
end DL

/-! DL: built-ins by data; unpacking; enumerate. -/
namespace DL
open PySem PySem.Spec PyProof.Rows L2
/-! ### len, list, sorted, max, min, any, all, isinstance -/
def gLen : List D → Option D
  | [a] => (seqOf a).map fun ds => .int ds.length
  | _ => none
def gMax2 : List D → Option D
  | [.int i, .int j] => some (.int (if j > i then j else i))
  | _ => none
def gMin2 : List D → Option D
  | [.int i, .int j] => some (.int (if j < i then j else i))
  | _ => none
def asInts : List D → Option (List Int)
  | [] => some []
  | .int i :: ds => (asInts ds).map (i :: ·)
  | _ :: _ => none
def asBools : List D → Option (List Bool)
  | [] => some []
  | .bl b :: ds => (asBools ds).map (b :: ·)
  | _ :: _ => none
def maxI : Int → List Int → Int
  | m, [] => m
  | m, n :: ns => maxI (if n > m then n else m) ns
def minI : Int → List Int → Int
  | m, [] => m
  | m, n :: ns => minI (if n < m then n else m) ns
def gMax : List D → Option D
  | [a] => ((seqOf a).bind asInts).bind fun ns => match ns with
    | [] => none
    | n :: ns => some (.int (maxI n ns))
  | _ => none
def gMin : List D → Option D
  | [a] => ((seqOf a).bind asInts).bind fun ns => match ns with
    | [] => none
    | n :: ns => some (.int (minI n ns))
  | _ => none
def gAny : List D → Option D
  | [a] => ((lstOf a).bind asBools).map fun bs => .bl (bs.any id)
  | _ => none
def gAll : List D → Option D
  | [a] => ((lstOf a).bind asBools).map fun bs => .bl (bs.all id)
  | _ => none
theorem asInts_some : ∀ {ds : List D} {ns : List Int}, asInts ds = some ns → ds = ns.map .int
  | [], _, h => by cases h; rfl
  | .int i :: ds, ns, h => by
    obtain ⟨ms, e1, e2⟩ := Option.map_eq_some_iff.mp (show (asInts ds).map (i :: ·) = some ns from h)
    subst e2
    rw [asInts_some e1]
    rfl
  | .non :: _, _, h => nomatch h
  | .bl _ :: _, _, h => nomatch h
  | .str _ :: _, _, h => nomatch h
  | .tup _ :: _, _, h => nomatch h
  | .lst _ :: _, _, h => nomatch h
  | .scr _ :: _, _, h => nomatch h
  | .dI _ :: _, _, h => nomatch h
  | .dT _ :: _, _, h => nomatch h
  | .dS _ :: _, _, h => nomatch h
  | .obj _ _ :: _, _, h => nomatch h
  | .cls _ :: _, _, h => nomatch h
theorem asInts_map : ∀ ns : List Int, asInts (ns.map .int) = some ns
  | [] => rfl
  | n :: ns => by
    show (asInts (ns.map .int)).map (n :: ·) = _
    rw [asInts_map ns]
    rfl
theorem asBools_some : ∀ {ds : List D} {bs : List Bool}, asBools ds = some bs → ds = bs.map .bl
  | [], _, h => by cases h; rfl
  | .bl i :: ds, ns, h => by
    obtain ⟨ms, e1, e2⟩ := Option.map_eq_some_iff.mp (show (asBools ds).map (i :: ·) = some ns from h)
    subst e2
    rw [asBools_some e1]
    rfl
  | .non :: _, _, h => nomatch h
  | .int _ :: _, _, h => nomatch h
  | .str _ :: _, _, h => nomatch h
  | .tup _ :: _, _, h => nomatch h
  | .lst _ :: _, _, h => nomatch h
  | .scr _ :: _, _, h => nomatch h
  | .dI _ :: _, _, h => nomatch h
  | .dT _ :: _, _, h => nomatch h
  | .dS _ :: _, _, h => nomatch h
  | .obj _ _ :: _, _, h => nomatch h
  | .cls _ :: _, _, h => nomatch h
theorem asBools_map : ∀ bs : List Bool, asBools (bs.map .bl) = some bs
  | [] => rfl
  | n :: ns => by
    show (asBools (ns.map .bl)).map (n :: ·) = _
    rw [asBools_map ns]
    rfl
theorem maxI_is : ∀ (ns : List Int) (m x : Int), (x = m ∨ x ∈ ns) → m ≤ x → (∀ y ∈ ns, y ≤ x) → x = maxI m ns
  | [], m, x, h, _, _ => by
    rcases h with h | h
    · exact h
    · cases h
  | n :: ns, m, x, h, hm, hn => by
    have h1 := hn n (.head _)
    unfold maxI
    refine maxI_is ns _ x ?_ ?_ fun y hy => hn y (.tail _ hy)
    · rcases h with h | h
      · subst h
        left
        split <;> omega
      · rcases List.mem_cons.mp h with h | h
        · subst h
          left
          split <;> omega
        · exact .inr h
    · split <;> omega
theorem minI_is : ∀ (ns : List Int) (m x : Int), (x = m ∨ x ∈ ns) → x ≤ m → (∀ y ∈ ns, x ≤ y) → x = minI m ns
  | [], m, x, h, _, _ => by
    rcases h with h | h
    · exact h
    · cases h
  | n :: ns, m, x, h, hm, hn => by
    have h1 := hn n (.head _)
    unfold minI
    refine minI_is ns _ x ?_ ?_ fun y hy => hn y (.tail _ hy)
    · rcases h with h | h
      · subst h
        left
        split <;> omega
      · rcases List.mem_cons.mp h with h | h
        · subst h
          left
          split <;> omega
        · exact .inr h
    · split <;> omega
section
variable {X : Cx} {ca : Cl → Addr}
theorem reps1 {c : Ct} {H : Hp} {xs : List V} {a : D} (r : Reps c H xs [a]) : ∃ x, xs = [x] ∧ Rep c H x a := by
  cases r with
  | cons h r => cases r; exact ⟨_, rfl, h⟩
theorem reps2 {c : Ct} {H : Hp} {xs : List V} {a b : D} (r : Reps c H xs [a, b]) : ∃ x y, xs = [x, y] ∧ Rep c H x a ∧ Rep c H y b := by
  cases r with
  | cons h r =>
    cases r with
    | cons h2 r => cases r; exact ⟨_, _, rfl, h, h2⟩
theorem reps_ints {c : Ct} {H : Hp} {xs : List V} {ns : List Int} (r : Reps c H xs (ns.map .int)) : xs = ns.map V.int := r.ints
theorem reps_bools {c : Ct} {H : Hp} : ∀ {bs : List Bool} {xs : List V}, Reps c H xs (bs.map .bl) → xs = bs.map V.bl
  | [], _, r => by cases r; rfl
  | b :: bs, _, r => by
    cases r with
    | cons h r => cases h; rw [reps_bools r]; rfl
theorem cg_len : CG X ca (.builtin "len") gLen := ⟨_, call_len_seq, fun H xs ds d r h => by
  match ds, h with
  | [a], h =>
    obtain ⟨es, e1, e2⟩ := Option.map_eq_some_iff.mp (show (seqOf a).map (fun ds => D.int ds.length) = some d from h)
    subst e2
    obtain ⟨x, rfl, rx⟩ := reps1 r
    obtain ⟨p, ys, rfl, hq, rs⟩ := seq_rep (Ex.refl H) (.inl rx) e1
    rw [← rs.length]
    exact ⟨_, .int _, fun Q q => ⟨p, ys, rfl, hq, q⟩⟩⟩
theorem cg_max2 (hc : X.calm = true := by rfl) : CG X ca (.builtin "max") gMax2 := ⟨_, call_max2 hc, fun H xs ds d r h => by
  match ds, h with
  | [.int i, .int j], h =>
    cases h
    obtain ⟨x, y, rfl, rx, ry⟩ := reps2 r
    cases rx
    cases ry
    exact ⟨_, .int _, fun Q q => ⟨i, j, rfl, q⟩⟩⟩
theorem cg_min2 (hc : X.calm = true := by rfl) : CG X ca (.builtin "min") gMin2 := ⟨_, call_min2 hc, fun H xs ds d r h => by
  match ds, h with
  | [.int i, .int j], h =>
    cases h
    obtain ⟨x, y, rfl, rx, ry⟩ := reps2 r
    cases rx
    cases ry
    exact ⟨_, .int _, fun Q q => ⟨i, j, rfl, q⟩⟩⟩
theorem lst_rep {c : Ct} {S H : Hp} {x : V} {a : D} {ds : List D} (e : Ex S H) (h : Rep c S x a) (hd : lstOf a = some ds) : ∃ p xs, x = .ref p ∧ SqL c.K H p xs ∧ Reps c S xs ds := by
  obtain ⟨p, xs, e1, h1, h2⟩ := lst_in h hd
  exact ⟨p, xs, e1, h1 H e, h2⟩
theorem cg_any (hc : X.calm = true := by rfl) : CG X ca (.builtin "any") gAny := ⟨_, cr_any hc, fun H xs ds d r h => by
  match ds, h with
  | [a], h =>
    obtain ⟨bs, e1, e2⟩ := Option.map_eq_some_iff.mp (show ((lstOf a).bind asBools).map (fun bs => D.bl (bs.any id)) = some d from h)
    subst e2
    obtain ⟨es, e1, e3⟩ := bind_some e1
    rw [asBools_some e3] at e1
    obtain ⟨x, rfl, rx⟩ := reps1 r
    obtain ⟨p, ys, rfl, hq, rs⟩ := lst_rep (Ex.refl H) rx e1
    rw [reps_bools rs] at hq
    exact ⟨_, .bl _, fun Q q => ⟨p, bs, rfl, hq, q⟩⟩⟩
theorem cg_all (hc : X.calm = true := by rfl) : CG X ca (.builtin "all") gAll := ⟨_, cr_all hc, fun H xs ds d r h => by
  match ds, h with
  | [a], h =>
    obtain ⟨bs, e1, e2⟩ := Option.map_eq_some_iff.mp (show ((lstOf a).bind asBools).map (fun bs => D.bl (bs.all id)) = some d from h)
    subst e2
    obtain ⟨es, e1, e3⟩ := bind_some e1
    rw [asBools_some e3] at e1
    obtain ⟨x, rfl, rx⟩ := reps1 r
    obtain ⟨p, ys, rfl, hq, rs⟩ := lst_rep (Ex.refl H) rx e1
    rw [reps_bools rs] at hq
    exact ⟨_, .bl _, fun Q q => ⟨p, bs, rfl, hq, q⟩⟩⟩
/-- list(x) -/
theorem cn_list : CN X ca (.type "list") seqOf := ⟨_, call_list_of, fun S H x a es e r h => by
  obtain ⟨p, xs, rfl, hq, rs⟩ := seq_rep e r h
  exact ⟨xs, rs, fun Q q => ⟨p, xs, rfl, hq, fun l hl => q l hl⟩⟩⟩
/-! sorted -/
def isTupC : PyData → Bool
  | .tuple (_ :: _) => true
  | _ => false
def isOther : PyData → Bool
  | .none => false
  | .tuple _ => false
  | _ => true
/-- all alike, tuples with an item, or others -/
def okSort (ds : List D) : Bool := (ds.all fun a => ds.all fun b => PySem.W.alike (toP a) (toP b)) && ((ds.all fun a => isTupC (toP a)) || (ds.all fun a => isOther (toP a))) && (ds.all fun a => decide ((toP a).depth ≤ 60)) && (ds.all fun a => (toP a).plain) && decide (ds.length ≤ 100000)
def leD (a b : D) : Bool := PySem.W.dataLe false toP a b
def sortD (ds : List D) : List D := ds.mergeSort leD
def gSort (a : D) : Option (List D) := (lstOf a).bind fun ds => if okSort ds = true then some (sortD ds) else none
def rSortR (c : Ct) : List V → Hp → VK → Prop := fun vs H Q => ∃ (p : Addr) (zs : List (V × D)), vs = [.ref p] ∧ SqL c.K H p (zs.map (·.1)) ∧ Reps c H (zs.map (·.1)) (zs.map (·.2)) ∧ okSort (zs.map (·.2)) = true ∧
  ∀ q, H q = none → Q (.ref q) (upd H q (.lst ((zs.mergeSort fun a b => leD a.2 b.2).map (·.1))))
theorem each_of_vals {h : Heap} : ∀ {zs : List (V × D)} {us : List Value}, Vals (zs.map (·.1)) us → (∀ z ∈ zs, ∀ u, RelV z.1 u → ∃ as, Reads h u (toP z.2) as) →
    PySem.W.EachIs (fun (v : Value) (z : V × D) => RelV z.1 v) us zs ∧ PySem.W.EachIs (fun (v : Value) (z : V × D) => ∃ as, Reads h v (toP z.2) as) us zs
  | [], _, r, _ => by cases r; exact ⟨.nil, .nil⟩
  | z :: zs, _, r, k => by
    cases r with
    | cons h r =>
      obtain ⟨a, b⟩ := each_of_vals r fun z hz => k z (.tail _ hz)
      exact ⟨.cons h a, .cons (k z (.head _) _ h) b⟩
theorem vals_of_each : ∀ {zs : List (V × D)} {us : List Value}, PySem.W.EachIs (fun (v : Value) (z : V × D) => RelV z.1 v) us zs → Vals (zs.map (·.1)) us
  | [], _, h => by cases h; exact .nil
  | z :: zs, _, h => by
    cases h with
    | cons h r => exact .cons h (vals_of_each r)
theorem okSort_inv {ds : List D} (h : okSort ds = true) : PySem.W.AllAlike (ds.map toP) ∧ PySem.W.Sortable (ds.map toP) ∧ (∀ a ∈ ds, (toP a).depth ≤ 60) ∧ (∀ a ∈ ds, (toP a).plain = true) ∧ ds.length ≤ 100000 := by
  unfold okSort at h
  simp only [Bool.and_eq_true, Bool.or_eq_true, List.all_eq_true, decide_eq_true_eq] at h
  obtain ⟨⟨⟨⟨h1, h2⟩, h3⟩, h4⟩, h5⟩ := h
  refine ⟨fun x hx y hy => ?_, ?_, h3, h4, h5⟩
  · obtain ⟨a, ha, rfl⟩ := List.mem_map.mp hx
    obtain ⟨b, hb, rfl⟩ := List.mem_map.mp hy
    exact h1 a ha b hb
  · rcases h2 with h2 | h2
    · refine .inl fun x hx => ?_
      obtain ⟨a, ha, rfl⟩ := List.mem_map.mp hx
      have q := h2 a ha
      cases e : toP a with
      | tuple xs =>
        rw [e] at q
        cases xs with
        | nil => exact nomatch q
        | cons y r => exact ⟨y, r, rfl⟩
      | _ => rw [e] at q; exact nomatch q
    · refine .inr fun x hx => ?_
      obtain ⟨a, ha, rfl⟩ := List.mem_map.mp hx
      have q := h2 a ha
      exact ⟨fun e => by rw [e] at q; exact (Bool.noConfusion q), fun xs e => by rw [e] at q; exact Bool.noConfusion q⟩
theorem cr_sortR {k : Nat} (hr : Room k X.A) : CallR X (.builtin "sorted") (rSortR ⟨X.K, ca⟩) := by
  intro pins s σ H vs us Q I r h
  obtain ⟨p, zs, rfl, hs, rs, ok, q⟩ := h
  obtain ⟨h1, h2, h3, h4, h5⟩ := okSort_inv ok
  obtain ⟨its, rv, hl, hz⟩ := I.list hs
  rw [Vals.ref1 r]
  have rd : ∀ z ∈ zs, ∀ u, RelV z.1 u → ∃ as, Reads s.heap u (toP z.2) as := fun z hz u ru => by
    obtain ⟨i, hi, e⟩ := List.mem_iff_getElem.mp hz
    obtain ⟨d, e1, e2⟩ := rs.get (i := i) (v := z.1) (by rw [List.getElem?_map, List.getElem?_eq_getElem hi, e]; rfl)
    rw [List.getElem?_map, List.getElem?_eq_getElem hi, e] at e1
    cases e1
    exact e2.reads I rfl (h4 _ (List.mem_map.mpr ⟨z, hz, rfl⟩)) ru
  obtain ⟨a1, a2⟩ := each_of_vals rv rd
  have em : zs.map (fun z => toP z.2) = (zs.map (·.2)).map toP := by rw [List.map_map]; rfl
  refine PySem.W.sorted_data (bs := zs) (enc := fun z => toP z.2) hl.isList a1 a2 (by rw [em]; exact h1) (by rw [em]; exact h2) (by rw [List.length_map] at h5; exact sz5 h5) (fun z hz => ?_) fun out ho eo => ?_
  · have := h3 _ (List.mem_map.mpr ⟨z, hz, rfl⟩)
    have := hr.units
    omega
  · obtain ⟨ep, he'⟩ := PyProof.Rows.sortedAll_at s.heap its out.toArray
    have rr : Vals ((zs.mergeSort fun a b => leD a.2 b.2).map (·.1)) out := vals_of_each eo
    refine ⟨.ref _, upd H (s.heap.objs.size + 1) (.lst ((zs.mergeSort fun a b => leD a.2 b.2).map (·.1))), I.laid (t' := s.toks) (fun _ _ => PyProof.Rows.sortedAll_old) (Nat.le_succ _) ⟨?_, out, ep, rr, he'⟩, rfl, q _ (I.hok.fresh (Nat.le_succ _))⟩
    rw [List.length_map, List.length_mergeSort]
    rw [List.length_map] at h5
    exact sz5 h5
theorem reps_sort {c : Ct} {S : Hp} {xs : List V} {ds : List D} (r : Reps c S xs ds) : Reps c S (((xs.zip ds).mergeSort fun a b => leD a.2 b.2).map (·.1)) (sortD ds) := by
  have e1 : ((xs.zip ds).mergeSort fun a b => leD a.2 b.2).map (·.2) = sortD ds := by
    have e : (xs.zip ds).map (·.2) = ds := by
      rw [List.map_snd_zip]
      rw [r.length]
      exact Nat.le_refl _
    have q := List.map_mergeSort (r := fun a b : V × D => leD a.2 b.2) (s := leD) (f := fun z : V × D => z.2) (l := xs.zip ds) fun _ _ _ _ => rfl
    have q2 : (xs.zip ds).map (fun z : V × D => z.2) = ds := e
    rw [q2] at q
    exact q
  rw [← e1]
  have all : ∀ (ys : List (V × D)), (∀ z ∈ ys, Rep c S z.1 z.2) → Reps c S (ys.map (·.1)) (ys.map (·.2)) := by
    intro ys
    induction ys with
    | nil => intro _; exact .nil
    | cons y ys ih => intro h; exact .cons (h y (.head _)) (ih fun z hz => h z (.tail _ hz))
  refine all _ fun z hz => ?_
  have hz' : z ∈ xs.zip ds := (List.mergeSort_perm _ _).mem_iff.mp hz
  obtain ⟨i, hi, e⟩ := List.mem_iff_getElem.mp hz'
  have e2 : (xs.zip ds)[i]? = some z := by rw [List.getElem?_eq_getElem hi, e]
  obtain ⟨g1, g2⟩ := List.getElem?_zip_eq_some.mp e2
  obtain ⟨d, g3, g4⟩ := r.get g1
  rw [g2] at g3
  cases g3
  exact g4
/-- sorted(x), a list of data -/
theorem cn_sorted {k : Nat} (hr : Room k X.A) : CN X ca (.builtin "sorted") gSort := ⟨_, cr_sortR (ca := ca) hr, fun S H x a es e r h => by
  obtain ⟨ds, e1, h⟩ := bind_some h
  obtain ⟨ok, h⟩ := ite_some' h
  cases h
  obtain ⟨p, xs, rfl, hq, rs⟩ : ∃ p xs, x = .ref p ∧ SqL X.K H p xs ∧ Reps ⟨X.K, ca⟩ S xs ds := by
    rcases r with r | ⟨p, rfl, ho⟩
    · exact lst_rep (c := ⟨X.K, ca⟩) e r e1
    · cases a with
      | lst ds' =>
        cases e1
        obtain ⟨xs, g1, g2⟩ := ho.flat_lst
        exact ⟨p, xs, rfl, SqL.of g1, g2⟩
      | scr ns => cases ho
      | _ => cases e1
  have ez1 : (xs.zip ds).map (·.1) = xs := by
    rw [List.map_fst_zip]
    rw [rs.length]
    exact Nat.le_refl _
  have ez2 : (xs.zip ds).map (·.2) = ds := by
    rw [List.map_snd_zip]
    rw [rs.length]
    exact Nat.le_refl _
  exact ⟨_, reps_sort rs, fun Q q => ⟨p, xs.zip ds, rfl, by rw [ez1]; exact hq, by rw [ez1, ez2]; exact rs.mono e, by rw [ez2]; exact ok, fun q' hq' => q q' hq'⟩⟩⟩
end

/-! ### isinstance against a built-in type -/
def tyName : D → Option String
  | .non => some "NoneType"
  | .bl _ => some "bool"
  | .int _ => some "int"
  | .str _ => some "str"
  | .tup _ => some "tuple"
  | .lst _ => some "list"
  | .dI _ => some "dict"
  | .dT _ => some "dict"
  | .dS _ => some "dict"
  | _ => none
def gIsi (T : String) (d : D) : Option D := (tyName d).bind fun n => (kitB n T).map .bl
section
variable {X : Cx} {ca : Cl → Addr} {Γ : List Md} {pos p p2 : Pos} {e : Expr} {m : Vm} {f : DFn} {T : Str} {n : String}
theorem ty_of {c : Ct} {H : Hp} {v : V} {d : D} {n : String} (r : Rep c H v d) (h : tyName d = some n) : TyX c.K H v (.type n) := by
  cases r with
  | non => cases h; exact .base .non
  | bl b => cases h; exact .base (.bl b)
  | int i => cases h; exact .base (.int i)
  | str x => cases h; exact .base (.str x)
  | tup h' _ => cases h; exact .base (.tup h')
  | lst h' _ => cases h; exact .base (.lst h')
  | dI _ h' _ => cases h; exact .base (.dK h')
  | dT _ h' _ => cases h; exact .base (.dT h')
  | dS _ h' _ => cases h; exact .base (.dK h')
  | scr => cases h
  | obj => cases h
  | cls => cases h
theorem pd_isi (he : PDE X ca Γ e m f) (h1 : X.mg "isinstance" = none) (h2 : X.mg T = none) (hT : bootBuiltins T = some (.type n) := by decide +kernel) (hb : bootBuiltins "isinstance" = some (.builtin "isinstance") := by decide +kernel) (hg : Gl X "isinstance" := by rfl) (hg2 : Gl X T := by rfl) (hn2 : T ≠ "__name__" := by decide) (hd2 : (T == ("__debug__" : Str)) = false := by decide)
    (hs : starEach (e :: [.Name T p2]) X.env = (false, eval e X.env) :: starEach [.Name T p2] X.env := by rfl) (hs2 : starEach [.Name T p2] X.env = (false, eval (.Name T p2) X.env) :: starEach [] X.env := by rfl) (hpl : (backTo pos (starEach [.Name T p2] X.env)).any (·.1) = false := by rfl) :
    PDE X ca Γ (.Call (.Name "isinstance" p) [e, .Name T p2] [] pos) .s (d1 (gIsi n) f) := by
  obtain ⟨t, pe, q⟩ := he
  refine ⟨_, pe_callB call_isi hg h1 hb (pa_cons pe (pa_cons (pe_bltn (v := .ty n) hg2 h2 hT rfl hn2 hd2) pa_nil hs2) hs) (by decide) (by decide) hs hpl, fun B S0 M L σ H ρ E d hd Q k => ?_⟩
  obtain ⟨a, e1, hd⟩ := bind_some hd
  obtain ⟨nm, e2, hd⟩ := bind_some hd
  obtain ⟨b, e3, hd⟩ := Option.map_eq_some_iff.mp hd
  subst hd
  refine q B S0 M L σ H ρ E a e1 _ fun v H1 x1 r => ?_
  exact ⟨v, .ty n, .type nm, .type n, b, rfl, .ty n, ty_of (c := ⟨X.K, ca⟩) (r.rep (E.eb.trans x1)) e2, kit_ty e3, k _ H1 x1 (.bl b)⟩
end

/-! ### chained comparisons, unpacking, enumerate -/
def dChain (g g' : D → D → Option D) (fa fb fc : DFn) : DFn := fun ρ => (fa ρ).bind fun a => (fb ρ).bind fun b => (g a b).bind fun x => (asB x).bind fun k => if k = true then (fc ρ).bind fun c => g' b c else some (.bl false)
def dUnpk (f : DFn) (u : D → List D → Option (List D)) : SFn := fun ρ => match (f ρ).bind fun d => u d ρ with
  | some ρ' => .nx ρ'
  | none => .bad
section
variable {X : Cx} {ca : Cl → Addr} {W : WX} {J : Jd} {Γ Γ' : List Md} {pos p tpos : Pos} {a b c e tg : Expr} {ma mb mc m : Vm} {fa fb fc f : DFn} {op op' : CmpOp} {g g' : D → D → Option D} {sh : Bool} {is : List Nat} {u : D → List D → Option (List D)}
theorem DE.chain {ct : Ct} {ta tb tc : TE} {r r' : R2} (qa : DE ct Γ ta ma fa) (qb : DE ct Γ tb mb fb) (qc : DE ct Γ tc mc fc)
    (h2 : ∀ H x y a b d, Rep ct H x a → Rep ct H y b → g a b = some d → ∃ v, Im v d ∧ ∀ Q : VK, Q v H → r x y H Q) (h2' : ∀ H x y a b d, Rep ct H x a → Rep ct H y b → g' a b = some d → ∃ v, Im v d ∧ ∀ Q : VK, Q v H → r' x y H Q) :
    DE ct Γ (tChain r r' ta tb tc) .s (dChain g g' fa fb fc) := by
  intro B S0 M L σ H ρ E d hd Q k
  obtain ⟨a, e1, hd⟩ := bind_some hd
  obtain ⟨b, e2, hd⟩ := bind_some hd
  obtain ⟨x, e3, hd⟩ := bind_some hd
  obtain ⟨kk, e4, hd⟩ := bind_some hd
  refine qa B S0 M L σ H ρ E a e1 _ fun v1 H1 x1 r1 => ?_
  refine qb B S0 M L σ H1 ρ (E.ext x1) b e2 _ fun v2 H2 x2 r2 => ?_
  have E2 := (E.ext x1).ext x2
  obtain ⟨v, iv, go⟩ := h2 H2 v1 v2 a b x ((r1.mono x2).rep E2.eb) (r2.rep E2.eb) e3
  refine go _ ?_
  cases x with
  | bl z =>
    have e4' : z = kk := Option.some.inj e4
    subst e4'
    have ev : v = .bl z := by
      have := iv ct H2
      cases this
      rfl
    subst ev
    refine ⟨z, rfl, ?_⟩
    cases z with
    | false =>
      refine iteF ?_
      cases hd
      exact k _ H2 (x1.trans x2) (.bl _)
    | true =>
      refine iteT ?_
      obtain ⟨cc, e5, hd⟩ := bind_some hd
      refine qc B S0 M L σ H2 ρ E2 cc e5 _ fun v3 H3 x3 r3 => ?_
      have E3 := E2.ext x3
      obtain ⟨v', iv', go'⟩ := h2' H3 v2 v3 b cc d ((r2.mono x3).rep E3.eb) (r3.rep E3.eb) hd
      exact go' Q (k v' H3 ((x1.trans x2).trans x3) (iv'.vr (by intro z; cases z)))
  | _ => cases e4
theorem pd_chain (h : OG X ca op g) (h' : OG X ca op' g') (ha : PDE X ca Γ a ma fa) (hb : PDE X ca Γ b mb fb) (hc : PDE X ca Γ c mc fc) (hl : lastMarks [op, op'] [b, c] = false := by rfl) (hm : behindInMarks op b = false := by first | exact nomark _ | rfl) (hm' : behindInMarks op' c = false := by first | exact nomark _ | rfl) : PDE X ca Γ (.Compare a [op, op'] [b, c] pos) .s (dChain g g' fa fb fc) := by
  obtain ⟨r, h1, h2⟩ := h
  obtain ⟨r', h1', h2'⟩ := h'
  obtain ⟨ta, pa, qa⟩ := ha
  obtain ⟨tb, pb, qb⟩ := hb
  obtain ⟨tc, pc, qc⟩ := hc
  exact ⟨_, pe_chain h1 h1' pa pb pc hl, qa.chain qb qc h2 h2'⟩
theorem pdt_chain (h : OG X ca op g) (h' : OG X ca op' g') (ha : PDE X ca Γ a ma fa) (hb : PDE X ca Γ b mb fb) (hc : PDE X ca Γ c mc fc) (hl : lastMarks [op, op'] [b, c] = false := by rfl) (hm : behindInMarks op b = false := by first | exact nomark _ | rfl) (hm' : behindInMarks op' c = false := by first | exact nomark _ | rfl) : PDT X ca Γ (.Compare a [op, op'] [b, c] pos) (DL.tB (dChain g g' fa fb fc)) := by
  obtain ⟨r, h1, h2⟩ := h
  obtain ⟨r', h1', h2'⟩ := h'
  obtain ⟨ta, pa, qa⟩ := ha
  obtain ⟨tb, pb, qb⟩ := hb
  obtain ⟨tc, pc, qc⟩ := hc
  exact ⟨_, pt_chain h1 h1' pa pb pc hl, (qa.chain qb qc h2 h2').tt⟩
/-- a, b = e -/
theorem pds_unpk (he : PDE X ca Γ e (vm sh) f) (hg : PDG X ca sh Γ tg Γ' is u) (hs : swapsWithSole [tg] e pos.line X.env = pure false := by rfl) (hw : swappedStores [tg] e X.env = pure none := by rfl) (h1 : (assignEach [tg] X.env).map (·.2) = [assign tg X.env] := by rfl) : PDS X ca W J Γ (.Assign [tg] e pos) Γ' (dUnpk f u) := by
  obtain ⟨t, p1, q1⟩ := he
  obtain ⟨gt, p2, q2⟩ := hg
  refine ⟨_, ps_asg p1 p2 hs hw h1, fun B S0 M L σ H ρ N E pp => ?_⟩
  unfold dUnpk at pp
  cases hd : f ρ with
  | none => rw [hd] at pp; exact pp.elim
  | some d =>
    rw [hd] at pp
    have pp' : Post ⟨X.K, ca⟩ B S0 M J W Γ' N (match u d ρ with | some ρ' => .nx ρ' | none => .bad) := pp
    cases hu : u d ρ with
    | none => rw [hu] at pp'; exact pp'.elim
    | some ρ' =>
      rw [hu] at pp'
      refine q1 B S0 M L σ H ρ E d hd _ fun v H1 x1 r => ?_
      exact q2 B S0 M L σ H1 ρ (E.ext x1) v d ρ' r hu N.nx fun σ' _ E' => pp' L σ' H1 E'
end
end DL

/-! DL: enumerate; arguments of one's own. -/
namespace DL
open PySem PySem.Spec PyProof.Rows L2
/-- i, d in a pair -/
def enumFrom (i : Nat) : List D → List D
  | [] => []
  | d :: ds => .tup [.int (i : Int), d] :: enumFrom (i + 1) ds
theorem enumFrom_length : ∀ (ds : List D) (i : Nat), (enumFrom i ds).length = ds.length
  | [], _ => rfl
  | _ :: ds, i => congrArg Nat.succ (enumFrom_length ds (i + 1))
theorem enumFrom_get : ∀ (ds : List D) (i j : Nat) (d : D), ds[j]? = some d → (enumFrom i ds)[j]? = some (.tup [.int ((i + j : Nat) : Int), d])
  | [], _, _, _, h => by simp at h
  | d :: ds, i, 0, _, h => by
    simp at h
    subst h
    rfl
  | d :: ds, i, j + 1, x, h => by
    have := enumFrom_get ds (i + 1) j x (by simpa using h)
    show (enumFrom (i + 1) ds)[j]? = _
    rw [this]
    congr 5
    omega
/-- the items ds, each new or known in S -/
def WalksN (c : Ct) (B S : Hp) (J : It) (ds : List D) : Prop := ∃ (n : Nat) (G : Hp → Prop) (Y : Nat → Hp → V → Hp → Prop), n = ds.length ∧ Walk J n G Y ∧ (∀ H, Ex B H → Ex S H → G H) ∧
  ∀ i H v H', i < n → Ex B H → Ex S H → Y i H v H' → Ex H H' ∧ ∃ d, ds[i]? = some d ∧ ∀ m : Addr → Prop, (∀ a, m a → Mut (H a)) → Ex S (hide m H) → Rep c (hide m H') v d
def PDIN (X : Cx) (ca : Cl → Addr) (Γ : List Md) (tg iter : Expr) (f : List D → Option (List D)) : Prop := ∃ wi, PI X tg iter wi ∧
  ∀ (B S0 : Hp) (M : Mz) (L : List (List Addr)) (σ : L2.St) (H : Hp) (ρ : List D), EnvR ⟨X.K, ca⟩ B S0 M Γ L σ H ρ → ∀ ds, f ρ = some ds → ∀ R : It → Hp → Prop,
    (∀ J H', Ex H H' → WalksN ⟨X.K, ca⟩ B (hide (Msk M L) H') J ds → R J H') → wi σ H R
def iEnum (f : DFn) : List D → Option (List D) := fun ρ => ((f ρ).bind lstOf).map (enumFrom 0)
section
variable {X : Cx} {ca : Cl → Addr} {W : WX} {J : Jd} {Γ Γ1 Γ2 Γ' : List Md} {st : Stmt} {sts rest : List Stmt} {F G : SFn} {e : Expr} {f : DFn} {m : Vm} {pos pos' p : Pos} {x : Str} {is : List Nat}
theorem walks_enum {c : Ct} {B S : Hp} {a : Addr} {xs : List V} {ds : List D} (h : ∀ H, Ex S H → SqL c.K H a xs) (r : Reps c S xs ds) : WalksN c B S (Ite c.K a) (enumFrom 0 ds) :=
  ⟨xs.length, _, _, by rw [enumFrom_length]; exact r.length, walk_enum (K := c.K) (a := a) (xs := xs), fun H _ e => h H e, fun i H v H' hi _ eS y => by
    obtain ⟨T, x, z, rfl, h2, rfl, h4, h5⟩ := y
    cases h4
    obtain ⟨d, g1, g2⟩ := r.get h5
    refine ⟨Ex.new h2, _, enumFrom_get ds 0 i d g1, fun m hm eS' => ?_⟩
    have nm : ¬ m T := fun z => by
      have q := hm T z
      rw [h2] at q
      exact q
    refine .tup (hide_in nm upd_same) (.cons ?_ (.cons ((g2.mono eS').mono (hide_mono (Ex.new h2))) .nil))
    rw [Nat.zero_add]
    exact .int _⟩
theorem pdin_enum {l : Expr} {elts : List Expr} {kk : Nat} {tpos : Pos} (hl : PDE X ca Γ l .s f) (hm : X.mg "enumerate" = none) (hg : Gl X "enumerate" := by rfl) (hs : starEach [l] X.env = [(false, eval l X.env)] := by rfl) : PDIN X ca Γ (.Tuple elts kk tpos) (.Call (.Name "enumerate" p) [l] [] pos) (DL.iEnum f) := by
  obtain ⟨t, pl, q⟩ := hl
  refine ⟨_, pi_enum hg hm (pa_cons pl pa_nil hs) hs, fun B S0 M L σ H ρ E ds hd R k => ?_⟩
  obtain ⟨ds0, e1, hd⟩ := Option.map_eq_some_iff.mp hd
  subst hd
  obtain ⟨a, e2, e1⟩ := bind_some e1
  refine q B S0 M L σ H ρ E a e2 _ fun v H1 x1 r => ?_
  obtain ⟨p', xs, rfl, hs, rs⟩ := lst_in r e1
  exact ⟨p', xs, rfl, hs H1 hide_ex, k _ H1 x1 (walks_enum (c := ⟨X.K, ca⟩) hs rs)⟩
theorem pds_forN {tg iter : Expr} {body : List Stmt} {fi : List D → Option (List D)} {u : D → List D → Option (List D)} (hp : PassesOwn (model X.prog X.w) X.A X.env X.xe) (hi : PDIN X ca Γ tg iter fi) (hg : PDG X ca true Γ tg Γ1 is u)
    (hb : PDSs X ca W { J with Γb := Γ, Γc := Γ } Γ1 body Γ F) (hc : X.calm = true := by rfl) (hs : ∀ x, foldedSetIterable iter X.env x = pure x := by intro _; rfl) : PDS X ca W J Γ (.For tg iter body [] pos) Γ (dFor fi u F) := by
  obtain ⟨wi, p1, q1⟩ := hi
  obtain ⟨g, p2, q2⟩ := hg
  obtain ⟨tb, p3, q3⟩ := hb
  refine ⟨_, ps_for hp hc p1 p2 p3 hs, fun B S0 M L σ H ρ N E pp => ?_⟩
  unfold dFor at pp
  cases hd : fi ρ with
  | none => rw [hd] at pp; exact pp.elim
  | some ds =>
    rw [hd] at pp
    refine q1 B S0 M L σ H ρ E ds hd _ fun Jt H1 x1 ⟨n, G, Y, hn, wk, hG, hY⟩ => ?_
    have E1 := E.ext x1
    have hS01 : Ex S0 (hide (Msk M L) H1) := E1.es
    refine for_it (D := N) (n := n) wk (fun i σ H => ∃ L' ρ', EnvR ⟨X.K, ca⟩ B (hide (Msk M L) H1) M Γ L' σ H ρ' ∧ Post ⟨X.K, ca⟩ B S0 M J W Γ N (forD u F (ds.drop i) ρ')) ⟨L, ρ, ⟨E1.eb, E1.hm, Ex.refl _, E1.ap, E1.hl, E1.sl⟩, pp⟩ (fun i σ H _ ⟨L', ρ', E, _⟩ => hG H E.eb (E.es.trans hide_ex)) ?_ ?_
    · rintro i v σ H' H'' hi ⟨L', ρ', E', post⟩ y
      obtain ⟨x2, d, h1, h2⟩ := hY i H' v H'' hi E'.eb (E'.es.trans hide_ex) y
      have hdr : ds.drop i = d :: ds.drop (i + 1) := by
        obtain ⟨hlt, e⟩ := List.getElem?_eq_some_iff.mp h1
        rw [List.drop_eq_getElem_cons hlt, e]
      rw [hdr, forD] at post
      cases hu : u d ρ' with
      | none => rw [hu] at post; exact post.elim
      | some ρ1 =>
        rw [hu] at post
        have rv : VR ⟨X.K, ca⟩ .s B M L' H'' v d := h2 (Msk M L') (fun a z => by
          rcases z with z | z
          · exact (E'.hm a z).1
          · exact (E'.hl a z).1) E'.es
        refine q2 B _ M L' σ H'' ρ' (E'.ext x2) v d ρ1 rv hu _ fun σ2 _ E2 => ?_
        exact q3 B _ M L' σ2 H'' ρ1 _ E2 (Post.turn hS01 post fun ρ2 L3 σ3 H3 E3 p3 => ⟨L3, ρ2, E3, p3⟩)
    · rintro σ H' ⟨L', ρ', E', post⟩
      rw [hn, List.drop_length, forD] at post
      exact post L' σ H' (E'.base hS01)
end

/-! ### a first argument that is new -/
def cmp1s : Vm → Md → Bool
  | .s, .s => true
  | .s, .b => true
  | _, _ => false
def cmpss : List Vm → List Md → Bool
  | [], [] => true
  | m :: ms, g :: gs => cmp1s m g && cmpss ms gs
  | _, _ => false
section
variable {c : Ct} {z : Addr} {B S0 H : Hp} {M : Mz} {L : List (List Addr)}
theorem VRs.slotsS {S T H2 : Hp} (eT : Ex (hide (Msk M L) H) T) (eS : Ex (hide (Msk M L) H) S) : ∀ {ms : List Vm} {Γ0 : List Md} {vs : List V} {ds : List D}, cmpss ms Γ0 = true → VRs c B M L H ms vs ds → Slots c T z S H2 Γ0 (noAdr Γ0) (vs.map some) ds
  | [], [], _, _, _, .nil => .nil
  | [], _ :: _, _, _, h, _ => nomatch h
  | _ :: _, [], _, _, h, _ => nomatch h
  | m :: ms, g :: Γ0, _, _, h, .cons r rs => by
    obtain ⟨h1, h2⟩ := Bool.and_eq_true_iff.mp (show (cmp1s m g && cmpss ms Γ0) = true from h)
    refine .cons ?_ (rs.slotsS eT eS h2)
    cases m with
    | s =>
      have r' : Rep c (hide (Msk M L) H) _ _ := r
      cases g with
      | s => exact ⟨rfl, _, rfl, r'.mono eS⟩
      | b => exact ⟨rfl, _, rfl, r'.mono eT⟩
      | n => exact nomatch h1
      | f => exact nomatch h1
      | x => exact nomatch h1
      | o => exact nomatch h1
      | e => exact nomatch h1
    | t => exact nomatch h1
    | b => exact nomatch h1
    | f => exact nomatch h1
/-- the callee's state where its first argument p is new -/
theorem VRs.envF {Γ : List Md} {σ : L2.St} {ρ : List D} {p : Addr} {d : D} (hnm : ¬ M p) (E : EnvR c B S0 ⟨fun a => M a ∨ a = p, M.z⟩ Γ L σ H ρ) {ms : List Vm} {Γ0 : List Md} {vs : List V} {ds : List D} (hc : cmpss ms Γ0 = true) (hp : Own c (hide (fun a => Msk M L a ∨ a = p) H) H [p] (.ref p) d) (r : VRs c B ⟨fun a => M a ∨ a = p, M.z⟩ L H ms vs ds) :
    EnvR c (hide (fun a => a = p) H) (fun _ => none) ⟨fun a => Msk M L a, M.z⟩ (.f :: Γ0) ([p] :: noAdr Γ0) ((V.ref p :: vs).map some) H (d :: ds) := by
  have mp : Mut (H p) := (E.hm p (.inr rfl)).1
  have npL : ¬ In L p := (E.hm p (.inr rfl)).2
  have inx : ∀ a, In ([p] :: noAdr Γ0) a → a = p := fun a h => by
    rcases h.inv with h | h
    · simpa using h
    · exact (noAdr_in h).elim
  have e0 : Ex (hide (Msk ⟨fun a => M a ∨ a = p, M.z⟩ L) H) (hide (Msk ⟨fun a => Msk M L a, M.z⟩ ([p] :: noAdr Γ0)) H) := hide_le fun a o h q => ⟨fun z => h (by
    rcases z with (z | z) | z
    · exact .inl (.inl z)
    · exact .inr z
    · exact .inl (.inr (inx a z))), q⟩
  have e1 : Ex (hide (Msk ⟨fun a => M a ∨ a = p, M.z⟩ L) H) (hide (fun a => a = p) H) := hide_le fun a o h q => ⟨fun z => h (.inl (.inr z)), q⟩
  have e2 : Ex (hide (fun a => Msk M L a ∨ a = p) H) (hide (Msk ⟨fun a => Msk M L a, M.z⟩ ([p] :: noAdr Γ0)) H) := hide_le fun a o h q => ⟨fun z => h (by
    rcases z with z | z
    · exact .inl z
    · exact .inr (inx a z)), q⟩
  refine ⟨hide_ex, fun a h => ⟨?_, fun z => ?_⟩, fun _ _ h => (nomatch h), ⟨fun a _ h => (noAdr_in h).elim, noAdr_apart _⟩, fun a h => ?_, ?_⟩
  · rcases h with h | h
    · exact (E.hm a (.inl h)).1
    · exact (E.hl a h).1
  · rw [inx a z] at h
    rcases h with h | h
    · exact hnm h
    · exact npL h
  · rw [inx a h]
    refine ⟨mp, ?_⟩
    unfold hide
    rw [if_pos rfl]
  · refine .cons ⟨p, rfl, rfl, hp.mono e2 fun _ _ _ h => h⟩ ?_
    exact r.slotsS e1 e0 hc
end
section
variable {X : Cx} {ca : Cl → Addr} {Γ Γ0 : List Md} {k : Nat} {f : Addr} {fd : FuncData} {ps : List Str} {G : List D → Rs} {dvs : List V} {ds : List Value} {dfl : List D} {x m : Str} {p pos apos : Pos} {e o : Expr} {es : List Expr} {ms : List Vm} {f1 : DFn} {fs : List D → Option (List D)} {mo : Vm} {fo : DFn}
/-- f(new, ..) -/
theorem pd_callF (F : FnOk X.prog X.w X.K X.mg X.base (L2N.CX X.prog X.w) k f fd ps (SpD ⟨X.K, ca⟩ (.f :: Γ0) false G)) (hr : Room k X.A) (hm : X.mg x = some (.ref f)) (hk : PySem.W.keepIn X.K (.ref f) = true) (hb : Binds X.K fd ps ds) (hd : Vals dvs ds) (hi : Ims dvs dfl)
    (h1 : PDN X ca Γ e f1) (ha : PDA X ca Γ es ms fs) (hc : cmpss (ms ++ List.replicate dfl.length .s) Γ0 = true := by decide) (hg : Gl X x := by rfl) (hdb : (x == ("__debug__" : Str)) = false := by decide) (he : starEach (e :: es) X.env = (false, eval e X.env) :: starEach es X.env := by rfl) (hpl : (backTo pos (starEach es X.env)).any (·.1) = false := by rfl) :
    PDE X ca Γ (.Call (.Name x p) (e :: es) [] pos) .s (dFun G (dConsA f1 fs) dfl) := by
  obtain ⟨t1, p1, q1⟩ := h1
  obtain ⟨t, pa, q⟩ := ha
  refine ⟨_, pe_call F hr hg hm hk hb hd passLN (pa_cons p1 pa he) hdb he hpl, fun B S0 M L σ H ρ E d hd Q kk => ?_⟩
  obtain ⟨as, e1, hd⟩ := bind_some hd
  obtain ⟨d1, e2, e1⟩ := bind_some e1
  obtain ⟨ar, e3, e1⟩ := Option.map_eq_some_iff.mp e1
  subst e1
  refine q1 B S0 M L σ H ρ E d1 e2 _ fun a H1 x1 ha ho => ?_
  have mu : Mut (H1 a) := ho.there a (.head _)
  have E1 := E.guard ha x1 mu
  refine q B S0 _ L σ H1 ρ E1 ar e3 _ fun vs H2 x2 r => ?_
  have E2 := E1.ext x2
  have ho2 : Own ⟨X.K, ca⟩ (hide (fun b => Msk M L b ∨ b = a) H2) H2 [a] (.ref a) d1 := ho.mono (hide_mono x2) fun b _ o h => x2 b o h
  refine ⟨_, _, _, _, _, VRs.envF (E.noM ha) E2 hc ho2 (r.app hi.vrs), ?_⟩
  cases h : G (d1 :: (ar ++ dfl)) with
  | ok d' =>
    have hd' : okR (G (d1 :: (ar ++ dfl))) = some d := hd
    rw [h] at hd'
    cases hd'
    intro v H3 x3 res
    have x4 : Ex H H3 := fun b o q => x3 b o (hide_in (fun z => by rw [z, ha] at q; exact (nomatch q)) (x2 b o (x1 b o q)))
    exact kk v H3 x4 res
  | exc e d' =>
    have hd' : okR (G (d1 :: (ar ++ dfl))) = some d := hd
    rw [h] at hd'
    cases hd'
  | bad =>
    have hd' : okR (G (d1 :: (ar ++ dfl))) = some d := hd
    rw [h] at hd'
    cases hd'
end
end DL

/-! DL: dicts by int keys and by tuples of ints. -/
namespace DL
open PySem PySem.Spec PyProof.Rows L2
/-! ### pairs of keys and values -/
section
variable {κ δ : Type} [DecidableEq κ] [DecidableEq δ]
def valD (kvs : List (δ × D)) (k : δ) : Option D := (kvs.find? fun kv => decide (kv.1 = k)).map (·.2)
def putD (kvs : List (δ × D)) (k : δ) (d : D) : List (δ × D) :=
  if (kvs.any fun kv => decide (kv.1 = k)) = true then kvs.map (fun kv => if kv.1 = k then (kv.1, d) else kv) else kvs ++ [(k, d)]
def dropD (kvs : List (δ × D)) (k : δ) : List (δ × D) := kvs.filter fun kv => decide (kv.1 ≠ k)
inductive KVs (c : Ct) (S : Hp) (e : δ → κ) : List (κ × V) → List (δ × D) → Prop
  | nil : KVs c S e [] []
  | cons {k : δ} {v : V} {d : D} {r : List (κ × V)} {t : List (δ × D)} : Rep c S v d → KVs c S e r t → KVs c S e ((e k, v) :: r) ((k, d) :: t)
variable {c : Ct} {S S' : Hp} {e : δ → κ}
theorem KVs.mono (x : Ex S S') : ∀ {r : List (κ × V)} {t : List (δ × D)}, KVs c S e r t → KVs c S' e r t
  | _, _, .nil => .nil
  | _, _, .cons h r => .cons (h.mono x) (r.mono x)
theorem KVs.length : ∀ {r : List (κ × V)} {t : List (δ × D)}, KVs c S e r t → r.length = t.length
  | _, _, .nil => rfl
  | _, _, .cons _ r => congrArg Nat.succ r.length
theorem KVs.of : ∀ {ks : List δ} {vs : List V} {ds : List D}, ks.length = vs.length → Reps c S vs ds → KVs c S e ((ks.map e).zip vs) (ks.zip ds)
  | [], [], _, _, r => by cases r; exact .nil
  | [], _ :: _, _, h, _ => by simp at h
  | _ :: _, [], _, h, _ => by simp at h
  | k :: ks, v :: vs, _, h, r => by
    cases r with
    | cons h1 r => exact .cons h1 (KVs.of (by simpa using h) r)
theorem KVs.to : ∀ {r : List (κ × V)} {t : List (δ × D)}, KVs c S e r t → ∃ (ks : List δ) (vs : List V) (ds : List D), ks.length = vs.length ∧ r = (ks.map e).zip vs ∧ t = ks.zip ds ∧ Reps c S vs ds
  | _, _, .nil => ⟨[], [], [], rfl, rfl, rfl, .nil⟩
  | _, _, .cons (k := k) (v := v) (d := d) h r => by
    obtain ⟨ks, vs, ds, h1, h2, h3, h4⟩ := r.to
    subst h2 h3
    exact ⟨k :: ks, v :: vs, d :: ds, by simpa using h1, rfl, rfl, .cons h h4⟩
theorem KVs.any (he : ∀ a b, e a = e b → a = b) (k : δ) : ∀ {r : List (κ × V)} {t : List (δ × D)}, KVs c S e r t → (r.any fun kv => decide (kv.1 = e k)) = (t.any fun kv => decide (kv.1 = k))
  | _, _, .nil => rfl
  | _, _, .cons (k := k') h r => by
    rw [List.any_cons, List.any_cons, r.any he k]
    by_cases q : k' = k
    · subst q; simp
    · have q' : ¬ e k' = e k := fun z => q (he _ _ z)
      simp [q, q']
theorem KVs.val (he : ∀ a b, e a = e b → a = b) (k : δ) : ∀ {r : List (κ × V)} {t : List (δ × D)}, KVs c S e r t → (valV r (e k) = none ∧ valD t k = none) ∨ ∃ v d, valV r (e k) = some v ∧ valD t k = some d ∧ Rep c S v d
  | _, _, .nil => .inl ⟨rfl, rfl⟩
  | _, _, .cons (k := k') (v := v) (d := d) h r => by
    by_cases q : k' = k
    · subst q
      exact .inr ⟨v, d, valV_pos rfl, by simp [valD], h⟩
    · have q' : ¬ e k' = e k := fun z => q (he _ _ z)
      rw [valV_neg (p := (e k', v)) q']
      have q2 : ∀ t : List (δ × D), valD ((k', d) :: t) k = valD t k := fun t => by simp [valD, List.find?_cons, q]
      rw [q2]
      exact r.val he k
theorem KVs.snoc (k : δ) {v : V} {d : D} (h : Rep c S v d) : ∀ {r : List (κ × V)} {t : List (δ × D)}, KVs c S e r t → KVs c S e (r ++ [(e k, v)]) (t ++ [(k, d)])
  | _, _, .nil => .cons h .nil
  | _, _, .cons h' r => .cons h' (r.snoc k h)
theorem KVs.set (he : ∀ a b, e a = e b → a = b) (k : δ) {v : V} {d : D} (h : Rep c S v d) : ∀ {r : List (κ × V)} {t : List (δ × D)}, KVs c S e r t → KVs c S e (r.map fun kv => if kv.1 = e k then (kv.1, v) else kv) (t.map fun kv => if kv.1 = k then (kv.1, d) else kv)
  | _, _, .nil => .nil
  | _, _, .cons (k := k') (v := v') (d := d') h' r => by
    rw [List.map_cons, List.map_cons]
    by_cases q : k' = k
    · subst q
      rw [if_pos rfl, if_pos rfl]
      exact .cons h (r.set he k' h)
    · have q' : ¬ e k' = e k := fun z => q (he _ _ z)
      rw [if_neg q, if_neg q']
      exact .cons h' (r.set he k h)
theorem KVs.put (he : ∀ a b, e a = e b → a = b) (k : δ) {v : V} {d : D} (h : Rep c S v d) {r : List (κ × V)} {t : List (δ × D)} (x : KVs c S e r t) : KVs c S e (putK r (e k) v) (putD t k d) := by
  unfold putK putD
  rw [x.any he k]
  split
  · exact x.set he k h
  · exact x.snoc k h
theorem KVs.vals : ∀ {r : List (κ × V)} {t : List (δ × D)}, KVs c S e r t → Reps c S (r.map (·.2)) (t.map (·.2))
  | _, _, .nil => .nil
  | _, _, .cons h r => .cons h r.vals
theorem KVs.keys : ∀ {r : List (κ × V)} {t : List (δ × D)}, KVs c S e r t → r.map (·.1) = (t.map (·.1)).map e
  | _, _, .nil => rfl
  | _, _, .cons h r => by rw [List.map_cons, List.map_cons, List.map_cons, r.keys]
end
def eI : Int → Key := Sum.inl
def eT : List Int → List Key := List.map Sum.inl
theorem eI_inj (a b : Int) (h : eI a = eI b) : a = b := Sum.inl.inj h
theorem eT_inj : ∀ a b : List Int, eT a = eT b → a = b
  | [], [], _ => rfl
  | [], _ :: _, h => by simp [eT] at h
  | _ :: _, [], h => by simp [eT] at h
  | x :: xs, y :: ys, h => by
    simp only [eT, List.map_cons, List.cons.injEq] at h
    rw [Sum.inl.inj h.1, eT_inj xs ys h.2]
section
variable {c : Ct} {S H : Hp} {v : V} {p : Addr}
theorem Rep.dI_inv {kvs : List (Int × D)} (h : Rep c S v (.dI kvs)) : ∃ a es, v = .ref a ∧ S a = some (.dK es) ∧ KVs c S eI es kvs := by
  generalize e : D.dI kvs = d at h
  cases h with
  | dI l h r => cases e; exact ⟨_, _, rfl, h, KVs.of l r⟩
  | _ => cases e
theorem Rep.dT_inv {kvs : List (List Int × D)} (h : Rep c S v (.dT kvs)) : ∃ a es, v = .ref a ∧ S a = some (.dT es) ∧ KVs c S eT es kvs := by
  generalize e : D.dT kvs = d at h
  cases h with
  | dT l h r => cases e; exact ⟨_, _, rfl, h, KVs.of l r⟩
  | _ => cases e
theorem Own.dI_inv {kvs : List (Int × D)} (h : Own c S H [p] (.ref p) (.dI kvs)) : ∃ es, H p = some (.dK es) ∧ KVs c S eI es kvs := by
  generalize e : D.dI kvs = d at h
  cases h with
  | dI l h r => cases e; exact ⟨_, h, KVs.of l (r.flat rfl)⟩
  | _ => cases e
theorem Own.dT_inv {kvs : List (List Int × D)} (h : Own c S H [p] (.ref p) (.dT kvs)) : ∃ es, H p = some (.dT es) ∧ KVs c S eT es kvs := by
  generalize e : D.dT kvs = d at h
  cases h with
  | dT l h r => cases e; exact ⟨_, h, KVs.of l (r.flat rfl)⟩
  | _ => cases e
theorem KVs.ownI {es : List (Key × V)} {kvs : List (Int × D)} (x : KVs c S eI es kvs) (h : H p = some (.dK es)) : Own c S H [p] (.ref p) (.dI kvs) := by
  obtain ⟨ks, vs, ds, h1, h2, h3, h4⟩ := x.to
  subst h2 h3
  exact .dI h1 h (Owns.sh h4)
theorem KVs.ownT {es : List (List Key × V)} {kvs : List (List Int × D)} (x : KVs c S eT es kvs) (h : H p = some (.dT es)) : Own c S H [p] (.ref p) (.dT kvs) := by
  obtain ⟨ks, vs, ds, h1, h2, h3, h4⟩ := x.to
  subst h2 h3
  exact .dT h1 h (Owns.sh h4)
/-- a tuple of ints -/
def asT : D → Option (List Int)
  | .tup ds => asInts ds
  | _ => none
theorem Rep.key {d : D} {ns : List Int} (h : Rep c S v d) (e : asT d = some ns) : ∃ b, v = .ref b ∧ S b = some (.tup ((eT ns).map kV)) := by
  cases d with
  | tup ds =>
    have e' := asInts_some e
    subst e'
    generalize q : D.tup (ns.map D.int) = d at h
    cases h with
    | tup h r =>
      cases q
      rw [r.ints] at h
      refine ⟨_, rfl, ?_⟩
      rw [h]
      unfold eT
      rw [List.map_map]
      rfl
    | _ => cases q
  | _ => cases e
end
/-! ### how a dict is known: its heap and its items' heap -/
def DictR (c : Ct) (S H : Hp) (v : V) (d : D) : Prop := match d with
  | .dI kvs => ∃ a es, v = .ref a ∧ H a = some (.dK es) ∧ KVs c S eI es kvs
  | .dT kvs => ∃ a es, v = .ref a ∧ H a = some (.dT es) ∧ KVs c S eT es kvs
  | _ => False
def isDict : D → Bool
  | .dI _ => true
  | .dT _ => true
  | _ => false
/-- what stands at a key -/
def getD' (a b : D) : Option (Option D) := match a with
  | .dI kvs => (match b with
    | .int k => some (valD kvs k)
    | _ => none)
  | .dT kvs => (asT b).map fun k => valD kvs k
  | _ => none
def putD' (a b d : D) : Option D := match a with
  | .dI kvs => (match b with
    | .int k => if kvs.length < 100000 then some (.dI (putD kvs k d)) else none
    | _ => none)
  | .dT kvs => (asT b).bind fun k => if kvs.length < 100000 then some (.dT (putD kvs k d)) else none
  | _ => none
section
variable {c : Ct} {S H : Hp} {v w : V} {a b d : D}
theorem DictR.get (r : DictR c S H v a) (rk : Rep c H w b) {o : Option D} (h : getD' a b = some o) : ∃ p r, v = .ref p ∧ DGet H p w r ∧ ((r = none ∧ o = none) ∨ ∃ x y, r = some x ∧ o = some y ∧ Rep c S x y) := by
  cases a with
  | dI kvs =>
    cases b with
    | int k =>
      cases h
      cases rk
      obtain ⟨p, es, rfl, h1, h2⟩ := r
      exact ⟨p, _, rfl, DGet.k (k := eI k) h1, h2.val eI_inj k⟩
    | _ => cases h
  | dT kvs =>
    obtain ⟨k, h1, h2⟩ := Option.map_eq_some_iff.mp h
    subst h2
    obtain ⟨q, rfl, h3⟩ := rk.key h1
    obtain ⟨p, es, rfl, h4, h5⟩ := r
    exact ⟨p, _, rfl, DGet.t h4 h3, h5.val eT_inj k⟩
  | _ => cases h
theorem Rep.dictR (r : Rep c S v a) (e : Ex S H) (hd : isDict a = true) : DictR c S H v a := by
  cases a with
  | dI kvs => obtain ⟨p, es, h1, h2, h3⟩ := r.dI_inv; exact ⟨p, es, h1, e _ _ h2, h3⟩
  | dT kvs => obtain ⟨p, es, h1, h2, h3⟩ := r.dT_inv; exact ⟨p, es, h1, e _ _ h2, h3⟩
  | _ => cases hd
theorem Own.dictR {p : Addr} (r : Own c S H [p] (.ref p) a) (hd : isDict a = true) : DictR c S H (.ref p) a := by
  cases a with
  | dI kvs => obtain ⟨es, h1, h2⟩ := r.dI_inv; exact ⟨p, es, rfl, h1, h2⟩
  | dT kvs => obtain ⟨es, h1, h2⟩ := r.dT_inv; exact ⟨p, es, rfl, h1, h2⟩
  | _ => cases hd
theorem getD'_is {o : Option D} (h : getD' a b = some o) : isDict a = true := by
  cases a with
  | dI _ => rfl
  | dT _ => rfl
  | _ => cases h
theorem DictR.isD (r : DictR c S H v a) : ∃ p, v = .ref p ∧ IsD H p := by
  cases a with
  | dI kvs => obtain ⟨p, es, h1, h2, _⟩ := r; exact ⟨p, h1, .inl ⟨es, .inl h2⟩⟩
  | dT kvs => obtain ⟨p, es, h1, h2, _⟩ := r; exact ⟨p, h1, .inr ⟨es, .inl h2⟩⟩
  | _ => exact r.elim
end
/-- the heap in which a value's items are known -/
theorem VR.dictR {c : Ct} {B S0 H : Hp} {M : Mz} {L : List (List Addr)} {Γ : List Md} {σ : L2.St} {ρ : List D} {m : Vm} {v : V} {d : D} (E : EnvR c B S0 M Γ L σ H ρ) (r : VR c m B M L H v d) (hd : isDict d = true) :
    ∃ S, DictR c S H v d ∧ ∀ x y, Rep c S x y → VR c m.item B M L H x y := by
  cases m with
  | t => exact ⟨H, Rep.dictR r (Ex.refl _) hd, fun x y h => h⟩
  | b => exact ⟨B, Rep.dictR r E.eb hd, fun x y h => h⟩
  | s => exact ⟨_, Rep.dictR r hide_ex hd, fun x y h => h⟩
  | f => obtain ⟨p, rfl, ho, _⟩ := r; exact ⟨_, ho.dictR hd, fun x y h => h⟩
def gDIn (b a : D) : Option D := (getD' a b).map fun o => .bl o.isSome
def gDNotIn (b a : D) : Option D := (getD' a b).map fun o => .bl (!o.isSome)
def gDIx (a b : D) : Option D := (getD' a b).bind id
def gDGet1 (a b : D) : Option D := (getD' a b).map fun o => o.getD .non
def dDGet2 (f g h : DFn) : DFn := fun ρ => (f ρ).bind fun a => (g ρ).bind fun b => (h ρ).bind fun x => (getD' a b).map fun o => o.getD x
section
variable {X : Cx} {ca : Cl → Addr} {Γ : List Md} {pos p apos cpos : Pos} {a b e : Expr} {ma mb me : Vm} {fa fb fe : DFn}
theorem dict_get2 {t u : TE} (qa : DE ⟨X.K, ca⟩ Γ t ma fa) (qb : DE ⟨X.K, ca⟩ Γ u mb fb) {B S0 : Hp} {M : Mz} {L : List (List Addr)} {σ : L2.St} {H : Hp} {ρ : List D} (E : EnvR ⟨X.K, ca⟩ B S0 M Γ L σ H ρ) {a b : D} {o : Option D} (ea : fa ρ = some a) (eb : fb ρ = some b) (eo : getD' a b = some o) {Q : Addr → V → Option V → Hp → Prop}
    (k : ∀ H2 p w r, Ex H H2 → DGet H2 p w r → ((r = none ∧ o = none) ∨ ∃ x y, r = some x ∧ o = some y ∧ VR ⟨X.K, ca⟩ ma.item B M L H2 x y) → Q p w r H2) : t σ H fun x H1 => u σ H1 fun y H2 => ∃ a v, x = .ref a ∧ Q a y v H2 := by
  refine qa B S0 M L σ H ρ E a ea _ fun x H1 x1 r1 => ?_
  refine qb B S0 M L σ H1 ρ (E.ext x1) b eb _ fun y H2 x2 r2 => ?_
  have E2 := (E.ext x1).ext x2
  obtain ⟨S, dr, it⟩ := VR.dictR E2 (r1.mono x2) (getD'_is eo)
  obtain ⟨p, r, e1, g, alt⟩ := dr.get (r2.rep E2.eb) eo
  refine ⟨p, r, e1, k H2 p y r (x1.trans x2) g ?_⟩
  rcases alt with alt | ⟨x', y', h1, h2, h3⟩
  · exact .inl alt
  · exact .inr ⟨x', y', h1, h2, it _ _ h3⟩
/-- d[k] -/
theorem pd_dix (hr : X.A.units + 1 < cLine) (ha : PDE X ca Γ a ma fa) (hb : PDE X ca Γ b mb fb) (hs : NoSl b := by exact fun _ _ => rfl) : PDE X ca Γ (.Subscript a b pos) ma.item (d2 gDIx fa fb) := by
  obtain ⟨t, p, qa⟩ := ha
  obtain ⟨u, p2, qb⟩ := hb
  refine ⟨_, pe_dget hr p p2 hs, fun B S0 M L σ H ρ E d hd Q k => ?_⟩
  obtain ⟨x, e1, hd⟩ := bind_some hd
  obtain ⟨y, e2, hd⟩ := bind_some hd
  obtain ⟨o, e3, hd⟩ := bind_some hd
  refine qa B S0 M L σ H ρ E x e1 _ fun v H1 x1 r1 => ?_
  refine qb B S0 M L σ H1 ρ (E.ext x1) y e2 _ fun w H2 x2 r2 => ?_
  have E2 := (E.ext x1).ext x2
  obtain ⟨S, dr, it⟩ := VR.dictR E2 (r1.mono x2) (getD'_is e3)
  obtain ⟨p, r, h1, g, alt⟩ := dr.get (r2.rep E2.eb) e3
  rcases alt with ⟨_, h3⟩ | ⟨x', y', h2, h3, h4⟩
  · subst h3; cases hd
  · subst h2 h3
    cases hd
    exact ⟨p, x', h1, g, k x' H2 (x1.trans x2) (it _ _ h4)⟩
theorem pc_dI {op : CmpOp} {g : Bool → Bool} {gg : D → D → Option D} {t u : TE} (hg : gg = fun b a => (getD' a b).map fun o => .bl (g o.isSome)) {r : TE} (hrr : ∀ σ H Q, (t σ H fun y H1 => u σ H1 fun x H2 => ∃ a o, x = .ref a ∧ DGet H2 a y o ∧ Q (.bl (g o.isSome)) H2) → r σ H Q)
    (qb : DE ⟨X.K, ca⟩ Γ t mb fb) (qa : DE ⟨X.K, ca⟩ Γ u ma fa) : DE ⟨X.K, ca⟩ Γ r .s (d2 gg fb fa) := fun B S0 M L σ H ρ E d hd Q k => by
  subst hg
  obtain ⟨y, e2, hd⟩ := bind_some hd
  obtain ⟨x, e1, hd⟩ := bind_some hd
  obtain ⟨o, e3, hd⟩ := Option.map_eq_some_iff.mp hd
  subst hd
  refine hrr σ H Q ?_
  refine qb B S0 M L σ H ρ E y e2 _ fun w H1 x1 r2 => ?_
  refine qa B S0 M L σ H1 ρ (E.ext x1) x e1 _ fun v H2 x2 r1 => ?_
  have E2 := (E.ext x1).ext x2
  obtain ⟨S, dr, it⟩ := VR.dictR E2 r1 (getD'_is e3)
  obtain ⟨p, r, h1, gg, alt⟩ := dr.get ((r2.mono x2).rep E2.eb) e3
  refine ⟨p, r, h1, gg, ?_⟩
  have e : r.isSome = o.isSome := by
    rcases alt with ⟨h2, h3⟩ | ⟨x', y', h2, h3, _⟩
    · rw [h2, h3]
      rfl
    · rw [h2, h3]
      rfl
  rw [e]
  exact k _ H2 (x1.trans x2) (.bl _)
/-- k in d -/
theorem pd_din (hr : X.A.units + 1 < cLine) (hb : PDE X ca Γ b mb fb) (ha : PDE X ca Γ a ma fa) (hm : behindInMarks .In a = false := by first | exact nomark _ | rfl) : PDE X ca Γ (.Compare b [.In] [a] pos) .s (d2 gDIn fb fa) := by
  obtain ⟨t, p, qa⟩ := ha
  obtain ⟨u, p2, qb⟩ := hb
  exact ⟨_, pe_cmp (pc_din hr p2 p) hm, pc_dI (g := fun b => b) (op := .In) rfl (fun σ H Q h => h) qb qa⟩
theorem pd_dnotin (hr : X.A.units + 1 < cLine) (hb : PDE X ca Γ b mb fb) (ha : PDE X ca Γ a ma fa) (hm : behindInMarks .NotIn a = false := by first | exact nomark _ | rfl) : PDE X ca Γ (.Compare b [.NotIn] [a] pos) .s (d2 gDNotIn fb fa) := by
  obtain ⟨t, p, qa⟩ := ha
  obtain ⟨u, p2, qb⟩ := hb
  exact ⟨_, pe_cmp (pc_dnotin hr p2 p) hm, pc_dI (g := fun b => !b) (op := .NotIn) rfl (fun σ H Q h => h) qb qa⟩
theorem pdt_din (hr : X.A.units + 1 < cLine) (hb : PDE X ca Γ b mb fb) (ha : PDE X ca Γ a ma fa) (hm : behindInMarks .In a = false := by first | exact nomark _ | rfl) : PDT X ca Γ (.Compare b [.In] [a] pos) (DL.tB (d2 gDIn fb fa)) := by
  obtain ⟨t, p, qa⟩ := ha
  obtain ⟨u, p2, qb⟩ := hb
  exact ⟨_, pt_cmp (pc_din hr p2 p) hm, (pc_dI (X := X) (ca := ca) (g := fun b => b) (op := .In) rfl (fun σ H Q h => h) qb qa).tt⟩
theorem pdt_dnotin (hr : X.A.units + 1 < cLine) (hb : PDE X ca Γ b mb fb) (ha : PDE X ca Γ a ma fa) (hm : behindInMarks .NotIn a = false := by first | exact nomark _ | rfl) : PDT X ca Γ (.Compare b [.NotIn] [a] pos) (DL.tB (d2 gDNotIn fb fa)) := by
  obtain ⟨t, p, qa⟩ := ha
  obtain ⟨u, p2, qb⟩ := hb
  exact ⟨_, pt_cmp (pc_dnotin hr p2 p) hm, (pc_dI (X := X) (ca := ca) (g := fun b => !b) (op := .NotIn) rfl (fun σ H Q h => h) qb qa).tt⟩
end
end DL

/-! DL: sets of ints. -/
namespace DL
open PySem PySem.Spec PyProof.Rows L2
/-! ### the members once -/
section
variable {α : Type} [DecidableEq α]
def ded : List α → List α
  | [] => []
  | x :: xs => if x ∈ xs then ded xs else x :: ded xs
theorem mem_ded {a : α} : ∀ {xs : List α}, a ∈ ded xs ↔ a ∈ xs
  | [] => Iff.rfl
  | x :: xs => by
    unfold ded
    split
    · rename_i h
      rw [mem_ded, List.mem_cons]
      exact ⟨.inr, fun q => q.elim (fun e => e ▸ h) id⟩
    · rw [List.mem_cons, List.mem_cons, mem_ded]
theorem nodup_ded : ∀ xs : List α, (ded xs).Nodup
  | [] => List.nodup_nil
  | x :: xs => by
    unfold ded
    split
    · exact nodup_ded xs
    · rename_i h
      exact List.nodup_cons.mpr ⟨fun q => h (mem_ded.mp q), nodup_ded xs⟩
theorem ded_length : ∀ xs : List α, (ded xs).length ≤ xs.length
  | [] => Nat.le_refl _
  | x :: xs => by
    unfold ded
    split
    · exact Nat.le_succ_of_le (ded_length xs)
    · exact Nat.succ_le_succ (ded_length xs)
theorem ded_of_nodup : ∀ {xs : List α}, xs.Nodup → ded xs = xs
  | [], _ => rfl
  | x :: xs, h => by
    obtain ⟨h1, h2⟩ := List.nodup_cons.mp h
    unfold ded
    rw [if_neg h1, ded_of_nodup h2]
theorem ded_length_iff : ∀ {xs : List α}, (ded xs).length = xs.length ↔ xs.Nodup
  | [] => by simp [ded]
  | x :: xs => by
    unfold ded
    rw [List.nodup_cons]
    split
    · rename_i h
      constructor
      · intro q
        have := ded_length xs
        rw [List.length_cons] at q
        omega
      · intro q
        exact absurd h q.1
    · rename_i h
      rw [List.length_cons, List.length_cons, Nat.add_right_cancel_iff, ded_length_iff]
      exact ⟨fun q => ⟨h, q⟩, fun q => q.2⟩
end
/-! ### set(l), l a list of ints -/
section
variable {P : Program} {w : World} {A : Around} {E : Value → Shared → Prop} {s : Shared}
/-- the empty set that the call makes first -/
def set0 (w : World) : Obj := { cls := .type "set", dict := none, data := .set #[] 0 (.fresh 0 0 (!w.params.followText "set-order")) }
set_option maxHeartbeats 3200000 in
theorem call_setL {l : Addr} {items : Array Value} (ns : List Int) {Q : Value → Shared → Prop} (hh : A.handled = none) (hl : s.heap.IsList l items) (hit : IntsAre items.toList ns) (hb : ns.length + 1 < scanBound)
    (h : ∀ (h' : Heap) (tk c : Nat), SetR w h' s.heap.objs.size (fun j => decide (j ∈ ns)) c → (∀ b o, s.heap.get? b = some o → h'.get? b = some o) → Q (.ref s.heap.objs.size) { s with heap := h', toks := tk }) :
    wpAny (model P w) A (call (.type "set") [.ref l]) Q E s := by
  have hisz : items.size = ns.length := by
    have q := IntsAre.length hit
    rwa [Array.length_toList] at q
  obtain ⟨c0, tl, hmro⟩ := F.called_set.mro
  have hmade := F.called_set.made
  have hsub := F.called_set.sub
  refine wpAny_call (codeAny_of_tree ?_)
  show wpAny _ _ (callAny (.type "set") _) _ _ _
  refine wpAny_pure ⟨Code.quiet_builtin _ (by decide +kernel), codeAny_builtin F.entry_type_call ?_⟩
  rw [Around.under_plain (weight_type_call_type "set" [.ref l] []) rfl]
  have h1 := F.called_set.notType
  have h2 := F.called_set.canCreate
  have hct := F.typeCall_set_1 (.ref l)
  repeat (any_goals (first | assumption | wp_step))
  refine codeAny_mono (code_set_led1 (.ref l) (E := E) (Q₁ := fun obj s₁ => obj = .ref s.heap.objs.size ∧ s₁ = { s with heap := s.heap.push (set0 w) }) ⟨rfl, rfl⟩) fun r s₁ hr => ?_
  cases r with
  | error e => exact hr
  | ok fl =>
    cases fl with
    | ret obj =>
      obtain ⟨rfl, rfl⟩ := hr
      have hS : (s.heap.push (set0 w)).get? s.heap.objs.size = some (set0 w) := Heap.get?_push_size _ rfl
      have hT : Shared.TypeIs { s with heap := s.heap.push (set0 w) } (.ref s.heap.objs.size) "set" := ⟨_, hS, rfl⟩
      have hli := F.called_set.init.lookup
      have hbi := F.called_set.init.bind (.ref s.heap.objs.size)
      repeat (any_goals (first | assumption | wp_step))
      refine codeAny_mono (codeAny_call_builtin (R := wants (fun r s₂ => r = .none ∧ ∃ h' tk c, s₂ = { s with heap := h', toks := tk } ∧ SetR w h' s.heap.objs.size (fun j => decide (j ∈ ns)) c ∧
          (∀ b o, s.heap.get? b = some o → h'.get? b = some o)) E) F.called_set.init.plain F.entry_set_init (check_set_init_1 hT ?_)) fun r₂ s₂ hr₂ => ?_
      · obtain ⟨ol, hol, hcl, nl, hdl⟩ := hl
        obtain ⟨ocls, odict, odata, oslots⟩ := ol
        simp only at hcl hdl
        subst hcl; subst hdl
        have hol' : (s.heap.push (set0 w)).get? l = some { cls := .type "list", dict := odict, data := .seq items nl, slots := oslots } := Heap.get?_push_of_some _ hol
        have hsls := F.sub_list_set
        have hslf := F.sub_list_frozenset
        have hne : (Value.type "list" == Value.type "dict") = false := by decide
        have hl1 : (s.heap.push (set0 w)).IsList l items := ⟨_, hol', rfl, nl, rfl⟩
        unfold Builtin.«set.__init__» noKeywords Builtin.Frozenset.updateFrom
        generalize hPI : pyIter = PI
        wp_walk
        subst hPI
        refine wpAny_pyIter_list hl1 ?_
        refine wpAny_bind (wpAny_runValue ?_)
        have hlS : l < s.heap.objs.size := Heap.lt_size hol
        have hh3 : A.in1.in1.in1.handled = none := by simp [hh]
        have hz1 : (s.heap.push (set0 w)).objs.size = s.heap.objs.size + 1 := Heap.size_push ..
        have hneI : l ≠ (s.heap.push (set0 w)).objs.size := by
          rw [hz1]
          exact Nat.ne_of_lt (Nat.lt_succ_of_lt hlS)
        have hSf : s.heap.objs.size ∉ [(s.heap.push (set0 w)).objs.size, l] := by
          rw [hz1]
          simp only [List.mem_cons, List.not_mem_nil, or_false, not_or]
          exact ⟨Nat.ne_of_lt (Nat.lt_succ_self _), Nat.ne_of_gt hlS⟩
        have hval : ∀ (i : Nat) (v : Value), items[i]? = some v → ∃ k t, ns[i]? = some k ∧ v = .int k t := fun i v hv => by
          have hi : i < ns.length := by rw [← hisz]; exact (Array.getElem?_eq_some_iff.mp hv).1
          obtain ⟨t, e⟩ := PyProof.Rows.IntsAre.int_at hit i v (by rw [Array.getElem?_toList]; exact hv)
          refine ⟨ns[i], t, List.getElem?_eq_getElem hi, ?_⟩
          rw [e, List.getD_eq_getElem?_getD, List.getElem?_eq_getElem hi] <;> rfl
        refine set_update_ints ((Walks.list hh3 _ l hneI items).toS) s.heap.objs.size hSf ns hisz hb hval (items.size - 0) 0 _ (by omega) (Nat.zero_le _) ⟨⟨_, Heap.get?_push_size _ rfl, rfl, rfl⟩, (hl1.push _)⟩ ⟨0, Nat.le_refl 0, setR_new_at (Heap.get?_push_of_some _ hS)⟩ ?_
        intro s' c' hm hc' hS'
        obtain ⟨h', g2, d', tk', os'⟩ := s'
        have eg : g2 = s.gens := hm.gens
        have ed : d' = s.drawn := hm.drawn
        have eo : os' = s.os := hm.os
        subst eg; subst ed; subst eo
        show wpAny _ _ _ _ _ _
        refine wpAny_pure ?_
        show wpAny _ _ (ret Value.none) _ _ _
        refine wpAny_pure ⟨rfl, h', tk', c', rfl, hS', fun b o e => ?_⟩
        have hb0 : b < s.heap.objs.size := Heap.lt_size e
        exact hm.heap b o (by rw [hz1]; simp only [List.mem_cons, List.not_mem_nil, or_false, not_or]; exact ⟨Nat.ne_of_lt hb0, Nat.ne_of_lt (Nat.lt_succ_of_lt hb0)⟩) (Heap.get?_push_of_some _ (Heap.get?_push_of_some _ e))
      · cases r₂ with
        | error e => exact hr₂
        | ok fl₂ =>
          cases fl₂ with
          | ret r =>
            obtain ⟨rfl, h', tk, c', rfl, hS', hk'⟩ := hr₂
            repeat (any_goals (first | assumption | wp_step))
            exact h _ _ _ hS' hk'
          | _ => exact hr₂.elim
    | _ => exact hr.elim
theorem setR_count {w : World} {h : Heap} {a : Addr} {ns : List Int} {c : Nat} (R : SetR w h a (fun j => decide (j ∈ ns)) c) : c = (ded ns).length := by
  obtain ⟨o, es, ep, t, _, _, _, _, nd, hm, _, _, hn, _⟩ := R
  have p : (es.toList.map keyOf).Perm (ded ns) := (List.perm_ext_iff_of_nodup nd (nodup_ded ns)).mpr fun k => by
    rw [mem_ded, ← hm k, decide_eq_true_eq]
  rw [← hn, ← p.length_eq, List.length_map, Array.length_toList]
end
def rSetI (K : PySem.W.Frag) (w : World) : List V → Hp → VK → Prop := fun xs H Q => ∃ (l : Addr) (ns : List Int), xs = [.ref l] ∧ (SqL K H l (ns.map V.int) ∨ SqT K H l (ns.map V.int)) ∧ ns.length < 4000 ∧ ∀ p, H p = none → Q (.ref p) (upd H p (SetO w p (fun j => decide (j ∈ ns)) (ded ns).length))
section
variable {X : Cx} {ca : Cl → Addr}
theorem cr_setI (hc : X.calm = true := by rfl) : CallR X (.type "set") (rSetI X.K X.w) := by
  intro pins s σ H xs us Q I r h
  obtain ⟨l, ns, rfl, hq, h64, q⟩ := h
  rw [Vals.ref1 r]
  have fin : ∀ (h' : Heap) (tk c : Nat), SetR X.w h' s.heap.objs.size (fun j => decide (j ∈ ns)) c → (∀ b o, s.heap.get? b = some o → h'.get? b = some o) → EP X pins σ Q (.ref s.heap.objs.size) { s with heap := h', toks := tk } := fun h' tk c R k => by
    have e := setR_count R
    subst e
    exact ⟨.ref _, upd H s.heap.objs.size (SetO X.w s.heap.objs.size (fun j => decide (j ∈ ns)) (ded ns).length), I.laid (t' := tk) k (Nat.le_refl _) (setO_new R), rfl, q _ (I.hok.fresh (Nat.le_refl _))⟩
  rcases hq with hq | hq
  · obtain ⟨its, rv, hl, hz⟩ := I.list hq
    exact call_setL (I.ok.hd hc) hl.isList (ns := ns) (by simpa using rv.ints) (by unfold scanBound; omega) fin
  · obtain ⟨its, rv, hl, hz⟩ := I.tuple hq
    exact call_set_tupI ns (I.ok.hd hc) hl (by simpa using rv.ints) (by unfold scanBound; omega) fun h' tk c R _ k => fin h' tk c R k
def rLenSet (w : World) : List V → Hp → VK → Prop := fun xs H Q => ∃ a S n, xs = [.ref a] ∧ H a = some (SetO w a S n) ∧ n < 4000 ∧ Q (.int (n : Nat)) H
theorem cr_lenSetO : CallR X (.builtin "len") (rLenSet X.w) := by
  intro pins s σ H xs us Q I r h
  obtain ⟨a, S, n, rfl, ha, h64, q⟩ := h
  rw [Vals.ref1 r]
  obtain ⟨o, es, ep, t, ho, hex, hd, _, _, _, _, hf, hn, _⟩ := setO_get I ha
  exact call_len_set ho hex hd hf (by rw [hn] <;> omega) ⟨.int n, H, I.tok _, ⟨_, by rw [hn]⟩, q⟩
end
theorem map_intD : ∀ {xs ys : List Int}, xs.map D.int = ys.map D.int → xs = ys
  | [], [], _ => rfl
  | [], _ :: _, h => by simp at h
  | _ :: _, [], h => by simp at h
  | x :: xs, y :: ys, h => by
    simp only [List.map_cons, List.cons.injEq, D.int.injEq] at h
    rw [h.1, map_intD h.2]
/-- a list or a tuple of ints, few -/
def intsN (b : Nat) (d : D) : Option (List Int) := ((seqOf d).bind asInts).bind fun ns => if ns.length < b then some ns else none
def intsOf (d : D) : Option (List Int) := intsN 64 d
def sortI (ns : List Int) : List Int := ns.mergeSort fun a b => decide (a ≤ b)
def gSortSet (d : D) : Option D := (intsOf d).map fun ns => .lst ((sortI (ded ns)).map .int)
def gLenSet (d : D) : Option D := (intsN 4000 d).map fun ns => .int (ded ns).length
theorem sortI_unique {ns ys : List Int} (h1 : ys.Pairwise (· < ·)) (h2 : ∀ k, k ∈ ys ↔ k ∈ ns) : ys = sortI (ded ns) := by
  have nd : ys.Nodup := List.nodup_iff_pairwise_ne.mpr (h1.imp fun {a b} h => by omega)
  have p : ys.Perm (ded ns) := (List.perm_ext_iff_of_nodup nd (nodup_ded ns)).mpr fun k => by rw [h2, mem_ded]
  refine List.Perm.eq_of_pairwise (le := fun a b : Int => a ≤ b) (fun a b _ _ h1 h2 => by omega) (h1.imp fun {a b} h => by omega) ?_ (p.trans (List.mergeSort_perm _ _).symm)
  have q := List.pairwise_mergeSort (le := fun a b : Int => decide (a ≤ b)) (fun a b c h1 h2 => by
    simp only [decide_eq_true_eq] at h1 h2 ⊢
    omega) (fun a b => by
    simp only [Bool.or_eq_true, decide_eq_true_eq]
    omega) (ded ns)
  exact q.imp fun {a b} h => of_decide_eq_true h
section
variable {X : Cx} {ca : Cl → Addr} {Γ : List Md} {pos p p2 q : Pos} {a : Expr} {ma : Vm} {fa : DFn}
theorem intsN_rep {b : Nat} {c : Ct} {S H : Hp} {v : V} {d : D} {ns : List Int} (e : Ex S H) (r : Rep c S v d) (h : intsN b d = some ns) : ∃ l, v = .ref l ∧ (SqL c.K H l (ns.map V.int) ∨ SqT c.K H l (ns.map V.int)) ∧ ns.length < b := by
  obtain ⟨ns', e1, h⟩ := bind_some h
  obtain ⟨h64, h⟩ := ite_some' h
  cases h
  obtain ⟨ds, e2, e1⟩ := bind_some e1
  rw [asInts_some e1] at e2
  cases d with
  | lst ds' =>
    cases e2
    generalize q : D.lst (ns.map D.int) = d at r
    cases r with
    | lst h r => cases q; rw [r.ints] at h; exact ⟨_, rfl, .inl (SqL.of (e _ _ h)), h64⟩
    | _ => cases q
  | tup ds' =>
    cases e2
    generalize q : D.tup (ns.map D.int) = d at r
    cases r with
    | tup h r => cases q; rw [r.ints] at h; exact ⟨_, rfl, .inr (SqT.of (e _ _ h)), h64⟩
    | _ => cases q
  | scr ns' =>
    have e3 := map_intD (Option.some.inj e2)
    subst e3
    cases r with
    | scr h => exact ⟨_, rfl, .inl (e.sq h), h64⟩
  | _ => cases e2
theorem intsOf_rep {c : Ct} {S H : Hp} {v : V} {d : D} {ns : List Int} (e : Ex S H) (r : Rep c S v d) (h : intsOf d = some ns) : ∃ l, v = .ref l ∧ (SqL c.K H l (ns.map V.int) ∨ SqT c.K H l (ns.map V.int)) ∧ ns.length < 64 := intsN_rep e r h
theorem pd_sortSet (ha : PDE X ca Γ a ma fa) (h1 : X.mg "sorted" = none) (h2 : X.mg "set" = none) (hg : Gl X "sorted" := by rfl) (hg2 : Gl X "set" := by rfl) (hc : X.calm = true := by rfl)
    (hs : starEach [a] X.env = (false, eval a X.env) :: starEach [] X.env := by rfl) (hs2 : starEach [.Call (.Name "set" p2) [a] [] q] X.env = (false, eval (.Call (.Name "set" p2) [a] [] q) X.env) :: starEach [] X.env := by rfl) (hpl : (backTo q (starEach [] X.env)).any (·.1) = false := by rfl) (hpl2 : (backTo pos (starEach [] X.env)).any (·.1) = false := by rfl) :
    PDN X ca Γ (.Call (.Name "sorted" p) [.Call (.Name "set" p2) [a] [] q] [] pos) (d1 gSortSet fa) := by
  obtain ⟨t, pa, qa⟩ := ha
  refine ⟨_, pe_callB (cr_sortedSet hc) hg h1 (by decide +kernel) (pa_cons (pe_callTy (cr_setI hc) hg2 h2 (by decide +kernel) (pa_cons pa pa_nil hs) (by decide) (by decide) hs hpl) pa_nil hs2) (by decide) (by decide) hs2 hpl2, fun B S0 M L σ H ρ E d hd Q k => ?_⟩
  obtain ⟨x, e1, hd⟩ := bind_some hd
  obtain ⟨ns, e2, hd⟩ := Option.map_eq_some_iff.mp hd
  subst hd
  refine qa B S0 M L σ H ρ E x e1 _ fun v H1 x1 r1 => ?_
  obtain ⟨l, rfl, hq, h64⟩ := intsOf_rep (c := ⟨X.K, ca⟩) (Ex.refl H1) (r1.rep (E.eb.trans x1)) e2
  refine ⟨l, ns, rfl, hq, by omega, fun a ha => ?_⟩
  refine ⟨a, _, _, rfl, upd_same, Nat.lt_of_le_of_lt (ded_length ns) h64, fun ys p' hs hm _ hp => ?_⟩
  have x2 : Ex H1 (upd H1 a (SetO X.w a (fun j => decide (j ∈ ns)) (ded ns).length)) := Ex.new ha
  have e : ys = sortI (ded ns) := sortI_unique hs fun k => by rw [hm k, decide_eq_true_eq]
  rw [e]
  exact k p' _ ((x1.trans x2).trans (Ex.new hp)) (x1.free (x2.free hp)) (.lst upd_same (Owns.sh (Reps.of_ints _)))
theorem pd_lenSet (ha : PDE X ca Γ a ma fa) (h1 : X.mg "len" = none) (h2 : X.mg "set" = none) (hg : Gl X "len" := by rfl) (hg2 : Gl X "set" := by rfl) (hc : X.calm = true := by rfl)
    (hs : starEach [a] X.env = (false, eval a X.env) :: starEach [] X.env := by rfl) (hs2 : starEach [.Call (.Name "set" p2) [a] [] q] X.env = (false, eval (.Call (.Name "set" p2) [a] [] q) X.env) :: starEach [] X.env := by rfl) (hpl : (backTo q (starEach [] X.env)).any (·.1) = false := by rfl) (hpl2 : (backTo pos (starEach [] X.env)).any (·.1) = false := by rfl) :
    PDE X ca Γ (.Call (.Name "len" p) [.Call (.Name "set" p2) [a] [] q] [] pos) .s (d1 gLenSet fa) := by
  obtain ⟨t, pa, qa⟩ := ha
  refine ⟨_, pe_callB cr_lenSetO hg h1 (by decide +kernel) (pa_cons (pe_callTy (cr_setI hc) hg2 h2 (by decide +kernel) (pa_cons pa pa_nil hs) (by decide) (by decide) hs hpl) pa_nil hs2) (by decide) (by decide) hs2 hpl2, fun B S0 M L σ H ρ E d hd Q k => ?_⟩
  obtain ⟨x, e1, hd⟩ := bind_some hd
  obtain ⟨ns, e2, hd⟩ := Option.map_eq_some_iff.mp hd
  subst hd
  refine qa B S0 M L σ H ρ E x e1 _ fun v H1 x1 r1 => ?_
  obtain ⟨l, rfl, hq, h64⟩ := intsN_rep (c := ⟨X.K, ca⟩) (Ex.refl H1) (r1.rep (E.eb.trans x1)) e2
  refine ⟨l, ns, rfl, hq, h64, fun a ha => ?_⟩
  exact ⟨a, _, _, rfl, upd_same, Nat.lt_of_le_of_lt (ded_length ns) h64, k _ _ (x1.trans (Ex.new ha)) (.int _)⟩
end
end DL

/-! DL: dicts that are written; pop. -/
namespace DL
open PySem PySem.Spec PyProof.Rows L2
theorem _root_.L2.Room.units1 {k : Nat} {A : Around} (r : L2.Room k A) : A.units + 1 < cLine := by
  have := r.units
  omega
section
variable {c : Ct} {B S0 H H' : Hp} {M : Mz} {L : List (List Addr)} {Γ : List Md} {σ : L2.St} {ρ : List D}
/-- one's own object, changed -/
theorem EnvR.reown (E : EnvR c B S0 M Γ L σ H ρ) {i : Nat} {p : Addr} {o : HO} {d : D} (hm : Γ[i]? = some .f) (hl : L[i]? = some [p]) (hs : σ[i]? = some (some (.ref p))) (ho : Mut (some o)) (r : ∀ S, Ex (hide (Msk M L) H) S → Own c S (upd H p o) [p] (.ref p) d) :
    EnvR c B S0 M Γ L σ (upd H p o) (ρ.set i d) := by
  have k : ∀ a u, a ∉ [p] → H a = some u → upd H p o a = some u := fun a u h q => by
    rw [upd_ne (by simpa using h)]
    exact q
  have inL : In L p := ⟨[p], List.mem_of_getElem? hl, .head _⟩
  have e1 : L.set i [p] = L := list_set_self hl
  have hh : Ex (hide (Msk M L) H) (hide (Msk M L) (upd H p o)) := hide_le fun a u h q => ⟨h, k a u (fun z => h (.inr (by
    have e : a = p := by simpa using z
    subst e
    exact inL))) q⟩
  have E' := E.change (m' := .f) (x' := some (.ref p)) (d' := d) i hl k (fun a ha => .inl ha) (fun a ha => by
    have e : a = p := by simpa using ha
    subst e
    rw [upd_same]
    exact ho) (by
    rw [e1]
    exact ⟨p, rfl, rfl, r _ hh⟩)
  rw [e1, list_set_self hm, list_set_self hs] at E'
  exact E'
end
def dDisp (f g : DFn) : DFn := fun ρ => (f ρ).bind fun a => (g ρ).bind fun d => match a with
  | .int k => some (.dI [(k, d)])
  | _ => none
def putK' (i : Nat) (d a b : Option D) (ρ : List D) : Out := match d, a, b with
  | some d, some a, some b => (match putD' a b d with
    | some a' => .nx (ρ.set i a')
    | none => .bad)
  | _, _, _ => .bad
def dPut (i : Nat) (fk fv : DFn) : SFn := fun ρ => putK' i (fv ρ) ρ[i]? (fk ρ) ρ
def gSortKeys (d : D) : Option D := match d with
  | .dI kvs => if kvs.length < 64 then some (.lst (((kvs.map (·.1)).mergeSort fun a b : Int => decide (a ≤ b)).map .int)) else none
  | _ => none
section
variable {X : Cx} {ca : Cl → Addr} {W : WX} {J : Jd} {Γ : List Md} {pos p apos cpos pos' : Pos} {a b e : Expr} {ma mb me : Vm} {fa fb fe : DFn} {x : Str}
/-- {k: v} -/
theorem pd_disp (hk : PDE X ca Γ a ma fa) (hv : PDE X ca Γ b .s fb) : PDN X ca Γ (.Dict [some a] [b] pos) (dDisp fa fb) := by
  obtain ⟨t, p1, q1⟩ := hk
  obtain ⟨u, p2, q2⟩ := hv
  refine ⟨_, pe_disp (pps_cons p1 p2 pps_nil) rfl rfl (by simp) (by show 1 ≤ 15; decide), fun B S0 M L σ H ρ E d hd Q k => ?_⟩
  obtain ⟨x, e1, hd⟩ := bind_some hd
  obtain ⟨y, e2, hd⟩ := bind_some hd
  cases x with
  | int n =>
    cases hd
    intro p hp
    have E1 := E.guard hp (Ex.new (o := .dK []) hp) (by rw [upd_same]; exact True.intro)
    refine q1 B S0 _ L σ _ ρ E1 _ e1 _ fun v H1 x1 r1 => ?_
    refine q2 B S0 _ L σ H1 ρ (E1.ext x1) y e2 _ fun w H2 x2 r2 => ?_
    have E2 := (E1.ext x1).ext x2
    have ev := (r1.rep (E1.ext x1).eb).int_inv
    subst ev
    have hp2 : H2 p = some (.dK []) := x2 _ _ (x1 _ _ upd_same)
    refine ⟨hp2, [(.inl n, w)], rfl, by show 1 ≤ 15; decide, ?_⟩
    have em : mergeK [] [((Sum.inl n : Key), w)] = [(Sum.inl n, w)] := rfl
    rw [em]
    have x3 : Ex H (upd H2 p (.dK [(Sum.inl n, w)])) := fun b o h => by
      have ne : b ≠ p := ne_of_none h hp
      rw [upd_ne ne]
      exact x2 _ _ (x1 _ _ ((upd_ne ne).trans h))
    refine k p _ x3 hp (KVs.ownI (es := [(Sum.inl n, w)]) (.cons ?_ .nil) upd_same)
    have r2' : Rep ⟨X.K, ca⟩ (hide (Msk ⟨fun a => M a ∨ a = p, M.z⟩ L) H2) w y := r2
    refine r2'.mono (hide_le fun b o h q => ⟨fun z => h ?_, (upd_ne fun z => h (.inl (.inr z))).trans q⟩)
    rcases z with (z | z) | z
    · exact .inl (.inl z)
    · exact .inr z
    · exact .inl (.inr z)
  | _ => cases hd
/-- d.get(k) -/
theorem pd_get1 (hr : X.A.units + 1 < cLine) (ha : PDE X ca Γ a ma fa) (hb : PDE X ca Γ b mb fb) (hm : ma = .s ∨ ma = .f := by first | exact .inl rfl | exact .inr rfl) (m : M1 X a "get" apos b cpos := by exact ⟨rfl, rfl, rfl, rfl⟩) : PDE X ca Γ (.Call (.Attribute a "get" apos) [b] [] cpos) .s (d2 gDGet1 fa fb) := by
  obtain ⟨t, p, qa⟩ := ha
  obtain ⟨u, p2, qb⟩ := hb
  refine ⟨_, pe_dget1 hr p p2 m, fun B S0 M L σ H ρ E d hd Q k => ?_⟩
  obtain ⟨x, e1, hd⟩ := bind_some hd
  obtain ⟨y, e2, hd⟩ := bind_some hd
  obtain ⟨o, e3, hd⟩ := Option.map_eq_some_iff.mp hd
  subst hd
  refine qa B S0 M L σ H ρ E x e1 _ fun v H1 x1 r1 => ?_
  obtain ⟨S1, dr1, _⟩ := VR.dictR (E.ext x1) r1 (getD'_is e3)
  obtain ⟨p0, ep, hD⟩ := dr1.isD
  refine ⟨p0, ep, hD, ?_⟩
  refine qb B S0 M L σ H1 ρ (E.ext x1) y e2 _ fun w H2 x2 r2 => ?_
  have E2 := (E.ext x1).ext x2
  obtain ⟨S, dr, it⟩ := VR.dictR E2 (r1.mono x2) (getD'_is e3)
  obtain ⟨p', r, h1, g, alt⟩ := dr.get (r2.rep E2.eb) e3
  rw [ep] at h1
  cases h1
  refine ⟨r, g, ?_⟩
  rcases alt with ⟨h2, h3⟩ | ⟨x', y', h2, h3, h4⟩
  · subst h2 h3
    exact k _ H2 (x1.trans x2) .non
  · subst h2 h3
    refine k x' H2 (x1.trans x2) ?_
    rcases hm with rfl | rfl
    · exact it _ _ h4
    · exact it _ _ h4
/-- d.get(k, x) -/
theorem pd_get2 (hr : X.A.units + 1 < cLine) (ha : PDE X ca Γ a ma fa) (hb : PDE X ca Γ b mb fb) (he : PDE X ca Γ e .s fe) (hm : ma = .s ∨ ma = .f := by first | exact .inl rfl | exact .inr rfl) (m : M2 X a "get" apos b e cpos := by exact ⟨rfl, rfl, rfl, rfl⟩) : PDE X ca Γ (.Call (.Attribute a "get" apos) [b, e] [] cpos) .s (dDGet2 fa fb fe) := by
  obtain ⟨t, p, qa⟩ := ha
  obtain ⟨u, p2, qb⟩ := hb
  obtain ⟨w, p3, qe⟩ := he
  refine ⟨_, pe_dget2 hr p p2 p3 m, fun B S0 M L σ H ρ E d hd Q k => ?_⟩
  obtain ⟨x, e1, hd⟩ := bind_some hd
  obtain ⟨y, e2, hd⟩ := bind_some hd
  obtain ⟨z, e4, hd⟩ := bind_some hd
  obtain ⟨o, e3, hd⟩ := Option.map_eq_some_iff.mp hd
  subst hd
  refine qa B S0 M L σ H ρ E x e1 _ fun v H1 x1 r1 => ?_
  obtain ⟨S1, dr1, _⟩ := VR.dictR (E.ext x1) r1 (getD'_is e3)
  obtain ⟨p0, ep, hD⟩ := dr1.isD
  refine ⟨p0, ep, hD, ?_⟩
  refine qb B S0 M L σ H1 ρ (E.ext x1) y e2 _ fun w H2 x2 r2 => ?_
  refine qe B S0 M L σ H2 ρ ((E.ext x1).ext x2) z e4 _ fun w3 H3 x3 r3 => ?_
  have E3 := ((E.ext x1).ext x2).ext x3
  obtain ⟨S, dr, it⟩ := VR.dictR E3 ((r1.mono x2).mono x3) (getD'_is e3)
  obtain ⟨p', r, h1, g, alt⟩ := dr.get ((r2.mono x3).rep E3.eb) e3
  rw [ep] at h1
  cases h1
  refine ⟨r, g, ?_⟩
  rcases alt with ⟨h2, h3⟩ | ⟨x', y', h2, h3, h4⟩
  · subst h2 h3
    exact k _ H3 ((x1.trans x2).trans x3) r3
  · subst h2 h3
    refine k x' H3 ((x1.trans x2).trans x3) ?_
    rcases hm with rfl | rfl
    · exact it _ _ h4
    · exact it _ _ h4
/-- sorted(d) -/
theorem pd_sortKeys (ha : PDE X ca Γ a ma fa) (h1 : X.mg "sorted" = none) (hg : Gl X "sorted" := by rfl) (hc : X.calm = true := by rfl)
    (hs : starEach [a] X.env = (false, eval a X.env) :: starEach [] X.env := by rfl) (hpl : (backTo pos (starEach [] X.env)).any (·.1) = false := by rfl) :
    PDN X ca Γ (.Call (.Name "sorted" p) [a] [] pos) (d1 gSortKeys fa) := by
  obtain ⟨t, pa, qa⟩ := ha
  refine ⟨_, pe_callB (call_sortedDI hc) hg h1 (by decide +kernel) (pa_cons pa pa_nil hs) (by decide) (by decide) hs hpl, fun B S0 M L σ H ρ E d hd Q k => ?_⟩
  obtain ⟨x, e1, hd⟩ := bind_some hd
  cases x with
  | dI kvs =>
    obtain ⟨h64, hd⟩ := ite_some' (show (if kvs.length < 64 then some (D.lst (((kvs.map (·.1)).mergeSort fun a b : Int => decide (a ≤ b)).map .int)) else none) = some d from hd)
    cases hd
    refine qa B S0 M L σ H ρ E _ e1 _ fun v H1 x1 r1 => ?_
    obtain ⟨S, dr, _⟩ := VR.dictR (E.ext x1) r1 rfl
    obtain ⟨a, es, rfl, ha, kv⟩ := dr
    refine ⟨a, es, kvs.map (fun q : Int × D => q.1), rfl, .inl ha, kv.keys, by rw [List.length_map]; exact h64, fun ys p' hp hw hn => ?_⟩
    have e : ys = (kvs.map (·.1)).mergeSort fun a b : Int => decide (a ≤ b) := by
      refine List.Perm.eq_of_pairwise (le := fun a b : Int => a ≤ b) (fun a b _ _ h1 h2 => by omega) hw ?_ (hp.trans (List.mergeSort_perm _ _).symm)
      have q := List.pairwise_mergeSort (le := fun a b : Int => decide (a ≤ b)) (fun a b c h1 h2 => by
        simp only [decide_eq_true_eq] at h1 h2 ⊢
        omega) (fun a b => by
        simp only [Bool.or_eq_true, decide_eq_true_eq]
        omega) (kvs.map (·.1))
      exact q.imp fun {a b} h => of_decide_eq_true h
    rw [e]
    exact k p' _ (x1.trans (Ex.new hn)) (x1.free hn) (.lst upd_same (Owns.sh (Reps.of_ints _)))
  | _ => cases hd
/-- d[k] = v -/
theorem pds_put (i : Nat) (hr : X.A.units + 1 < cLine) (hb : PDE X ca Γ b mb fb) (he : PDE X ca Γ e .s fe) (hm : Γ[i]? = some .f := by rfl) (hi : X.N[i]? = some x := by rfl) (hv : Vis X.env.scope x := by first | exact Or.inl rfl | exact Or.inr (Or.inl rfl) | exact Or.inr (Or.inr rfl)) (hd : (x == ("__debug__" : Str)) = false := by decide) (hcd : (x == ("__classdict__" : Str)) = false := by decide)
    (hs : swapsWith e (some (.Subscript (.Name x p) b pos')) pos.line X.env = pure false := by rfl) : PDS X ca W J Γ (.Assign [.Subscript (.Name x p) b pos'] e pos) Γ (dPut i fb fe) := by
  obtain ⟨t, p1, q1⟩ := hb
  obtain ⟨u, p2, q2⟩ := he
  refine ⟨_, ps_dput hr (pe_var (i := i) hi hv hd hcd) p1 p2 hs, fun B S0 M L σ H ρ N E pp => ?_⟩
  unfold dPut at pp
  cases h1 : fe ρ with
  | none => rw [h1] at pp; exact pp.elim
  | some d =>
    cases h2 : ρ[i]? with
    | none => rw [h1, h2] at pp; exact pp.elim
    | some a0 =>
      cases h3 : fb ρ with
      | none => rw [h1, h2, h3] at pp; exact pp.elim
      | some k0 =>
        rw [h1, h2, h3] at pp
        have pp' : Post ⟨X.K, ca⟩ B S0 M J W Γ N (match putD' a0 k0 d with | some a' => .nx (ρ.set i a') | none => .bad) := pp
        cases h4 : putD' a0 k0 d with
        | none => rw [h4] at pp'; exact pp'.elim
        | some a' =>
          rw [h4] at pp'
          refine q2 B S0 M L σ H ρ E d h1 _ fun v H1 x1 rv => ?_
          have E1 := E.ext x1
          obtain ⟨q, d0, g1, g2, g3, _⟩ := slot_f E1 hm
          rw [h2] at g3
          cases g3
          refine ⟨_, g2, ?_⟩
          refine q1 B S0 M L σ H1 ρ E1 k0 h3 _ fun w H2 x2 rk => ?_
          have E2 := E1.ext x2
          obtain ⟨q', d1, g1', g2', g3', ho⟩ := slot_f E2 hm
          rw [g2] at g2'
          cases g2'
          rw [h2] at g3'
          cases g3'
          have rv2 : Rep ⟨X.K, ca⟩ (hide (Msk M L) H2) v d := VR.mono (m := .s) (B := B) (M := M) (L := L) x2 rv
          cases a0 with
          | dI kvs =>
            cases k0 with
            | int n =>
              obtain ⟨hlen, e⟩ := ite_some' (show (if kvs.length < 100000 then some (D.dI (putD kvs n d)) else none) = some a' from h4)
              cases e
              obtain ⟨es, j1, j2⟩ := ho.dI_inv
              have ew := (rk.rep E2.eb).int_inv
              subst ew
              refine ⟨q, _, rfl, DPut.k (k := eI n) j1 (Nat.lt_of_lt_of_le (by rw [j2.length]; exact hlen) (by decide : 100000 ≤ sizeLine)), ?_⟩
              exact pp' L σ _ (E2.reown hm g1 g2 True.intro fun S eS => ((j2.put eI_inj n rv2).mono eS).ownI upd_same)
            | _ => cases h4
          | dT kvs =>
            obtain ⟨ns, e1, h4⟩ := bind_some h4
            obtain ⟨hlen, e⟩ := ite_some' h4
            cases e
            obtain ⟨es, j1, j2⟩ := ho.dT_inv
            obtain ⟨bk, rfl, hk⟩ := (rk.rep E2.eb).key e1
            refine ⟨q, _, rfl, DPut.t j1 hk (Nat.lt_of_lt_of_le (by rw [j2.length]; exact hlen) (by decide : 100000 ≤ sizeLine)), ?_⟩
            exact pp' L σ _ (E2.reown hm g1 g2 True.intro fun S eS => ((j2.put eT_inj ns rv2).mono eS).ownT upd_same)
          | _ => cases h4
end
/-! ### for .. in o.m(l.pop()) -/
def PDIE (X : Cx) (ca : Cl → Addr) (Γ : List Md) (tg iter : Expr) (f : List D → Option (List D × List D)) : Prop := ∃ wi, PI X tg iter wi ∧
  ∀ (B S0 : Hp) (M : Mz) (L : List (List Addr)) (σ : L2.St) (H : Hp) (ρ : List D), EnvR ⟨X.K, ca⟩ B S0 M Γ L σ H ρ → ∀ ds ρ', f ρ = some (ds, ρ') → ∀ R : It → Hp → Prop,
    (∀ J H', EnvR ⟨X.K, ca⟩ B S0 M Γ L σ H' ρ' → Walks ⟨X.K, ca⟩ (hide (Msk M L) H') J ds → R J H') → wi σ H R
def forEK (o : Option (List D × List D)) (u : D → List D → Option (List D)) (F : SFn) : Out := match o with
  | some (ds, ρ') => forD u F ds ρ'
  | none => .bad
def dForE (f : List D → Option (List D × List D)) (u : D → List D → Option (List D)) (F : SFn) : SFn := fun ρ => forEK (f ρ) u F
def popK (cl : Cl) (G : List D → Rs) (i : Nat) (o x : Option D) (ρ : List D) : Option (List D × List D) := match o, x with
  | some o, some (.lst ds) => if isObj cl o = true then (ds.getLast?).bind fun d => (okR (G [o, d])).bind fun r => (lstOf r).map fun es => (es, ρ.set i (.lst ds.dropLast)) else none
  | _, _ => none
def dMethPop (cl : Cl) (G : List D → Rs) (i : Nat) (fo : DFn) : List D → Option (List D × List D) := fun ρ => popK cl G i (fo ρ) ρ[i]? ρ
section
variable {X : Cx} {ca : Cl → Addr} {W : WX} {J : Jd} {Γ Γ1 Γ0 : List Md} {pos p apos cpos pos' apos2 cpos2 : Pos} {o e : Expr} {fo : DFn} {x m : Str} {F : SFn} {is : List Nat} {k : Nat} {f : Addr} {fd : FuncData} {ps : List Str} {G : List D → Rs}
theorem Reps.dropLast {c : Ct} {S : Hp} {vs : List V} {ds : List D} (r : Reps c S vs ds) : Reps c S vs.dropLast ds.dropLast := by
  rw [List.dropLast_eq_take, List.dropLast_eq_take, r.length]
  exact r.take _
theorem pds_forE {tg iter : Expr} {body : List Stmt} {fi : List D → Option (List D × List D)} {u : D → List D → Option (List D)} (hp : PassesOwn (model X.prog X.w) X.A X.env X.xe) (hi : PDIE X ca Γ tg iter fi) (hg : PDG X ca true Γ tg Γ1 is u)
    (hb : PDSs X ca W { J with Γb := Γ, Γc := Γ } Γ1 body Γ F) (hc : X.calm = true := by rfl) (hs : ∀ x, foldedSetIterable iter X.env x = pure x := by intro _; rfl) : PDS X ca W J Γ (.For tg iter body [] pos) Γ (dForE fi u F) := by
  obtain ⟨wi, p1, q1⟩ := hi
  obtain ⟨g, p2, q2⟩ := hg
  obtain ⟨tb, p3, q3⟩ := hb
  refine ⟨_, ps_for hp hc p1 p2 p3 hs, fun B S0 M L σ H ρ N E pp => ?_⟩
  unfold dForE at pp
  cases hd : fi ρ with
  | none => rw [hd] at pp; exact pp.elim
  | some q =>
    obtain ⟨ds, ρ1⟩ := q
    rw [hd] at pp
    have pp' : Post ⟨X.K, ca⟩ B S0 M J W Γ N (forD u F ds ρ1) := pp
    refine q1 B S0 M L σ H ρ E ds ρ1 hd _ fun Jt H1 E1 ⟨n, G, Y, hn, wk, hG, hY⟩ => ?_
    have hS01 : Ex S0 (hide (Msk M L) H1) := E1.es
    refine for_it (D := N) (n := n) wk (fun i σ H => ∃ L' ρ', EnvR ⟨X.K, ca⟩ B (hide (Msk M L) H1) M Γ L' σ H ρ' ∧ Post ⟨X.K, ca⟩ B S0 M J W Γ N (forD u F (ds.drop i) ρ')) ⟨L, ρ1, ⟨E1.eb, E1.hm, Ex.refl _, E1.ap, E1.hl, E1.sl⟩, pp'⟩ (fun i σ H _ ⟨L', ρ', E, _⟩ => hG H (E.es.trans hide_ex)) ?_ ?_
    · rintro i v σ H' H'' hi ⟨L', ρ', E', post⟩ y
      obtain ⟨rfl, d, h1, h2⟩ := hY i H' v H'' hi (E'.es.trans hide_ex) y
      have hdr : ds.drop i = d :: ds.drop (i + 1) := by
        obtain ⟨hlt, e⟩ := List.getElem?_eq_some_iff.mp h1
        rw [List.drop_eq_getElem_cons hlt, e]
      rw [hdr, forD] at post
      cases hu : u d ρ' with
      | none => rw [hu] at post; exact post.elim
      | some ρ2 =>
        rw [hu] at post
        have rv : VR ⟨X.K, ca⟩ .s B M L' H'' v d := h2.mono E'.es
        refine q2 B _ M L' σ H'' ρ' E' v d ρ2 rv hu _ fun σ2 _ E2 => ?_
        exact q3 B _ M L' σ2 H'' ρ2 _ E2 (Post.turn hS01 post fun ρ2 L3 σ3 H3 E3 p3 => ⟨L3, ρ2, E3, p3⟩)
    · rintro σ H' ⟨L', ρ', E', post⟩
      rw [hn, List.drop_length, forD] at post
      exact post L' σ H' (E'.base hS01)
theorem pdie_methpop {pl : Sem Bool} {tg : Expr} (i : Nat) (cl : Cl) (F : FnOk X.prog X.w X.K X.mg X.base (L2N.CX X.prog X.w) k f fd ps (SpD ⟨X.K, ca⟩ [.s, .s] false G)) (hk : ClsOk X.K ca cl) (hmt : Meth X.K (ca cl) m f) (hr : Room k X.A) (hb : Binds X.K fd ps [])
    (ho : PDE X ca Γ o .s fo) (hno : m ∉ flds cl := by decide +kernel) (hm : Γ[i]? = some .f := by rfl) (hi : X.N[i]? = some x := by rfl) (hv : Vis X.env.scope x := by first | exact Or.inl rfl | exact Or.inr (Or.inl rfl) | exact Or.inr (Or.inr rfl)) (hd : (x == ("__debug__" : Str)) = false := by decide) (hcd : (x == ("__classdict__" : Str)) = false := by decide)
    (hbase : attributeBase (.Name x p) "pop" X.env (eval (.Name x p) X.env) = eval (.Name x p) X.env := by rfl) (hline : (apos2.endLine == cpos2.line) = true := by rfl)
    (hst : starEach [.Call (.Attribute (.Name x p) "pop" apos2) [] [] cpos2] X.env = (false, eval (.Call (.Attribute (.Name x p) "pop" apos2) [] [] cpos2) X.env) :: starEach [] X.env := by rfl) (hpl : (backTo pos (starEach [] X.env)).any (·.1) = false := by rfl)
    (ht : eval (.Call (.Attribute o m apos) [.Call (.Attribute (.Name x p) "pop" apos2) [] [] cpos2] [] pos) X.env = (do
      let ov ← eval o X.env
      standAt apos.atName
      let (f, first) ← holding [ov] (getMethod ov m pl)
      callWith pos f first (backTo pos (starEach [.Call (.Attribute (.Name x p) "pop" apos2) [] [] cpos2] X.env)) (backToKw pos (keywordEach [] X.env))) := by rfl) :
    PDIE X ca Γ tg (.Call (.Attribute o m apos) [.Call (.Attribute (.Name x p) "pop" apos2) [] [] cpos2] [] pos) (dMethPop cl G i fo) := by
  obtain ⟨t0, p0, q0⟩ := ho
  refine ⟨_, pi_list (pe_meth p0 hk.cls hmt F hr hb .nil passLN (pa_cons (pe_bm0 PySem.F.plainAttrs_list PySem.F.slot_list_pop PySem.F.type_list_pop mt_pop (pe_var (i := i) hi hv hd hcd) hbase hline) pa_nil hst) hst hpl ht), fun B S0 M L σ H ρ E ds ρ' hd Q kk => ?_⟩
  unfold dMethPop popK at hd
  cases h1 : fo ρ with
  | none => rw [h1] at hd; cases hd
  | some od =>
    cases h2 : ρ[i]? with
    | none => rw [h1, h2] at hd; cases hd
    | some xd =>
      rw [h1, h2] at hd
      cases xd with
      | lst xs =>
        obtain ⟨hob, hd⟩ := ite_some' (show (if isObj cl od = true then (xs.getLast?).bind fun d => (okR (G [od, d])).bind fun r => (lstOf r).map fun es => (es, ρ.set i (.lst xs.dropLast)) else none) = some (ds, ρ') from hd)
        obtain ⟨d, e1, hd⟩ := bind_some hd
        obtain ⟨r, e2, hd⟩ := bind_some hd
        obtain ⟨es, e3, hd⟩ := Option.map_eq_some_iff.mp hd
        cases hd
        refine q0 B S0 M L σ H ρ E od h1 _ fun v H1 x1 r0 => ?_
        have E1 := E.ext x1
        have r0' : Rep ⟨X.K, ca⟩ (hide (Msk M L) H1) v od := r0
        obtain ⟨a, dx, vs, ex, ha⟩ := isObj_rep (r0'.mono hide_ex) hob
        refine ⟨a, dx, _, ex, ha, zip_lookup_none hno, ?_⟩
        obtain ⟨q, d0, g1, g2, g3, g4⟩ := slot_f E1 hm
        rw [h2] at g3
        cases g3
        obtain ⟨ys, j1, j2⟩ := g4.flat_lst
        refine ⟨_, g2, .inl ⟨rfl, ys, SqL.of j1⟩, ?_⟩
        have e1' : xs[ys.length - 1]? = some d := by
          rw [j2.length, ← List.getLast?_eq_getElem?]
          exact e1
        obtain ⟨y, j3, j4⟩ := j2.getD e1'
        refine ⟨q, ys, y, rfl, rfl, j1, j3, ?_⟩
        have E2 := E1.relist hm g1 g2 j2.dropLast
        have hh : Ex (hide (Msk M L) H1) (hide (Msk M L) (upd H1 q (.lst ys.dropLast))) := hide_le fun b u h z => ⟨h, (upd_ne fun e => h (.inr ⟨[q], List.mem_of_getElem? g1, by rw [e]; exact .head _⟩)).trans z⟩
        refine sp_ok E2 (ms := [.s, .s]) rfl (.cons (r0'.mono hh) (.cons (j4.mono hh) .nil)) e2 fun z H' x3 res => ?_
        have E3 := E2.ext x3
        have rz : Rep ⟨X.K, ca⟩ (hide (Msk M L) H') z r   := res_back (B := B) res
        obtain ⟨p', zs, rfl, hs, rs⟩ := lst_in rz e3
        exact ⟨p', rfl, ⟨zs, hs H' hide_ex⟩, kk _ H' E3 (walks_list (c := ⟨X.K, ca⟩) hs rs)⟩
      | _ => cases hd
end
end DL

/-! DL: values that are new or None; list(range(..)). -/
namespace DL
open PySem PySem.Spec PyProof.Rows L2
/-- a new object of one's own, or None -/
def DM (c : Ct) (Γ : List Md) (t : TE) (f : DFn) : Prop :=
  ∀ (B S0 : Hp) (M : Mz) (L : List (List Addr)) (σ : L2.St) (H : Hp) (ρ : List D), EnvR c B S0 M Γ L σ H ρ → ∀ d, f ρ = some d → ∀ Q : VK, (∀ H', Ex H H' → d = .non → Q .non H') →
    (∀ p H', Ex H H' → H p = none → isNon d = false → Own c (hide (fun a => Msk M L a ∨ a = p) H') H' [p] (.ref p) d → Q (.ref p) H') → t σ H Q
def PDM (X : Cx) (ca : Cl → Addr) (Γ : List Md) (e : Expr) (f : DFn) : Prop := ∃ t, PE X e t ∧ DM ⟨X.K, ca⟩ Γ t f
theorem res_may {c : Ct} {H H' : Hp} {M : Mz} {L : List (List Addr)} {v : V} {d : D} {Q : VK} (h : ResR c H ⟨Msk M L, M.z⟩ true H' v d) (q0 : d = .non → Q .non H') (q : ∀ p, H p = none → isNon d = false → Own c (hide (fun a => Msk M L a ∨ a = p) H') H' [p] (.ref p) d → Q (.ref p) H') : Q v H' := by
  rcases h with ⟨rfl, e⟩ | ⟨p, rfl, h1, _, h3⟩
  · exact q0 e
  · exact q p h1 (by cases h3 <;> first | rfl | (rename_i r; cases r)) h3
def setmK (i : Nat) (o : Option D) (F1 F2 : SFn) (ρ : List D) : Out := match o with
  | some d => if isNon d = true then F2 (ρ.set i d) else F1 (ρ.set i d)
  | none => .bad
def dSetM (i : Nat) (f : DFn) (F1 F2 : SFn) : SFn := fun ρ => setmK i (f ρ) F1 F2 ρ
def gListRg (d : D) : Option D := match d with
  | .int n => if 0 ≤ n ∧ n ≤ 100000 then some (.lst (rng 0 n.toNat)) else none
  | _ => none
section
variable {X : Cx} {ca : Cl → Addr} {W : WX} {J : Jd} {Γ Γ' Γ0 : List Md} {k : Nat} {f : Addr} {fd : FuncData} {ps : List Str} {G : List D → Rs} {dvs : List V} {ds : List Value} {dfl : List D} {x m : Str} {p p2 q pos apos pos' spos : Pos} {e o a : Expr} {es : List Expr} {ms : List Vm} {fs : List D → Option (List D)} {mo ma : Vm} {fo fa fe : DFn} {rest : List Stmt} {F1 F2 : SFn}
theorem pdm_call (F : FnOk X.prog X.w X.K X.mg X.base (L2N.CX X.prog X.w) k f fd ps (SpD ⟨X.K, ca⟩ Γ0 true G)) (hr : Room k X.A) (hm : X.mg x = some (.ref f)) (hk : PySem.W.keepIn X.K (.ref f) = true) (hb : Binds X.K fd ps ds) (hd : Vals dvs ds) (hi : Ims dvs dfl)
    (ha : PDA X ca Γ (e :: es) ms fs) (hc : cmps (ms ++ List.replicate dfl.length .s) Γ0 = true := by decide) (hg : Gl X x := by rfl) (hdb : (x == ("__debug__" : Str)) = false := by decide) (he : starEach (e :: es) X.env = (false, eval e X.env) :: starEach es X.env := by rfl) (hpl : (backTo pos (starEach es X.env)).any (·.1) = false := by rfl) :
    PDM X ca Γ (.Call (.Name x p) (e :: es) [] pos) (dFun G fs dfl) := by
  obtain ⟨t, pa, qa⟩ := ha
  refine ⟨_, pe_call F hr hg hm hk hb hd passLN pa hdb he hpl, fun B S0 M L σ H ρ E d hd Q k0 kk => ?_⟩
  obtain ⟨as, e1, hd⟩ := bind_some hd
  refine qa B S0 M L σ H ρ E as e1 _ fun vs H1 x1 r => ?_
  exact sp_ok (E.ext x1) hc (r.app hi.vrs) hd fun v H' x2 res => res_may res (fun e => k0 H' (x1.trans x2) e) fun a hn hz ho => kk a H' (x1.trans x2) (x1.free hn) hz ho
theorem pdm_meth {pl : Sem Bool} (cl : Cl) (F : FnOk X.prog X.w X.K X.mg X.base (L2N.CX X.prog X.w) k f fd ps (SpD ⟨X.K, ca⟩ Γ0 true G)) (hk : ClsOk X.K ca cl) (hmt : Meth X.K (ca cl) m f) (hr : Room k X.A) (hb : Binds X.K fd ps ds) (hd : Vals dvs ds) (hi : Ims dvs dfl)
    (ho : PDE X ca Γ o mo fo) (ha : PDA X ca Γ (e :: es) ms fs) (hc : cmps (mo :: (ms ++ List.replicate dfl.length .s)) Γ0 = true := by decide) (hno : m ∉ flds cl := by decide +kernel)
    (hst : starEach (e :: es) X.env = (false, eval e X.env) :: starEach es X.env := by rfl) (hpl : (backTo pos (starEach es X.env)).any (·.1) = false := by rfl)
    (ht : eval (.Call (.Attribute o m apos) (e :: es) [] pos) X.env = (do
      let ov ← eval o X.env
      standAt apos.atName
      let (f, first) ← holding [ov] (getMethod ov m pl)
      callWith pos f first (backTo pos (starEach (e :: es) X.env)) (backToKw pos (keywordEach [] X.env))) := by rfl) :
    PDM X ca Γ (.Call (.Attribute o m apos) (e :: es) [] pos) (dMeth cl G fo fs dfl) := by
  obtain ⟨t0, p0, q0⟩ := ho
  obtain ⟨t, pa, q⟩ := ha
  exact ⟨_, pe_meth p0 hk.cls hmt F hr hb hd passLN pa hst hpl ht, fun B S0 M L σ H ρ E d hd Q k0 kk => DE.meth (c := ⟨X.K, ca⟩) q0 q hno hi hc E hd fun H1 v H' x1 x2 res => res_may res (fun e => k0 H' (x1.trans x2) e) fun a hn hz ho => kk a H' (x1.trans x2) (x1.free hn) hz ho⟩
theorem pdm_meth0 {pl : Sem Bool} (cl : Cl) (F : FnOk X.prog X.w X.K X.mg X.base (L2N.CX X.prog X.w) k f fd ps (SpD ⟨X.K, ca⟩ Γ0 true G)) (hk : ClsOk X.K ca cl) (hmt : Meth X.K (ca cl) m f) (hr : Room k X.A) (hb : Binds X.K fd ps ds) (hd : Vals dvs ds) (hi : Ims dvs dfl)
    (ho : PDE X ca Γ o mo fo) (hc : cmps (mo :: ([] ++ List.replicate dfl.length .s)) Γ0 = true := by decide) (hno : m ∉ flds cl := by decide +kernel)
    (ht : eval (.Call (.Attribute o m apos) [] [] pos) X.env = (do
      let ov ← eval o X.env
      standAt apos.atName
      let (f, first) ← holding [ov] (getMethod ov m pl)
      callWith pos f first (backTo pos (starEach [] X.env)) (backToKw pos (keywordEach [] X.env))) := by rfl) :
    PDM X ca Γ (.Call (.Attribute o m apos) [] [] pos) (dMeth cl G fo dNilA dfl) := by
  obtain ⟨t0, p0, q0⟩ := ho
  exact ⟨_, pe_meth0 p0 hk.cls hmt F hr hb hd passLN ht, fun B S0 M L σ H ρ E d hd Q k0 kk => DE.meth (c := ⟨X.K, ca⟩) (ms := []) q0 (fun B S0 M L σ H ρ E ds hd Q q => by cases hd; exact q [] H (Ex.refl _) .nil) hno hi hc E hd fun H1 v H' x1 x2 res => res_may res (fun e => k0 H' (x1.trans x2) e) fun a hn hz ho => kk a H' (x1.trans x2) (x1.free hn) hz ho⟩
/-- as a shared value -/
theorem pdm_s (h : PDM X ca Γ e fe) : PDE X ca Γ e .s fe := by
  obtain ⟨t, p, q⟩ := h
  refine ⟨t, p, fun B S0 M L σ H ρ E d hd Q k => q B S0 M L σ H ρ E d hd Q (fun H' x e => ?_) fun p' H' x hn _ ho => ?_⟩
  · subst e
    exact k .non H' x .non
  · refine k _ H' x (ho.rep (hide_le fun a o h q => ⟨fun z => h (.inl z), q⟩) fun a ha o h => hide_in (fun z => ?_) h)
    have e : a = p' := by simpa using ha
    subst e
    rcases z with z | z
    · exact E.noM hn z
    · exact E.noL hn z
/-- x = e, e new or None: the rest in both cases -/
theorem pdss_setm (i : Nat) (he : PDM X ca Γ e fe) (h1 : PDSs X ca W J (Γ.set i .f) rest Γ' F1) (h2 : PDSs X ca W J (Γ.set i .s) rest Γ' F2) (hN : X.N.Nodup) (hi : X.N[i]? = some x := by rfl) (hx : Loc X.env.scope x := by first | exact Or.inl rfl | exact Or.inr rfl) (hs : swapsWith e (some (.Name x pos')) pos.line X.env = pure false := by rfl) (hf : X.fn x = true ∨ X.env.scope.names.lookup x = some .local := by first | exact .inl rfl | exact .inr rfl) :
    PDSs X ca W J Γ (.Assign [.Name x pos'] e pos :: rest) Γ' (dSetM i fe F1 F2) := by
  obtain ⟨t, p, q⟩ := he
  obtain ⟨t1, p1, q1⟩ := h1
  obtain ⟨t2, p2, q2⟩ := h2
  have pj : PSs X rest (fun D σ H => t1 D σ H ∨ t2 D σ H) := ⟨fun pins s σ H D I h => h.elim (p1.run pins s σ H D I) (p2.run pins s σ H D I)⟩
  refine ⟨_, pss_cons (ps_set hN hi hx p hs hf) pj, fun B S0 M L σ H ρ N E pp => ?_⟩
  unfold dSetM at pp
  cases hd : fe ρ with
  | none => rw [hd] at pp; exact pp.elim
  | some d =>
    rw [hd] at pp
    have pp' : Post ⟨X.K, ca⟩ B S0 M J W Γ' N (if isNon d = true then F2 (ρ.set i d) else F1 (ρ.set i d)) := pp
    refine q B S0 M L σ H ρ E d hd _ (fun H' x1 e => ?_) fun p' H' x1 hn hz ho => ?_
    · subst e
      refine .inr (q2 B S0 M _ _ H' _ _ ((E.ext x1).put0 (m' := .s) (d' := .non) (Ex.refl _) i ⟨rfl, .non, rfl, .non⟩) ?_)
      exact pp'
    · rw [hz] at pp'
      refine .inl (q1 B S0 M _ _ H' _ _ (E.put (m' := .f) (x' := some (.ref p')) (d' := d) x1 i (l' := [p']) (fun a ha => ?_) (fun a ha => ho.there a ha) ⟨p', rfl, rfl, ho.mono (hide_le fun a u h q => ⟨fun z => h ?_, q⟩) fun _ _ _ h => h⟩) pp')
      · have e : a = p' := by simpa using ha
        rw [e]
        exact hn
      · rcases z with z | z
        · exact .inl (.inl z)
        · rcases z.set with z | z
          · exact .inl (.inr z)
          · exact .inr (by simpa using z)
/-- list(range(n)) -/
theorem pd_listRg (ha : PDE X ca Γ a ma fa) (h1 : X.mg "list" = none) (h2 : X.mg "range" = none) (hg : Gl X "list" := by rfl) (hg2 : Gl X "range" := by rfl) (hc : X.calm = true := by rfl)
    (hs : starEach [a] X.env = [(false, eval a X.env)] := by rfl) (na : starEach [.Call (.Name "range" p2) [a] [] q] X.env = (false, eval (.Call (.Name "range" p2) [a] [] q) X.env) :: starEach [] X.env := by rfl) :
    PDN X ca Γ (.Call (.Name "list" p) [.Call (.Name "range" p2) [a] [] q] [] pos) (d1 gListRg fa) := by
  obtain ⟨t, pa, qa⟩ := ha
  refine ⟨_, pe_listRg hc hg h1 (prg_1 hg2 h2 pa hs) na, fun B S0 M L σ H ρ E d hd Q k => ?_⟩
  obtain ⟨x, e1, hd⟩ := bind_some hd
  cases x with
  | int n =>
    obtain ⟨hn, hd⟩ := ite_some' (show (if 0 ≤ n ∧ n ≤ 100000 then some (D.lst (rng 0 n.toNat)) else none) = some d from hd)
    cases hd
    refine qa B S0 M L σ H ρ E _ e1 _ fun v H1 x1 r1 => ?_
    have ev := (r1.rep (E.eb.trans x1)).int_inv
    refine ⟨n, ev, RgOk.of_le (Int.le_refl 0) (by omega) (by omega) hn.1, fun q' hq => ?_⟩
    refine k q' _ (x1.trans (Ex.new hq)) (x1.free hq) (.lst upd_same (Owns.sh ?_))
    have e1 : rgV 0 n = ((List.range n.toNat).map fun (i : Nat) => (0 : Int) + i).map V.int := by
      unfold rgV
      rw [Int.sub_zero, List.map_map]
      rfl
    have e2 : rng 0 n.toNat = ((List.range n.toNat).map fun (i : Nat) => (0 : Int) + i).map D.int := by
      unfold rng
      rw [List.map_map]
      rfl
    rw [e1, e2]
    exact Reps.of_ints _
  | _ => cases hd
end
end DL

/-! DL: tuples joined, minus. -/
namespace DL
open PySem PySem.Spec PyProof.Rows L2
def gNeg : D → Option D
  | .int i => some (.int (-i))
  | _ => none
def gCatT (a b : D) : Option D := match a, b with
  | .tup xs, .tup ys => if xs.length + ys.length ≤ 100000 then some (.tup (xs ++ ys)) else none
  | _, _ => none
section
variable {X : Cx} {ca : Cl → Addr} {Γ : List Md} {pos p : Pos} {a b : Expr} {ma mb : Vm} {fa fb : DFn}
theorem pd_neg (ha : PDE X ca Γ a ma fa) : PDE X ca Γ (.UnaryOp .USub a pos) .s (d1 gNeg fa) := by
  obtain ⟨t, pa, qa⟩ := ha
  refine ⟨_, pe_un un_neg pa, fun B S0 M L σ H ρ E d hd Q k => ?_⟩
  obtain ⟨x, e1, hd⟩ := bind_some hd
  cases x with
  | int n =>
    cases hd
    refine qa B S0 M L σ H ρ E _ e1 _ fun v H1 x1 r1 => ?_
    exact ⟨n, (r1.rep (E.eb.trans x1)).int_inv, k _ H1 x1 (.int _)⟩
  | _ => cases hd
theorem Rep.tup_inv {c : Ct} {S : Hp} {v : V} {ds : List D} (h : Rep c S v (.tup ds)) : ∃ a xs, v = .ref a ∧ S a = some (.tup xs) ∧ Reps c S xs ds := by
  generalize e : D.tup ds = d at h
  cases h with
  | tup h r => cases e; exact ⟨_, _, rfl, h, r⟩
  | _ => cases e
theorem pd_catT (ha : PDE X ca Γ a .s fa) (hb : PDE X ca Γ b .s fb) : PDE X ca Γ (.BinOp a .Add b pos) .s (d2 gCatT fa fb) := by
  obtain ⟨t, pa, qa⟩ := ha
  obtain ⟨u, pb, qb⟩ := hb
  refine ⟨_, pe_op op_catA pa pb, fun B S0 M L σ H ρ E d hd Q k => ?_⟩
  obtain ⟨x, e1, hd⟩ := bind_some hd
  obtain ⟨y, e2, hd⟩ := bind_some hd
  cases x with
  | tup xs =>
    cases y with
    | tup ys =>
      obtain ⟨hl, hd⟩ := ite_some' (show (if xs.length + ys.length ≤ 100000 then some (D.tup (xs ++ ys)) else none) = some d from hd)
      cases hd
      refine qa B S0 M L σ H ρ E _ e1 _ fun v H1 x1 r1 => ?_
      refine qb B S0 M L σ H1 ρ (E.ext x1) _ e2 _ fun w H2 x2 r2 => ?_
      have E2 := (E.ext x1).ext x2
      have r1' : Rep ⟨X.K, ca⟩ (hide (Msk M L) H2) v (.tup xs) := VR.mono (m := .s) (B := B) (M := M) (L := L) x2 r1
      have r2' : Rep ⟨X.K, ca⟩ (hide (Msk M L) H2) w (.tup ys) := r2
      obtain ⟨p, vs, e3, h1, s1⟩ := r1'.tup_inv
      obtain ⟨q, ws, e4, h2, s2⟩ := r2'.tup_inv
      refine ⟨p, q, vs, ws, e3, e4, SqT.of (hide_of h1).2, SqT.of (hide_of h2).2, sz5 (by rw [s1.length, s2.length]; exact hl), fun e => ?_, fun _ e => ?_, fun _ _ p' hp => ?_⟩
      · subst e
        cases s1
        exact k _ H2 (x1.trans x2) (e4 ▸ r2')
      · subst e
        cases s2
        have k' := k (.ref p) H2 (x1.trans x2)
        rw [List.append_nil] at k'
        exact k' (e3 ▸ r1')
      · refine k _ _ ((x1.trans x2).trans (Ex.new hp)) ?_
        refine .tup (hide_in (fun z => ?_) upd_same) (reps_upd hp (s1.append s2))
        rcases z with z | z
        · exact E2.noM hp z
        · exact E2.noL hp z
    | _ => cases hd
  | _ => cases hd
end
end DL

/-! DL: list(reversed(l)). -/
namespace DL
open PySem PySem.Spec PyProof.Rows L2
section
variable {prog : Program} {w : World} {A : Around} {E : Value → Shared → Prop} {s : Shared}
theorem list_ext_rev {R : Result → Shared → Prop} {it l S : Addr} {items : Array Value} (hh : A.handled = none) (hit : s.heap.IsRevIter it l ((items.size : Int) - 1)) (hl : s.heap.IsList l items) (hne : l ≠ it) (hSi : S ≠ it) (hSl : S ≠ l) (hn : items.size ≤ sizeLine) (res : Value) (c₀ : Nat)
    (hS : s.heap.get? S = some { cls := .type "list", data := .seq #[] c₀ })
    (hR : ∀ h' tk acc' c', (∀ b o, b ≠ S → b ≠ it → s.heap.get? b = some o → h'.get? b = some o) → h'.get? S = some { cls := .type "list", dict := none, data := .seq acc' c', slots := #[] } →
      ItemsOf (fun i v => items[items.size - 1 - i]? = some v) acc' items.size → R (.ok (.ret res)) { s with heap := h', toks := tk }) :
    wpAny (model prog w) A.in1 (Builtin.List.listExtendWith (.ref S) (.ref it) res)
      (fun fin s' => match fin with | .done f => R (.ok f) s' | .again c' => c'.quiet = true ∧ codeAny (model prog w) A c' R s') (fun e s' => R (.error e) s') s := by
  have W := (Walks.listRev (prog := prog) (w := w) (A := A.in1) hh it l hne items).toS
  have hT : s.TypeIs (.ref it) "list_reverseiterator" := hit.typeIs
  have h1 : Builtin.List.listSameRef (.ref S) (.ref it) = false := by simp [Builtin.List.listSameRef, hSi]
  have hSf : S ∉ [it, l] := by
    simp only [List.mem_cons, List.not_mem_nil, or_false, not_or]
    exact ⟨hSi, hSl⟩
  unfold Builtin.List.listExtendWith
  refine wpAny_bind (wpAny_typeOf hT ?_)
  rw [if_neg (by rw [h1]; decide)]
  refine wpAny_bind (wpAny_pyIter_revIter hit ?_)
  refine wpAny_bind (wpAny_holding ?_)
  unfold Builtin.List.listLengthHint
  refine wpAny_bind (wpAny_specialOf hT RT.nolen_lri ?_)
  show wpAny _ A.in1 (specialOf (Value.ref it) (Str.ofString "__length_hint__") >>= _) _ _ _
  refine wpAny_bind (wpAny_specialOf hT RT.hint_lri ?_)
  generalize hid : ("list_reverseiterator.__length_hint__" : String) = id0
  wp_delta
  rw [show splitId id0 = some ("list_reverseiterator", "__length_hint__") from by subst hid; decide +kernel]
  subst hid
  refine wpAny_bind (wpAny_isInstance (b := true) hT (by rw [isSubtype_type]; kernel_rfl) ?_)
  refine wpAny_pure ?_
  rw [if_neg (by decide)]
  have e0 : ((items.size : Nat) : Int) - 1 - ((0 : Nat) : Int) = (items.size : Int) - 1 := by omega
  refine wpAny_pure ⟨plainId_quiet F.plain_extend_loop _, codeAny_extend_loopS W hn S hSf res items.size 0 _ #[] c₀ rfl (Nat.zero_le _) ⟨Nat.zero_le _, by rw [e0]; exact hit, hl⟩ hS (ItemsOf.nil _) fun s' acc' c' hm hS' hacc => ?_⟩
  rw [Moved.eq_with hm]
  refine hR s'.heap s'.toks acc' c' (fun b o hb1 hb2 e => hm.heap b o (fun hmem => ?_) e) hS' hacc
  rcases List.mem_cons.mp hmem with e' | hmem
  · exact hb1 e'
  · exact hb2 (List.mem_singleton.mp hmem)
theorem call_list_rev {it l : Addr} {items : Array Value} {Q : Value → Shared → Prop} (hh : A.handled = none) (hit : s.heap.IsRevIter it l ((items.size : Int) - 1)) (hl : s.heap.IsList l items) (hne : l ≠ it) (hn : items.size ≤ sizeLine)
    (hQ : ∀ (h' : Heap) (tk : Nat) (acc : Array Value) (c : Nat), (∀ b o, b ≠ it → s.heap.get? b = some o → h'.get? b = some o) → h'.get? s.heap.objs.size = some { cls := .type "list", dict := none, data := .seq acc c, slots := #[] } →
      ItemsOf (fun i v => items[items.size - 1 - i]? = some v) acc items.size → Q (.ref s.heap.objs.size) { s with heap := h', toks := tk }) :
    wpAny (model prog w) A (call (.type "list") [.ref it]) Q E s := by
  refine callType_codes (Q₁ := fun obj s₁ => obj = .ref s.heap.objs.size ∧ s₁ = { s with heap := s.heap.push { cls := .type "list", data := .seq #[] } }) F.called_list (F.typeCall_list_1 _) F.entry_list_init (code_list_new _ ⟨rfl, rfl⟩) fun obj s₁ h₁ => ?_
  obtain ⟨rfl, rfl⟩ := h₁
  obtain ⟨oi, hoi, _⟩ := id hit
  obtain ⟨ol, hol, _⟩ := id hl
  have hSi : s.heap.objs.size ≠ it := Nat.ne_of_gt (Heap.lt_size hoi)
  have hSl : s.heap.objs.size ≠ l := Nat.ne_of_gt (Heap.lt_size hol)
  have hS : (s.heap.push { cls := .type "list", data := .seq #[] }).get? s.heap.objs.size = some { cls := .type "list", data := .seq #[] } := Heap.get?_push_size _ rfl
  refine ⟨⟨_, hS, rfl⟩, F.args_list_init_2 _ _, ?_⟩
  show wpAny _ _ (do let old ← Builtin.List.listItems (.ref s.heap.objs.size); Builtin.List.listUpdate (.ref s.heap.objs.size) (fun _ => #[]); letGo old.toList.reverse; Builtin.List.listExtendWith (.ref s.heap.objs.size) (.ref it) .none) _ _ _
  refine wpAny_bind ?_
  unfold Builtin.List.listItems
  refine wpAny_bind (wpAny_seqItems hS rfl (wpAny_pure ?_))
  show wpAny _ _ (updateSeq s.heap.objs.size (fun _ => #[]) >>= fun _ => letGo (#[] : Array Value).toList.reverse >>= fun _ => Builtin.List.listExtendWith (.ref s.heap.objs.size) (.ref it) .none) _ _ _
  refine wpAny_bind (wpAny_updateSeq hS rfl ?_)
  have hS₂ := Heap.get?_update_self (Obj.mapSeq (fun _ => (#[] : Array Value))) hS rfl
  have oth : ∀ b o, b ≠ s.heap.objs.size → s.heap.get? b = some o → ((s.heap.push { cls := .type "list", data := .seq #[] }).update s.heap.objs.size (Obj.mapSeq (fun _ => (#[] : Array Value)))).get? b = some o :=
    fun b o hb e => (Heap.get?_update_other _ _ (Ne.symm hb)).trans (Heap.get?_push_of_some _ e)
  refine wpAny_bind (wpAny_letGo ?_)
  refine list_ext_rev (A := A.in1) hh (hit.at fun o e => oth it o (Ne.symm hSi) e) (by
    obtain ⟨o, ho, r⟩ := id hl
    exact ⟨o, oth l o (Ne.symm hSl) ho, r⟩) hne hSi hSl hn .none _ hS₂ fun h' tk acc' c' hk hS' hacc => ?_
  exact ⟨rfl, hQ h' tk acc' c' (fun b o hb e => hk b o (Nat.ne_of_lt (Heap.lt_size e)) hb (oth b o (Nat.ne_of_lt (Heap.lt_size e)) e)) hS' hacc⟩
end

def tListRev (K : PySem.W.Frag) (te : TE) : TE := fun σ H Q => te σ H fun v H1 => ∃ (a : Addr) (xs : List V), v = .ref a ∧ SqL K H1 a xs ∧ ∀ q, H1 q = none → Q (.ref q) (upd H1 q (.lst xs.reverse))
def gRevL (a : D) : Option (List D) := (lstOf a).map List.reverse
section
variable {X : Cx} {ca : Cl → Addr} {Γ : List Md} {a e : Expr} {ma : Vm} {fa : DFn} {te : TE} {p p2 pos pos2 : Pos}
theorem pe_listRev (hc : X.calm = true) (hg : Gl X "list") (hm : X.mg "list" = none) (hg2 : Gl X "reversed") (hm2 : X.mg "reversed" = none) (he : PE X e te)
    (hs : starEach [e] X.env = (false, eval e X.env) :: starEach [] X.env := by rfl)
    (hs2 : starEach [.Call (.Name "reversed" p2) [e] [] pos2] X.env = (false, eval (.Call (.Name "reversed" p2) [e] [] pos2) X.env) :: starEach [] X.env := by rfl) :
    PE X (.Call (.Name "list" p) [.Call (.Name "reversed" p2) [e] [] pos2] [] pos) (tListRev X.K te) := by
  refine ⟨fun pins s σ H Q I h => ?_⟩
  refine Call_ (ld_blt I hg hm boot_list (PyProof.Rows.callWith_type1 (args_cons (Call_ (ld_blt I hg2 hm2 PyProof.Rows.boot_reversed (PyProof.Rows.callWith_type1 (args_cons (thn (he.run pins s σ H _ I h) fun u s1 ⟨v, H1, I1, r1, q1⟩ => args_nil ?_) hs) hs rfl))) hs2) hs2 rfl))
  obtain ⟨a, xs, ev, hq, q⟩ := q1
  subst ev
  obtain rfl : u = Value.ref a := r1
  obtain ⟨its, rv, p', hz⟩ := I1.list hq
  refine call_reversed_list p'.isList (args_nil ?_)
  have hl := p'.isList
  obtain ⟨ol, hol, _⟩ := id hl
  have hlt : a < s1.heap.objs.size := Heap.lt_size hol
  have hne : a ≠ s1.heap.objs.size := Nat.ne_of_lt hlt
  have hn : its.toArray.size ≤ sizeLine := by rw [List.size_toArray, ← rv.length]; exact hz
  refine call_list_rev (s := { s1 with heap := s1.heap.push (revObj a ((its.toArray.size : Int) - 1)) }) (I1.ok.hd hc) ⟨_, Heap.get?_push_size _ rfl, rfl, rfl⟩ (hl.push _) hne hn fun h' tk acc c hk hS hi => ?_
  have hsz : s1.heap.objs.size ≤ (s1.heap.push (revObj a ((its.toArray.size : Int) - 1))).objs.size := by
    rw [Heap.size_push]
    exact Nat.le_succ _
  refine ⟨.ref _, upd H1 (s1.heap.push (revObj a ((its.toArray.size : Int) - 1))).objs.size (.lst xs.reverse), I1.laid (t' := tk) (fun b o e => hk b o (Nat.ne_of_lt (Heap.lt_size e)) (Heap.get?_push_of_some _ e)) hsz (show ObjOk X.prog X.w _ _ _ (.lst xs.reverse) from ⟨by rw [List.length_reverse]; exact hz, acc.toList, c, RT.vals_rev rv hi, ?_⟩), rfl, q _ (I1.hok.fresh hsz)⟩
  rw [Array.toArray_toList]
  exact hS
theorem pd_listRev (ha : PDE X ca Γ a ma fa) (h1 : X.mg "list" = none) (h2 : X.mg "reversed" = none) (hm : ma = .s ∨ ma = .f := by first | exact .inl rfl | exact .inr rfl) (hg : Gl X "list" := by rfl) (hg2 : Gl X "reversed" := by rfl) (hc : X.calm = true := by rfl)
    (hs : starEach [a] X.env = (false, eval a X.env) :: starEach [] X.env := by rfl)
    (hs2 : starEach [.Call (.Name "reversed" p2) [a] [] pos2] X.env = (false, eval (.Call (.Name "reversed" p2) [a] [] pos2) X.env) :: starEach [] X.env := by rfl) :
    PDN X ca Γ (.Call (.Name "list" p) [.Call (.Name "reversed" p2) [a] [] pos2] [] pos) (dCallN gRevL fa) := by
  obtain ⟨t, pa, qa⟩ := ha
  refine ⟨_, pe_listRev hc hg h1 hg2 h2 pa hs hs2, fun B S0 M L σ H ρ E d hd Q k => ?_⟩
  obtain ⟨es, e1, hd⟩ := Option.map_eq_some_iff.mp hd
  subst hd
  obtain ⟨x, e2, e1⟩ := bind_some e1
  obtain ⟨ds, e3, e1⟩ := Option.map_eq_some_iff.mp e1
  subst e1
  refine qa B S0 M L σ H ρ E x e2 _ fun v H1 x1 r1 => ?_
  have fin : ∀ (p : Addr) (xs : List V), v = .ref p → SqL X.K H1 p xs → Reps ⟨X.K, ca⟩ (hide (Msk M L) H1) xs ds → ∃ (a : Addr) (xs : List V), v = .ref a ∧ SqL X.K H1 a xs ∧ ∀ q, H1 q = none → Q (.ref q) (upd H1 q (.lst xs.reverse)) := fun p xs e h r =>
    ⟨p, xs, e, h, fun q hq => k q _ (x1.trans (Ex.new hq)) (x1.free hq) (.lst upd_same (Owns.sh (reps_updN hq r.reverse)))⟩
  rcases hm with rfl | rfl
  · obtain ⟨p, xs, rfl, hq, rs⟩ := lst_rep (c := ⟨X.K, ca⟩) hide_ex r1 e3
    exact fin p xs rfl hq rs
  · obtain ⟨p, rfl, ho, _⟩ := r1
    cases x with
    | lst ds' =>
      cases e3
      obtain ⟨xs, g1, g2⟩ := ho.flat_lst
      exact fin p xs rfl (SqL.of g1) g2
    | scr ns => cases ho
    | _ => cases e3
end
/-! ### the least and the greatest -/
def gMaxD (a d : D) : Option D := ((seqOf a).bind asInts).bind fun ns => match ns with
  | [] => some d
  | n :: ns => some (.int (maxI n ns))
def gMinD (a d : D) : Option D := ((seqOf a).bind asInts).bind fun ns => match ns with
  | [] => some d
  | n :: ns => some (.int (minI n ns))
section
variable {X : Cx} {ca : Cl → Addr}
theorem maxI_mem : ∀ (ns : List Int) (m : Int), maxI m ns = m ∨ maxI m ns ∈ ns
  | [], m => .inl rfl
  | n :: ns, m => by
    unfold maxI
    rcases maxI_mem ns (if n > m then n else m) with h | h
    · rw [h]
      split
      · exact .inr (.head _)
      · exact .inl rfl
    · exact .inr (.tail _ h)
theorem maxI_ge : ∀ (ns : List Int) (m : Int), m ≤ maxI m ns ∧ ∀ y ∈ ns, y ≤ maxI m ns
  | [], m => ⟨Int.le_refl _, fun _ h => nomatch h⟩
  | n :: ns, m => by
    unfold maxI
    obtain ⟨h1, h2⟩ := maxI_ge ns (if n > m then n else m)
    refine ⟨Int.le_trans ?_ h1, fun y hy => ?_⟩
    · split <;> omega
    · rcases List.mem_cons.mp hy with rfl | hy
      · refine Int.le_trans ?_ h1
        split <;> omega
      · exact h2 y hy
theorem minI_mem : ∀ (ns : List Int) (m : Int), minI m ns = m ∨ minI m ns ∈ ns
  | [], m => .inl rfl
  | n :: ns, m => by
    unfold minI
    rcases minI_mem ns (if n < m then n else m) with h | h
    · rw [h]
      split
      · exact .inr (.head _)
      · exact .inl rfl
    · exact .inr (.tail _ h)
theorem minI_le : ∀ (ns : List Int) (m : Int), minI m ns ≤ m ∧ ∀ y ∈ ns, minI m ns ≤ y
  | [], m => ⟨Int.le_refl _, fun _ h => nomatch h⟩
  | n :: ns, m => by
    unfold minI
    obtain ⟨h1, h2⟩ := minI_le ns (if n < m then n else m)
    refine ⟨Int.le_trans h1 ?_, fun y hy => ?_⟩
    · split <;> omega
    · rcases List.mem_cons.mp hy with rfl | hy
      · refine Int.le_trans h1 ?_
        split <;> omega
      · exact h2 y hy
/-- the ints of a list -/
theorem lst_ints {c : Ct} {H : Hp} {x : V} {a : D} {ns : List Int} (r : Rep c H x a) (e : (lstOf a).bind asInts = some ns) : ∃ p, x = .ref p ∧ SqL c.K H p (ns.map V.int) := by
  obtain ⟨ds, e1, e2⟩ := bind_some e
  rw [asInts_some e2] at e1
  obtain ⟨p, xs, rfl, hq, rs⟩ := lst_rep (Ex.refl H) r e1
  rw [rs.ints] at hq
  exact ⟨p, rfl, hq⟩
def gMaxL : List D → Option D
  | [a] => ((lstOf a).bind asInts).bind fun ns => match ns with
    | [] => none
    | n :: ns => some (.int (maxI n ns))
  | _ => none
def gMinL : List D → Option D
  | [a] => ((lstOf a).bind asInts).bind fun ns => match ns with
    | [] => none
    | n :: ns => some (.int (minI n ns))
  | _ => none
theorem cg_max (hc : X.calm = true := by rfl) : CG X ca (.builtin "max") gMaxL := ⟨_, cr_max hc, fun H xs ds d r h => by
  match ds, h with
  | [a], h =>
    obtain ⟨ns, e1, e2⟩ := bind_some (show ((lstOf a).bind asInts).bind (fun ns => match ns with | [] => none | n :: ns => some (D.int (maxI n ns))) = some d from h)
    obtain ⟨x, rfl, rx⟩ := reps1 r
    obtain ⟨p, rfl, hq⟩ := lst_ints rx e1
    cases ns with
    | nil => cases e2
    | cons n ns =>
      cases e2
      exact ⟨_, .int _, fun Q q => ⟨p, n :: ns, rfl, hq, by simp, fun m hm hle => by
        have e : m = maxI n ns := maxI_is ns n m (List.mem_cons.mp hm) (hle n (.head _)) fun y hy => hle y (.tail _ hy)
        rw [e]
        exact q⟩⟩⟩
theorem cg_min (hc : X.calm = true := by rfl) : CG X ca (.builtin "min") gMinL := ⟨_, cr_min hc, fun H xs ds d r h => by
  match ds, h with
  | [a], h =>
    obtain ⟨ns, e1, e2⟩ := bind_some (show ((lstOf a).bind asInts).bind (fun ns => match ns with | [] => none | n :: ns => some (D.int (minI n ns))) = some d from h)
    obtain ⟨x, rfl, rx⟩ := reps1 r
    obtain ⟨p, rfl, hq⟩ := lst_ints rx e1
    cases ns with
    | nil => cases e2
    | cons n ns =>
      cases e2
      exact ⟨_, .int _, fun Q q => ⟨p, n :: ns, rfl, hq, by simp, fun m hm hle => by
        have e : m = minI n ns := minI_is ns n m (List.mem_cons.mp hm) (hle n (.head _)) fun y hy => hle y (.tail _ hy)
        rw [e]
        exact q⟩⟩⟩
end
end DL

/-! DL: blocks by a check, index, max and min with default. -/
namespace DL
open PySem PySem.Spec PyProof.Rows L2
def blkB (N : List Str) (sc scope : Scope) (own : List (Str × Nat)) : Bool :=
  decide (scope.kind = .function) && ((scope.names.all fun y => decide (scope.names.lookup y.1 = some y.2)) && ((own.all fun p => decide (N[p.2]? = some p.1)) && ((scope.names.all fun y => decide (y.2 = .free → sc.names.lookup y.1 = some .cell ∨ sc.names.lookup y.1 = some .free)) &&
    (scope.names.all fun y => decide (y.2 = .local ∨ y.2 = .cell → y.1 ∈ own.map (·.1) ∨ y.1 ∉ N)))))
theorem blkB_ok {N : List Str} {sc scope : Scope} {own : List (Str × Nat)} (h : blkB N sc scope own = true) : BlkOk N sc scope own := by
  unfold blkB at h
  simp only [Bool.and_eq_true, List.all_eq_true, decide_eq_true_eq] at h
  obtain ⟨h1, h2, h3, h4, h5⟩ := h
  exact ⟨h1, h2, h3, h4, h5⟩

/-! ### l.index(k) -/
def idxI (k : Int) : List Int → Option Nat
  | [] => none
  | n :: ns => if n = k then some 0 else (idxI k ns).map (· + 1)
theorem idxI_some {k : Int} : ∀ {ns : List Int} {j : Nat}, idxI k ns = some j → ns[j]? = some k ∧ ∀ m, m < j → ns[m]? ≠ some k
  | [], _, h => by cases h
  | n :: ns, j, h => by
    unfold idxI at h
    split at h
    · rename_i e
      cases h
      subst e
      exact ⟨rfl, fun m hm => absurd hm (Nat.not_lt_zero m)⟩
    · rename_i e
      obtain ⟨i, h1, h2⟩ := Option.map_eq_some_iff.mp h
      subst h2
      obtain ⟨g1, g2⟩ := idxI_some h1
      refine ⟨by simpa using g1, fun m hm => ?_⟩
      cases m with
      | zero => simpa using e
      | succ m => simpa using g2 m (by omega)
theorem idxI_mem {k : Int} : ∀ {ns : List Int}, k ∈ ns → ∃ j, idxI k ns = some j
  | [], h => nomatch h
  | n :: ns, h => by
    unfold idxI
    split
    · exact ⟨0, rfl⟩
    · rename_i e
      rcases List.mem_cons.mp h with h | h
      · exact absurd h.symm e
      · obtain ⟨j, hj⟩ := idxI_mem h
        exact ⟨j + 1, by rw [hj]; rfl⟩
def gIdx (a b : D) : Option D := match b with
  | .int k => ((lstOf a).bind asInts).bind fun ns => (idxI k ns).map fun (j : Nat) => .int j
  | _ => none
def rMaxDef (K : PySem.W.Frag) : List V → List V → Hp → VK → Prop := fun vs zs H Q => ∃ (a : Addr) (ns : List Int) (d : V), vs = [.ref a] ∧ zs = [d] ∧ SqL K H a (ns.map V.int) ∧ (ns = [] → Q d H) ∧ ∀ n r, ns = n :: r → Q (.int (maxI n r)) H
def rMinDef (K : PySem.W.Frag) : List V → List V → Hp → VK → Prop := fun vs zs H Q => ∃ (a : Addr) (ns : List Int) (d : V), vs = [.ref a] ∧ zs = [d] ∧ SqL K H a (ns.map V.int) ∧ (ns = [] → Q d H) ∧ ∀ n r, ns = n :: r → Q (.int (minI n r)) H
theorem maxOf_int : ∀ (r : List Int) (n : Int), PySem.W.maxOf n r = maxI n r
  | [], _ => rfl
  | m :: r, n => by
    unfold maxI
    rw [← maxOf_int r]
    unfold PySem.W.maxOf
    rw [List.foldl_cons]
    congr 1
    show (if decide (n < m) = true then m else n) = if m > n then m else n
    by_cases h : n < m
    · rw [if_pos (decide_eq_true h), if_pos h]
    · rw [if_neg (by simpa using h), if_neg h]
theorem minOf_int : ∀ (r : List Int) (n : Int), PySem.W.minOf n r = minI n r
  | [], _ => rfl
  | m :: r, n => by
    unfold minI
    rw [← minOf_int r]
    unfold PySem.W.minOf
    rw [List.foldl_cons]
    congr 1
    show (if decide (m < n) = true then m else n) = if m < n then m else n
    by_cases h : m < n
    · rw [if_pos (decide_eq_true h), if_pos h]
    · rw [if_neg (by simpa using h), if_neg h]
section
variable {X : Cx} {ca : Cl → Addr} {Γ : List Md} {a b e : Expr} {ma mb me : Vm} {fa fb fe : DFn} {p pos apos cpos kp : Pos}
theorem holds_int {h : Heap} {v : Value} {n : Int} (H : PySem.W.Holds h v n) : ∃ t, v = .int n t := by
  obtain ⟨as, r⟩ := H
  obtain ⟨t, e, _⟩ := PyProof.Rows.reads_int_inv (show Reads h v (.int n) as from r)
  exact ⟨t, e⟩
theorem cr_maxDef {k : Nat} (hr : Room k X.A) (hc : X.calm = true := by rfl) : CallRK X (.builtin "max") ["default"] (rMaxDef X.K) := by
  intro pins s σ H xs zs us ws Q I r rz h
  obtain ⟨a, ns, d, rfl, rfl, hq, h0, h1⟩ := h
  rw [Vals.ref1 r]
  obtain ⟨w, rfl, rw'⟩ := vals1 rz
  obtain ⟨its, rv, hl, hz⟩ := I.list hq
  have hI : IntsAre its ns := rv.ints
  refine PySem.W.max_list_datum_default (α := Int) (xs := ns) (d := w) (I.ok.hd hc) hl.isList ⟨[], PySem.W.readsAll_of_ints (by simpa using hI)⟩ (by have := hr.units; show X.A.units + 1 + 0 < cLine; omega) (fun e h' tk kp => ?_) fun y ys i v h' tk e hi hv kp => ?_
  · exact ⟨d, H, I.kept (t' := tk) kp, rw', h0 e⟩
  · obtain ⟨t, rfl⟩ := holds_int hv
    rw [maxOf_int]
    exact ⟨.int (maxI y ys), H, I.kept (t' := tk) kp, ⟨t, rfl⟩, h1 y ys e⟩
theorem cr_minDef {k : Nat} (hr : Room k X.A) (hc : X.calm = true := by rfl) : CallRK X (.builtin "min") ["default"] (rMinDef X.K) := by
  intro pins s σ H xs zs us ws Q I r rz h
  obtain ⟨a, ns, d, rfl, rfl, hq, h0, h1⟩ := h
  rw [Vals.ref1 r]
  obtain ⟨w, rfl, rw'⟩ := vals1 rz
  obtain ⟨its, rv, hl, hz⟩ := I.list hq
  have hI : IntsAre its ns := rv.ints
  refine PySem.W.min_list_datum_default (α := Int) (xs := ns) (d := w) (I.ok.hd hc) hl.isList ⟨[], PySem.W.readsAll_of_ints (by simpa using hI)⟩ (by have := hr.units; show X.A.units + 1 + 0 < cLine; omega) (fun e h' tk kp => ?_) fun y ys i v h' tk e hi hv kp => ?_
  · exact ⟨d, H, I.kept (t' := tk) kp, rw', h0 e⟩
  · obtain ⟨t, rfl⟩ := holds_int hv
    rw [minOf_int]
    exact ⟨.int (minI y ys), H, I.kept (t' := tk) kp, ⟨t, rfl⟩, h1 y ys e⟩
def gMaxDf (a d : D) : Option D := ((lstOf a).bind asInts).bind fun ns => match ns with
  | [] => some d
  | n :: r => some (.int (maxI n r))
def gMinDf (a d : D) : Option D := ((lstOf a).bind asInts).bind fun ns => match ns with
  | [] => some d
  | n :: r => some (.int (minI n r))
/-- max(l, default=d) -/
theorem pd_maxDef {k : Nat} (hr : Room k X.A) (ha : PDE X ca Γ a ma fa) (hb : PDE X ca Γ b .s fb) (hm : X.mg "max" = none) (hg : Gl X "max" := by rfl) (hc : X.calm = true := by rfl)
    (hs : starEach [a] X.env = (false, eval a X.env) :: starEach [] X.env := by rfl) (he : backTo pos (starEach (a :: []) X.env) = (false, eval a X.env) :: backTo pos (starEach [] X.env) := by rfl) (hpl : (backTo pos (starEach (a :: []) X.env)).any (·.1) = false := by rfl)
    (hall : (backToKw pos (keywordEach [⟨some "default", b, kp⟩] X.env)).all (·.1.isSome) = true := by rfl) (hnone : (backToKw pos (keywordEach [⟨some "default", b, kp⟩] X.env)).any (·.1.isNone) = false := by rfl) (hks : (backToKw pos (keywordEach [⟨some "default", b, kp⟩] X.env)).filterMap (·.1) = [("default" : Str)] := by rfl) :
    PDE X ca Γ (.Call (.Name "max" p) [a] [⟨some "default", b, kp⟩] pos) .s (d2 gMaxDf fa fb) := by
  obtain ⟨t, pa, qa⟩ := ha
  obtain ⟨u, pb, qb⟩ := hb
  refine ⟨_, pe_callBK (cr_maxDef hr hc) hg hm (by decide +kernel) (pa_cons pa pa_nil hs) (pk_cons pb pk_nil) (by decide) (by decide) he hpl hall hnone hks, fun B S0 M L σ H ρ E d hd Q k => ?_⟩
  obtain ⟨x, e1, hd⟩ := bind_some hd
  obtain ⟨y, e2, hd⟩ := bind_some hd
  obtain ⟨ns, e3, hd⟩ := bind_some hd
  refine qa B S0 M L σ H ρ E x e1 _ fun v H1 x1 r1 => ?_
  refine qb B S0 M L σ H1 ρ (E.ext x1) y e2 _ fun w H2 x2 r2 => ?_
  have E2 := (E.ext x1).ext x2
  obtain ⟨l, e4, hq⟩ := lst_ints (c := ⟨X.K, ca⟩) ((r1.mono x2).rep E2.eb) e3
  refine ⟨l, ns, w, by rw [e4], rfl, hq, fun e => ?_, fun n r e => ?_⟩
  · subst e
    cases hd
    exact k w H2 (x1.trans x2) r2
  · subst e
    cases hd
    exact k _ H2 (x1.trans x2) (.int _)
theorem pd_minDef {k : Nat} (hr : Room k X.A) (ha : PDE X ca Γ a ma fa) (hb : PDE X ca Γ b .s fb) (hm : X.mg "min" = none) (hg : Gl X "min" := by rfl) (hc : X.calm = true := by rfl)
    (hs : starEach [a] X.env = (false, eval a X.env) :: starEach [] X.env := by rfl) (he : backTo pos (starEach (a :: []) X.env) = (false, eval a X.env) :: backTo pos (starEach [] X.env) := by rfl) (hpl : (backTo pos (starEach (a :: []) X.env)).any (·.1) = false := by rfl)
    (hall : (backToKw pos (keywordEach [⟨some "default", b, kp⟩] X.env)).all (·.1.isSome) = true := by rfl) (hnone : (backToKw pos (keywordEach [⟨some "default", b, kp⟩] X.env)).any (·.1.isNone) = false := by rfl) (hks : (backToKw pos (keywordEach [⟨some "default", b, kp⟩] X.env)).filterMap (·.1) = [("default" : Str)] := by rfl) :
    PDE X ca Γ (.Call (.Name "min" p) [a] [⟨some "default", b, kp⟩] pos) .s (d2 gMinDf fa fb) := by
  obtain ⟨t, pa, qa⟩ := ha
  obtain ⟨u, pb, qb⟩ := hb
  refine ⟨_, pe_callBK (cr_minDef hr hc) hg hm (by decide +kernel) (pa_cons pa pa_nil hs) (pk_cons pb pk_nil) (by decide) (by decide) he hpl hall hnone hks, fun B S0 M L σ H ρ E d hd Q k => ?_⟩
  obtain ⟨x, e1, hd⟩ := bind_some hd
  obtain ⟨y, e2, hd⟩ := bind_some hd
  obtain ⟨ns, e3, hd⟩ := bind_some hd
  refine qa B S0 M L σ H ρ E x e1 _ fun v H1 x1 r1 => ?_
  refine qb B S0 M L σ H1 ρ (E.ext x1) y e2 _ fun w H2 x2 r2 => ?_
  have E2 := (E.ext x1).ext x2
  obtain ⟨l, e4, hq⟩ := lst_ints (c := ⟨X.K, ca⟩) ((r1.mono x2).rep E2.eb) e3
  refine ⟨l, ns, w, by rw [e4], rfl, hq, fun e => ?_, fun n r e => ?_⟩
  · subst e
    cases hd
    exact k w H2 (x1.trans x2) r2
  · subst e
    cases hd
    exact k _ H2 (x1.trans x2) (.int _)
/-- l.index(k) -/
theorem pd_index (ha : PDE X ca Γ a ma fa) (hb : PDE X ca Γ b mb fb)
    (hbase : attributeBase a "index" X.env (eval a X.env) = eval a X.env := by rfl) (hfew : ((backTo cpos (starEach (b :: []) X.env)).all (fun x => !x.1) && (backToKw cpos (keywordEach [] X.env)).all (fun x => x.1.isSome)
      && decide ((b :: []).length + ([] : List Keyword).length + (if ([] : List Keyword).isEmpty then 0 else 1) < 30)) = true := by rfl) (hline : (apos.endLine == cpos.line) = true := by rfl) (hst : starEach (b :: []) X.env = (false, eval b X.env) :: starEach [] X.env := by rfl) (hpl : (backTo cpos (starEach [] X.env)).any (·.1) = false := by rfl) :
    PDE X ca Γ (.Call (.Attribute a "index" apos) [b] [] cpos) .s (d2 gIdx fa fb) := by
  obtain ⟨t, pa, qa⟩ := ha
  obtain ⟨u, pb, qb⟩ := hb
  refine ⟨_, pe_bm PySem.F.plainAttrs_list PySem.F.slot_list_index PySem.F.type_list_index mt_index pa (pa_cons pb pa_nil hst) hbase hfew hline hst hpl, fun B S0 M L σ H ρ E d hd Q k => ?_⟩
  obtain ⟨x, e1, hd⟩ := bind_some hd
  obtain ⟨y, e2, hd⟩ := bind_some hd
  cases y with
  | int n =>
    obtain ⟨ns, e3, hd⟩ := bind_some (show ((lstOf x).bind asInts).bind (fun ns => (idxI n ns).map fun (j : Nat) => D.int j) = some d from hd)
    obtain ⟨j, e4, hd⟩ := Option.map_eq_some_iff.mp hd
    subst hd
    refine qa B S0 M L σ H ρ E x e1 _ fun v H1 x1 r1 => ?_
    obtain ⟨l, e5, hq1⟩ := lst_ints (c := ⟨X.K, ca⟩) (r1.rep (E.eb.trans x1)) e3
    refine ⟨by rw [e5]; exact .inl ⟨rfl, _, hq1⟩, ?_⟩
    refine qb B S0 M L σ H1 ρ (E.ext x1) _ e2 _ fun w H2 x2 r2 => ?_
    have E2 := (E.ext x1).ext x2
    obtain ⟨l', e6, hq⟩ := lst_ints (c := ⟨X.K, ca⟩) ((r1.mono x2).rep E2.eb) e3
    have ew := (r2.rep E2.eb).int_inv
    subst ew
    obtain ⟨g1, g2⟩ := idxI_some e4
    refine ⟨l', ns.map V.int, .int n, j, .int n, e6, rfl, hq, rfl, by simp [flatV], by rw [List.getElem?_map, g1]; rfl, by simp [eqV], fun m z hm hz => ?_, k _ H2 (x1.trans x2) (.int _)⟩
    rw [List.getElem?_map] at hz
    obtain ⟨i, h1, h2⟩ := Option.map_eq_some_iff.mp hz
    subst h2
    have ne : i ≠ n := fun e => g2 m hm (e ▸ h1)
    show (i == n) = false
    simpa using ne
  | _ => cases hd
end
end DL

/-! DL: len of a dict by ints. -/
namespace DL
open PySem PySem.Spec PyProof.Rows L2
def gLenD (d : D) : Option D := match d with
  | .dI kvs => some (.int kvs.length)
  | _ => none
section
variable {X : Cx} {ca : Cl → Addr} {Γ : List Md} {a : Expr} {ma : Vm} {fa : DFn} {p pos : Pos}
theorem pd_lenD (ha : PDE X ca Γ a ma fa) (h1 : X.mg "len" = none) (hg : Gl X "len" := by rfl)
    (hs : starEach [a] X.env = (false, eval a X.env) :: starEach [] X.env := by rfl) (hpl : (backTo pos (starEach [] X.env)).any (·.1) = false := by rfl) :
    PDE X ca Γ (.Call (.Name "len" p) [a] [] pos) .s (d1 gLenD fa) := by
  obtain ⟨t, pa, qa⟩ := ha
  refine ⟨_, pe_callB call_lenD hg h1 (by decide +kernel) (pa_cons pa pa_nil hs) (by decide) (by decide) hs hpl, fun B S0 M L σ H ρ E d hd Q k => ?_⟩
  obtain ⟨x, e1, hd⟩ := bind_some hd
  cases x with
  | dI kvs =>
    cases hd
    refine qa B S0 M L σ H ρ E _ e1 _ fun v H1 x1 r1 => ?_
    obtain ⟨S, dr, _⟩ := VR.dictR (E.ext x1) r1 rfl
    obtain ⟨a, es, rfl, ha, kv⟩ := dr
    refine ⟨a, es, rfl, ha, ?_⟩
    rw [kv.length]
    exact k _ H1 x1 (.int _)
  | _ => cases hd
end
end DL

/-! DL: for an expression, all that is one's own is lent. -/
namespace DL
open PySem PySem.Spec PyProof.Rows L2
def lendM : Md → Md
  | .f => .b
  | .x => .b
  | .o _ _ => .b
  | m => m
section
variable {c : Ct} {B S0 S H H' : Hp} {M : Mz} {Γ Γ1 : List Md} {L : List (List Addr)} {σ : L2.St} {ρ : List D} {z : Addr}
theorem In.nils {a : Addr} (h : In (L.map fun _ => []) a) : False := by
  obtain ⟨l, h1, h2⟩ := h
  obtain ⟨_, _, rfl⟩ := List.mem_map.mp h1
  exact nomatch h2
theorem Apart.nils : ∀ L : List (List Addr), Apart (L.map fun _ => [])
  | [] => True.intro
  | _ :: L => ⟨fun _ h => (nomatch h), Apart.nils L⟩
theorem Slots.lend (eS : Ex S H) (eB : Ex B H) : ∀ {Γ : List Md} {L : List (List Addr)} {σ : L2.St} {ρ : List D}, Slots c B z S H Γ L σ ρ → Slots c H z S H (Γ.map lendM) (L.map fun _ => []) σ ρ
  | _, _, _, _, .nil => .nil
  | m :: _, _, _, _, .cons h r => .cons (by
      cases m with
      | n => exact rfl
      | b => obtain ⟨_, v, e, q⟩ := h; exact ⟨rfl, v, e, q.mono eB⟩
      | s => obtain ⟨_, v, e, q⟩ := h; exact ⟨rfl, v, e, q⟩
      | f => obtain ⟨p, _, e, q⟩ := h; exact ⟨rfl, _, e, q.rep eS fun _ _ _ h => h⟩
      | x => obtain ⟨_, e, q⟩ := h; exact ⟨rfl, _, e, q.rep eS fun _ _ _ h => h⟩
      | o => obtain ⟨_, v, e, hp, q⟩ := h; exact ⟨rfl, _, e, q.rep eS fun _ _ _ h => h⟩
      | e a dx k => obtain ⟨_, h2, h3⟩ := h; exact ⟨rfl, h2, h3⟩) (Slots.lend eS eB r)
def Mz.lend (M : Mz) (L : List (List Addr)) : Mz := ⟨Msk M L, M.z⟩
theorem msk_lend {a : Addr} : Msk (M.lend L) (L.map fun _ => []) a ↔ Msk M L a := ⟨fun h => by
  rcases h with h | h
  · exact h
  · exact h.nils.elim, fun h => .inl h⟩
theorem hide_lend : hide (Msk (M.lend L) (L.map fun _ => [])) H = hide (Msk M L) H := by
  funext a
  unfold hide
  by_cases h : Msk M L a
  · rw [if_pos h, if_pos (msk_lend.mpr h)]
  · rw [if_neg h, if_neg fun q => h (msk_lend.mp q)]
theorem EnvR.lend (E : EnvR c B S0 M Γ L σ H ρ) : EnvR c H S0 (M.lend L) (Γ.map lendM) (L.map fun _ => []) σ H ρ :=
  ⟨Ex.refl _, fun a h => ⟨by
    rcases h with h | h
    · exact (E.hm a h).1
    · exact (E.hl a h).1, fun q => q.nils⟩, by rw [hide_lend]; exact E.es, Apart.nils L, fun a h => h.nils.elim, by
    rw [hide_lend]
    exact E.sl.lend hide_ex E.eb⟩
theorem DE.lend {t : TE} {f : DFn} (h : DE c (Γ.map lendM) t .s f) : DE c Γ t .s f := fun B S0 M L σ H ρ E d hd Q q =>
  h H S0 (M.lend L) _ σ H ρ E.lend d hd Q fun v H' e r => q v H' e (by
    have r' : Rep c (hide (Msk (M.lend L) (L.map fun _ => [])) H') v d := r
    rw [hide_lend] at r'
    exact r')
theorem DE.lendB {t : TE} {f : DFn} (h : DE c (Γ.map lendM) t .b f) : DE c Γ t .t f := fun B S0 M L σ H ρ E d hd Q q =>
  h H S0 (M.lend L) _ σ H ρ E.lend d hd Q fun v H' e r => q v H' e (Rep.mono e r)
theorem DE.lendT {t : TE} {f : DFn} (h : DE c (Γ.map lendM) t .t f) : DE c Γ t .t f := fun B S0 M L σ H ρ E d hd Q q =>
  h H S0 (M.lend L) _ σ H ρ E.lend d hd Q fun v H' e r => q v H' e r
theorem DN.lend {t : TE} {f : DFn} (h : DN c (Γ.map lendM) t f) : DN c Γ t f := fun B S0 M L σ H ρ E d hd Q q =>
  h H S0 (M.lend L) _ σ H ρ E.lend d hd Q fun p H' e hn r => q p H' e hn (by
    have eq : (fun a => Msk (M.lend L) (L.map fun _ => []) a ∨ a = p) = fun a => Msk M L a ∨ a = p := funext fun a => propext (or_congr_left msk_lend)
    rw [eq] at r
    exact r)
theorem DT.lend {t : TT} {f : List D → Option Bool} (h : DT c (Γ.map lendM) t f) : DT c Γ t f := fun B S0 M L σ H ρ E b hb Q q =>
  h H S0 (M.lend L) _ σ H ρ E.lend b hb Q q
end
section
variable {X : Cx} {ca : Cl → Addr} {W : WX} {J : Jd} {Γ Γ0 Γ1 Γ2 Γ' : List Md} {e : Expr} {f : DFn} {m : Vm} {pos pos' apos cpos spos py : Pos} {x y : Str} {sh : Bool} {is : List Nat} {elt tg iter : Expr} {ifs : List Expr} {scope : Scope} {fi : List D → Option (List D)} {u : D → List D → Option (List D)} {t : List D → Option Bool}
theorem pd_lend (h : PDE X ca Γ1 e .s f) (hg : Γ.map lendM = Γ1 := by rfl) : PDE X ca Γ e .s f := by
  subst hg
  obtain ⟨t, p, q⟩ := h
  exact ⟨t, p, q.lend⟩
theorem pd_lendB (h : PDE X ca Γ1 e .b f) (hg : Γ.map lendM = Γ1 := by rfl) : PDE X ca Γ e .t f := by
  subst hg
  obtain ⟨t, p, q⟩ := h
  exact ⟨t, p, q.lendB⟩
theorem pd_lendT (h : PDE X ca Γ1 e .t f) (hg : Γ.map lendM = Γ1 := by rfl) : PDE X ca Γ e .t f := by
  subst hg
  obtain ⟨t, p, q⟩ := h
  exact ⟨t, p, q.lendT⟩
theorem pdn_lend (h : PDN X ca Γ1 e f) (hg : Γ.map lendM = Γ1 := by rfl) : PDN X ca Γ e f := by
  subst hg
  obtain ⟨t, p, q⟩ := h
  exact ⟨t, p, q.lend⟩
theorem pdt_lend {f : List D → Option Bool} (h : PDT X ca Γ1 e f) (hg : Γ.map lendM = Γ1 := by rfl) : PDT X ca Γ e f := by
  subst hg
  obtain ⟨t, p, q⟩ := h
  exact ⟨t, p, q.lend⟩
/-- y = [elt for ..] on one line, what is one's own lent -/
theorem pds_setLcL (i : Nat) (own : List (Str × Nat)) (hi : PDI X ca sh Γ0 tg iter fi) (hN : X.N.Nodup) (ok : BlkOk X.N X.env.scope scope own)
    (hg : ∀ (s : Shared) (H : Hp) (C : Addr) (cl : List (Str × Addr)) (fp : List Addr), PDG (X.blk s H scope (compEnvC scope cl C X.env) fp) ca sh (wipeM Γ0 (own.map (·.2))) tg Γ1 is u)
    (ht : ∀ (s : Shared) (H : Hp) (C : Addr) (cl : List (Str × Addr)) (fp : List Addr), PDTs (X.blk s H scope (compEnvC scope cl C X.env) fp) ca Γ1 ifs t)
    (he : ∀ (s : Shared) (H : Hp) (C : Addr) (cl : List (Str × Addr)) (fp : List Addr), PDE (X.blk s H scope (compEnvC scope cl C X.env) fp) ca Γ1 elt .s f)
    (hsw : swapsWith (.ListComp elt [⟨tg, iter, ifs, 0⟩] scope pos) (some (.Name y py)) spos.line X.env = pure true) (hg0 : Γ.map lendM = Γ0 := by rfl)
    (hy : X.N[i]? = some y := by rfl) (hyl : X.env.scope.names.lookup y = some .local := by rfl)
    (hc : X.calm = true := by rfl) (hw : okW Γ0 (own.map (·.2)) = true := by decide) (his : ∀ i ∈ is, i ∈ own.map (·.2) := by decide) (hs : ∀ x, foldedSetIterable iter X.env x = pure x := by intro _; rfl) :
    PDS X ca W J Γ (.Assign [.Name y py] (.ListComp elt [⟨tg, iter, ifs, 0⟩] scope pos) spos) (Γ.set i .f) (dAsg i (dLc fi u t f)) := by
  subst hg0
  obtain ⟨wi, p1, q1⟩ := hi
  exact ⟨_, ps_setLc (tt := rdT ⟨X.K, ca⟩ Γ1 t) hc hN hy hyl hsw p1 ok (fun s H C cl fp => (hg s H C cl fp).rd) (fun s H C cl fp => ht s H C cl fp) (fun s H C cl fp => (he s H C cl fp).rd) hs, DN.set (c := ⟨X.K, ca⟩) (DN.lend (DN.lc (c := ⟨X.K, ca⟩) hw his q1)) i⟩
end
end DL

/-! DL: parts of tuples, tuples turned about, tuples of lists. -/
namespace DL
open PySem PySem.Spec PyProof.Rows L2 HT
open PySem.Calls
section
variable {prog : Program} {w : World} {A : Around} {E : Value → Shared → Prop} {s : Shared}
theorem slicePart_any {v : Value} {o : Option Int} {Q : Option Int → Shared → Prop} (p : IsPart v o) (h : Q o s) : wpAny (model prog w) A (Builtin.Slice.slicePartIndex v) Q E s := by
  cases p with
  | none => exact slicePart_none h
  | int i t => exact slicePart_int h
theorem sliceApplied_rev {sl : Addr} {vl vu vs : Value} {n : Nat} {Q : Int × Int × Nat → Shared → Prop} (hs : s.heap.IsSliceOf sl vl vu vs) (pl : IsPart vl none) (pu : IsPart vu none) (ps : IsPart vs (some (-1)))
    (h : Q ((n : Int) - 1, -1, n) s) : wpAny (model prog w) A (Builtin.Slice.sliceApplied (.ref sl) (pure (n : Int))) Q E s := by
  obtain ⟨os, hos, hcs, hds⟩ := id hs
  unfold Builtin.Slice.sliceApplied Builtin.Slice.sliceFields
  refine wpAny_bind (wpAny_bind (wpAny_field hos hds (x := vl) rfl (wpAny_bind (wpAny_field hos hds (x := vu) rfl (wpAny_bind (wpAny_field hos hds (x := vs) rfl (wpAny_pure ?_)))))))
  refine wpAny_bind (slicePart_any ps ?_)
  show wpAny _ _ (if ((-1 : Int) == 0) = true then _ else _) _ _ s
  rw [if_neg (by decide)]
  refine wpAny_bind (slicePart_any pl (wpAny_bind (slicePart_any pu (wpAny_bind (wpAny_pure ?_)))))
  show wpAny _ _ (match Builtin.Slice.sliceAdjust none none (-1) (n : Int) with | (lo, hi) => pure (lo, (-1 : Int), Builtin.Slice.slicePlaces lo hi (-1))) _ _ s
  have e1 : Builtin.Slice.sliceAdjust none none (-1) (n : Int) = ((n : Int) - 1, -1) := by
    unfold Builtin.Slice.sliceAdjust
    simp
  rw [e1]
  show wpAny _ _ (pure ((n : Int) - 1, (-1 : Int), Builtin.Slice.slicePlaces ((n : Int) - 1) (-1) (-1))) _ _ s
  have e2 : Builtin.Slice.slicePlaces ((n : Int) - 1) (-1) (-1) = n := by
    unfold Builtin.Slice.slicePlaces
    rw [if_neg (by decide)]
    by_cases q : n = 0
    · subst q
      rfl
    · rw [if_pos (by omega), show (n : Int) - 1 - -1 - 1 = (n : Int) - 1 by omega, show -(-1 : Int) = 1 by decide, Int.ediv_one]
      omega
  rw [e2]
  exact wpAny_pure h
theorem pick_rev (xs : Array Value) : ((List.range xs.size).filterMap fun (m : Nat) => xs[((xs.size : Int) - 1 + (m : Int) * -1).toNat]?).toArray = xs.toList.reverse.toArray := by
  congr 1
  refine List.ext_getElem? fun i => ?_
  have e : (List.range xs.size).filterMap (fun (m : Nat) => xs[((xs.size : Int) - 1 + (m : Int) * -1).toNat]?) = (List.range xs.size).map fun m => (xs[xs.size - 1 - m]?).getD .none := by
    have main : ∀ l : List Nat, (∀ m ∈ l, m < xs.size) → l.filterMap (fun (m : Nat) => xs[((xs.size : Int) - 1 + (m : Int) * -1).toNat]?) = l.map fun m => (xs[xs.size - 1 - m]?).getD .none := by
      intro l
      induction l with
      | nil => intro _; rfl
      | cons m l ih =>
        intro h
        have hm := h m (.head _)
        have e1 : ((xs.size : Int) - 1 + (m : Int) * -1).toNat = xs.size - 1 - m := by omega
        rw [List.filterMap_cons, e1, List.map_cons, ih fun y hy => h y (.tail _ hy)]
        rw [Array.getElem?_eq_getElem (show xs.size - 1 - m < xs.size by omega)]
        rfl
    exact main _ fun m hm => List.mem_range.mp hm
  rw [e, List.getElem?_map]
  by_cases q : i < xs.size
  · rw [List.getElem?_range q, List.getElem?_reverse (by rw [Array.length_toList]; exact q), Array.length_toList, Array.getElem?_toList]
    rw [Array.getElem?_eq_getElem (show xs.size - 1 - i < xs.size by omega)]
    show some ((xs[xs.size - 1 - i]?).getD .none) = _
    rw [Array.getElem?_eq_getElem (show xs.size - 1 - i < xs.size by omega)]
    rfl
  · rw [List.getElem?_eq_none (by rw [List.length_range]; omega), List.getElem?_eq_none (by rw [List.length_reverse, Array.length_toList]; omega)]
    rfl
theorem getItem_tuple_rev {t sl : Addr} {items : Array Value} {vl vu vs : Value} {Q : Value → Shared → Prop} (ht : IsTup s.heap t items) (hs : s.heap.IsSliceOf sl vl vu vs) (pl : IsPart vl none) (pu : IsPart vu none) (ps : IsPart vs (some (-1)))
    (h : Q (.ref s.heap.objs.size) { s with heap := s.heap.push { cls := .type "tuple", data := .seq items.toList.reverse.toArray } })
    (hsz : items.size ≤ sizeLine) : wpAny (model prog w) A (getItem (.ref t) (.ref sl)) Q E s := by
  have htake : sizeOk (.seq items.toList.reverse.toArray) := by
    show items.toList.reverse.toArray.size ≤ sizeLine
    rw [List.size_toArray, List.length_reverse, Array.length_toList]
    exact hsz
  obtain ⟨os, hos, hcs, hds⟩ := id hs
  have hTs : s.TypeIs (.ref sl) "slice" := ⟨os, hos, hcs⟩
  unfold getItem
  try with_reducible refine wpAny_holding ?_
  first | refine wpAny_bind (wpAny_pure ?_) | skip
  refine wpAny_bind (wpAny_sequenceKey ht.typeIs (by decide) ?_)
  refine wpAny_bind (wpAny_callSpecial?_slot (name := Str.ofString "__getitem__") ht.typeIs PyProof.Rows.slot_tuple_getitem
    (wpAny_call_entry PyProof.Rows.slot_tuple_getitem ht.typeIs entry_tuple_getitem ?_ (args_tuple_getitem _ _)))
  show wpAny _ _ (Builtin.Tuple.tupleItemsOf (.ref t) >>= _) _ _ s
  refine wpAny_bind (tupleItemsOf_ ht ?_)
  refine wpAny_bind (wpAny_typeOf hTs ?_)
  rw [if_pos (by decide)]
  refine wpAny_bind (sliceApplied_rev hs pl pu ps ?_)
  have hno : ¬ (((((items.size : Int) - 1) == 0 && (-1 : Int) == 1 && items.size == items.size)) = true) := by
    intro q
    rw [Bool.and_eq_true, Bool.and_eq_true] at q
    exact absurd q.1.2 (by decide)
  show wpAny _ _ (if (((items.size : Int) - 1) == 0 && (-1 : Int) == 1 && items.size == items.size) = true then _ else _) _ _ s
  rw [if_neg hno, pick_rev]
  first
    | exact wpAny_bind (m := Builtin.Tuple.tupleExact _) (wpAny_newObj_type (wpAny_pure ⟨_, rfl, wpAny_pure h⟩) htake)
    | exact wpAny_bind (m := Builtin.Tuple.tupleExact _) (wpAny_newObj_type (wpAny_bind (wpAny_pure (wpAny_pure ⟨_, rfl, wpAny_pure h⟩))) htake)
    | exact wpAny_bind (wpAny_bind (m := Builtin.Tuple.tupleExact _) (wpAny_newObj_type (wpAny_pure (wpAny_pure ⟨_, rfl, wpAny_pure h⟩)) htake))
    | exact wpAny_bind (wpAny_bind (m := Builtin.Tuple.tupleExact _) (wpAny_newObj_type (wpAny_pure ⟨_, rfl, wpAny_pure h⟩) htake))
end
def tRevT (K : PySem.W.Frag) (te : TE) : TE := fun σ H Q => te σ H fun x H1 => ∃ a xs, x = .ref a ∧ SqT K H1 a xs ∧ ∀ p, H1 p = none → Q (.ref p) (upd H1 p (.tup xs.reverse))
theorem pe_revT {X : Cx} {e : Expr} {te : TE} {k : Nat} {p1 p2 p3 pos : Pos} (he : PE X e te) : PE X (.Subscript e (.Slice none none (some (.UnaryOp .USub (.Constant (.int 1) k p1) p2)) p3) pos) (tRevT X.K te) := by
  refine ⟨fun pins s σ H Q I h => ?_⟩
  refine Subscript_ (thn (he.run pins s σ H _ I h) fun v s1 ⟨x, H1, I1, r1, q1⟩ => ?_)
  obtain ⟨a, xs, ex, hx, q⟩ := q1
  subst ex
  cases r1
  have hst : PO X (some (.UnaryOp .USub (.Constant (.int 1) k p1) p2)) (tPart (tUn (rU fun i => .int (-i)) (tC (.int 1)))) := po_some (pe_un un_neg pe_int)
  refine wpAny_Slice (thn (po_none.run pins s1 σ H1 (fun o H2 => o = none ∧ H2 = H1) I1 ⟨rfl, rfl⟩) fun vl s2 ⟨l, H2, I2, pl, el, e2⟩ => ?_)
  subst el e2
  refine thn (po_none.run pins s2 σ H2 (fun o H3 => o = none ∧ H3 = H2) I2 ⟨rfl, rfl⟩) fun vu s3 ⟨u, H3, I3, pu, eu, e3⟩ => ?_
  subst eu e3
  refine thn (hst.run pins s3 σ H3 (fun o H4 => o = some (-1) ∧ H4 = H3) I3 ⟨1, rfl, -1, rfl, rfl, rfl⟩) fun vs s4 ⟨o, H4, I4, ps, eo, e4⟩ => ?_
  subst eo e4
  have I5 : Inv X pins σ H4 { s4 with heap := s4.heap.push { cls := .type "slice", data := .fields #[vl, vu, vs] } } := I4.kept (t' := s4.toks) fun b ob q => Heap.get?_push_of_some _ q
  obtain ⟨its, r, ht, hz⟩ := I5.tuple hx
  have hlen := r.length
  show wpAny (model X.prog X.w) X.A (subscriptTail e (.Slice none none (some (.UnaryOp .USub (.Constant (.int 1) k p1) p2)) p3) (.ref a) (.ref s4.heap.objs.size)) (EP X pins σ Q) X.xe { s4 with heap := s4.heap.push { cls := .type "slice", data := .fields #[vl, vu, vs] } }
  refine tail_any (ops := [.ref a, .ref s4.heap.objs.size]) ht.typeIs PyProof.Rows.slot_tuple_getitem.lookup ?_ (by with_unfolding_all rfl)
  refine getItem_tuple_rev ht (Heap.IsSliceOf.new _ vl vu vs) pl pu ps ?_ (by rw [List.size_toArray]; omega)
  refine ⟨.ref _, _, I5.laid (t' := s4.toks) (o := .tup xs.reverse) (fun b ob q => Heap.get?_push_of_some _ q) (Nat.le_refl _) ?_, rfl, q _ (I5.hok.fresh (Nat.le_refl _))⟩
  exact ⟨by rw [List.length_reverse]; exact hz, _, r.reverse, IsTup.new _ _⟩
def gRevT (a : D) : Option D := match a with
  | .tup xs => some (.tup xs.reverse)
  | _ => none
def dCutT (f : DFn) (lo hi : List D → Option (Option Int)) : DFn := fun ρ => (f ρ).bind fun a => (lo ρ).bind fun l => (hi ρ).bind fun u => match a with
  | .tup ds => some (.tup (cutD ds l u))
  | _ => none
def gTupOf (a : D) : Option D := (seqOf a).map .tup
section
variable {X : Cx} {ca : Cl → Addr} {Γ : List Md} {pos p : Pos} {a b : Expr} {ma mb : Vm} {fa fb : DFn}
theorem new_tup {c : Ct} {B S0 H : Hp} {M : Mz} {L : List (List Addr)} {σ : L2.St} {ρ : List D} (E : EnvR c B S0 M Γ L σ H ρ) {p : Addr} {xs : List V} {ds : List D} (hp : H p = none) (r : Reps c (hide (Msk M L) H) xs ds) :
    Rep c (hide (Msk M L) (upd H p (.tup xs))) (.ref p) (.tup ds) := by
  refine .tup (hide_in (fun z => ?_) upd_same) (reps_upd hp r)
  rcases z with z | z
  · exact E.noM hp z
  · exact E.noL hp z
theorem pd_revT {k : Nat} {p1 p2 p3 : Pos} (ha : PDE X ca Γ a .s fa) : PDE X ca Γ (.Subscript a (.Slice none none (some (.UnaryOp .USub (.Constant (.int 1) k p1) p2)) p3) pos) .s (d1 gRevT fa) := by
  obtain ⟨t, pa, qa⟩ := ha
  refine ⟨_, pe_revT pa, fun B S0 M L σ H ρ E d hd Q k => ?_⟩
  obtain ⟨x, e1, hd⟩ := bind_some hd
  cases x with
  | tup xs =>
    cases hd
    refine qa B S0 M L σ H ρ E _ e1 _ fun v H1 x1 r1 => ?_
    obtain ⟨p, vs, e3, h1, s1⟩ := Rep.tup_inv r1
    exact ⟨p, vs, e3, SqT.of (hide_of h1).2, fun p' hp => k _ _ (x1.trans (Ex.new hp)) (new_tup (E.ext x1) hp s1.reverse)⟩
  | _ => cases hd
theorem pd_cutT {lo hi : Option Expr} {fl fu : List D → Option (Option Int)} {p2 : Pos} (ha : PDE X ca Γ a .s fa) (hl : PDO X ca Γ lo fl) (hu : PDO X ca Γ hi fu) : PDE X ca Γ (.Subscript a (.Slice lo hi none p2) pos) .s (dCutT fa fl fu) := by
  obtain ⟨t, p, q⟩ := ha
  obtain ⟨tl, pl, ql⟩ := hl
  obtain ⟨tu, pu, qu⟩ := hu
  refine ⟨_, pe_slice sl_tupA p pl pu, fun B S0 M L σ H ρ E d hd Q k => ?_⟩
  obtain ⟨a, e1, hd⟩ := bind_some hd
  obtain ⟨l, e2, hd⟩ := bind_some hd
  obtain ⟨u, e3, hd⟩ := bind_some hd
  refine q B S0 M L σ H ρ E a e1 _ fun x H1 x1 r1 => ?_
  refine ql B S0 M L σ H1 ρ (E.ext x1) l e2 _ fun H2 x2 => ?_
  refine qu B S0 M L σ H2 ρ ((E.ext x1).ext x2) u e3 _ fun H3 x3 => ?_
  have E3 := ((E.ext x1).ext x2).ext x3
  have ex : Ex H H3 := (x1.trans x2).trans x3
  cases a with
  | tup ds =>
    cases hd
    have r3 : Rep ⟨X.K, ca⟩ (hide (Msk M L) H3) x (.tup ds) := VR.mono (m := .s) (B := B) (M := M) (L := L) x3 (VR.mono (m := .s) (B := B) (M := M) (L := L) x2 r1)
    obtain ⟨pp, vs, e4, h1, s1⟩ := r3.tup_inv
    refine ⟨pp, vs, e4, SqT.of (hide_of h1).2, fun hw => ?_, fun _ p' hp => ?_⟩
    · have ec : cutD ds l u = ds := by
        unfold cutD
        rw [← s1.length, hw.1, hw.2, Nat.sub_zero, List.drop_zero, s1.length, List.take_length]
      rw [ec] at k
      exact k (.ref pp) H3 ex (e4 ▸ r3)
    · exact k _ _ (ex.trans (Ex.new hp)) (new_tup E3 hp (cut_reps s1 l u))
  | _ => cases hd
/-- tuple(x) -/
theorem pd_tupOf (ha : PDE X ca Γ a ma fa) (hm : X.mg "tuple" = none) (hma : ma = .s ∨ ma = .f := by first | exact .inl rfl | exact .inr rfl) (hg : Gl X "tuple" := by rfl)
    (he : starEach (a :: []) X.env = (false, eval a X.env) :: starEach [] X.env := by rfl) (hpl : (backTo pos (starEach [] X.env)).any (·.1) = false := by rfl) : PDE X ca Γ (.Call (.Name "tuple" p) (a :: []) [] pos) .s (d1 gTupOf fa) := by
  obtain ⟨t, pa, qa⟩ := ha
  refine ⟨_, pe_callTy call_tuple_of hg hm (by decide +kernel) (pa_cons pa pa_nil he) (by decide) (by decide) he hpl, fun B S0 M L σ H ρ E d hd Q k => ?_⟩
  obtain ⟨x, e1, hd⟩ := bind_some hd
  obtain ⟨ds, e2, hd⟩ := Option.map_eq_some_iff.mp hd
  subst hd
  refine qa B S0 M L σ H ρ E _ e1 _ fun v H1 x1 rv => ?_
  have rr : Rep ⟨X.K, ca⟩ (hide (Msk M L) H1) v x ∨ ∃ p, v = .ref p ∧ Own ⟨X.K, ca⟩ (hide (Msk M L) H1) H1 [p] v x := by
    rcases hma with rfl | rfl
    · exact .inl rv
    · obtain ⟨p, e, ho, _⟩ := rv
      exact .inr ⟨p, e, ho⟩
  have fin : ∀ pp xs, v = .ref pp → SqL X.K H1 pp xs → Reps ⟨X.K, ca⟩ (hide (Msk M L) H1) xs ds → ∃ p ys, [v] = [.ref p] ∧ ((SqL X.K H1 p ys ∧ ∀ l, H1 l = none → Q (.ref l) (upd H1 l (.tup ys))) ∨ (SqT X.K H1 p ys ∧ Q (.ref p) H1)) := fun pp xs ev hq rs =>
    ⟨pp, xs, by rw [ev], .inl ⟨hq, fun l hl => k _ _ (x1.trans (Ex.new hl)) (new_tup (E.ext x1) hl rs)⟩⟩
  cases x with
  | lst ds' =>
    obtain ⟨pp, xs, ev, hq, rs⟩ := seq_rep hide_ex rr e2
    rcases hq with hq | hq
    · exact fin pp xs ev hq rs
    · rcases rr with rr | ⟨p, e, ho⟩
      · cases rr with
        | lst h r =>
          cases ev
          cases e2
          exact fin _ _ rfl (SqL.of (hide_of h).2) r
      · obtain ⟨xs', g1, g2⟩ := (e ▸ ho : Own _ _ _ _ (.ref p) _).flat_lst
        cases e2
        exact fin p xs' e (SqL.of g1) g2
  | tup ds' =>
    rcases rr with rr | ⟨p, e, ho⟩
    · cases e2
      have rr' : Rep ⟨X.K, ca⟩ (hide (Msk M L) H1) v (.tup ds) := rr
      obtain ⟨pp, vs, e4, h1, s1⟩ := rr'.tup_inv
      exact ⟨pp, vs, by rw [e4], .inr ⟨SqT.of (hide_of h1).2, k _ H1 x1 (e4 ▸ rr')⟩⟩
    · cases ho
  | scr ns =>
    rcases rr with rr | ⟨p, e, ho⟩
    · cases e2
      cases rr with
      | scr h => exact fin _ _ rfl (Ex.sq (K := X.K) hide_ex h) (Reps.of_ints ns)
    · cases ho
  | _ => cases e2
end
/-! ### is, of truths -/
def gIsB (a b : D) : Option D := match a, b with
  | .bl x, .bl y => some (.bl (decide (x = y)))
  | _, _ => none
def gIsnotB (a b : D) : Option D := match a, b with
  | .bl x, .bl y => some (.bl (!decide (x = y)))
  | _, _ => none
section
variable {X : Cx} {ca : Cl → Addr}
theorem op_isB : OpR X (compareOp .Is) (fun x y H Q => ∃ a b, x = .bl a ∧ y = .bl b ∧ Q (.bl (decide (a = b))) H) := by
  intro pins s σ H x y v u Q I rx ry h
  obtain ⟨a, b, rfl, rfl, q⟩ := h
  cases rx
  cases ry
  exact PyProof.Rows.is_bool (fin_bl I q (by cases a <;> cases b <;> rfl))
theorem op_isnotB : OpR X (compareOp .IsNot) (fun x y H Q => ∃ a b, x = .bl a ∧ y = .bl b ∧ Q (.bl (!decide (a = b))) H) := by
  intro pins s σ H x y v u Q I rx ry h
  obtain ⟨a, b, rfl, rfl, q⟩ := h
  cases rx
  cases ry
  exact PyProof.Rows.isnot_bool (fin_bl I q (by cases a <;> cases b <;> rfl))
theorem bl_inv {c : Ct} {H : Hp} {v : V} {b : Bool} (h : Rep c H v (.bl b)) : v = .bl b := by
  cases h
  rfl
theorem og_isB : OG X ca .Is gIsB := ⟨_, op_isB, fun H x y a b d rx ry e => by
  unfold gIsB at e
  split at e
  · cases e
    exact ⟨_, .bl _, fun Q q => ⟨_, _, bl_inv rx, bl_inv ry, q⟩⟩
  · cases e⟩
theorem og_isnotB : OG X ca .IsNot gIsnotB := ⟨_, op_isnotB, fun H x y a b d rx ry e => by
  unfold gIsnotB at e
  split at e
  · cases e
    exact ⟨_, .bl _, fun Q q => ⟨_, _, bl_inv rx, bl_inv ry, q⟩⟩
  · cases e⟩
end
/-! ### max of a tuple of ints -/
def gMaxT : List D → Option D
  | [.tup ds] => (asInts ds).bind fun ns => match ns with
    | [] => none
    | n :: ns => some (.int (maxI n ns))
  | _ => none
section
variable {X : Cx} {ca : Cl → Addr}
theorem cr_maxT {k : Nat} (hr : Room k X.A) (hc : X.calm = true := by rfl) : CallR X (.builtin "max") (fun vs H Q => ∃ (a : Addr) (n : Int) (ns : List Int), vs = [.ref a] ∧ SqT X.K H a ((n :: ns).map V.int) ∧ Q (.int (maxI n ns)) H) := by
  intro pins s σ H xs us Q I r h
  obtain ⟨a, n, ns, rfl, hq, q⟩ := h
  rw [Vals.ref1 r]
  obtain ⟨its, rv, hl, hz⟩ := I.tuple hq
  have hI : IntsAre its (n :: ns) := Vals.ints rv
  refine PySem.W.max_tuple_datum (α := Int) (x := n) (xs := ns) (I.ok.hd hc) (show s.heap.IsTuple a its.toArray from hl) ⟨[], PySem.W.readsAll_of_ints (by simpa using hI)⟩ (by have := hr.units; show X.A.units + 1 + 0 < cLine; omega) fun i v h' tk hi hv kp => ?_
  obtain ⟨t, rfl⟩ := holds_int hv
  rw [maxOf_int]
  exact ⟨.int (maxI n ns), H, I.kept (t' := tk) kp, ⟨t, rfl⟩, q⟩
theorem cg_maxT {k : Nat} (hr : Room k X.A) (hc : X.calm = true := by rfl) : CG X ca (.builtin "max") gMaxT := ⟨_, cr_maxT hr hc, fun H xs ds d r h => by
  match ds, h with
  | [.tup es], h =>
    obtain ⟨ns, e1, e2⟩ := bind_some (show (asInts es).bind (fun ns => match ns with | [] => none | n :: ns => some (D.int (maxI n ns))) = some d from h)
    obtain ⟨x, rfl, rx⟩ := reps1 r
    obtain ⟨p, vs, e3, h1, s1⟩ := rx.tup_inv
    rw [asInts_some e1] at s1
    have s2 := s1.ints
    cases ns with
    | nil => cases e2
    | cons n ns =>
      cases e2
      exact ⟨_, .int _, fun Q q => ⟨p, n, ns, by rw [e3], by rw [← s2]; exact SqT.of h1, q⟩⟩⟩
end
end DL

/-! DL: calls that raise; try. -/
namespace DL
open PySem PySem.Spec PyProof.Rows L2
/-! ### what the text says of its classes of errors -/
/-- under one and the same root -/
def subX (e h : Cl) : Bool := decide (e = h) || decide (h = .SwapError)
structure XOk (K : PySem.W.Frag) (ca : Cl → Addr) (fI : Addr) (ks : List Cl) : Prop where
  rai : ∀ k ∈ ks, ExcOk K ca fI k
  exc : ∀ k ∈ ks, ExcC K (ca k)
  exm : ∀ k ∈ ks, ∀ h ∈ ks, PySem.W.exmOne K (.ref (ca k)) (.ref (ca h)) = some (subX k h)
  kit : ∀ k ∈ ks, ∀ h ∈ ks, PySem.W.kitOne K (.ref (ca k)) (.ref (ca h)) = some (subX k h)
  kitV : ∀ k ∈ ks, PySem.W.kitOne K (.ref (ca k)) (.type "ValueError") = some true
def oexB (K : PySem.W.Frag) (C : Addr) : Bool := (match K.lookup C with
  | some ⟨.type ty, _, .cls cd, sl⟩ => decide (ty = "type") && (match cd.mro, sl.toList with
    | .ref C' :: bm, [_, _, _, _, some (.builtin n), _] => decide (C' = C) && (decide (n = "ValueError.__new__") && (PySem.HandSPX.refsVE bm && (cd.hasDict && !cd.hasDel)))
    | _, _ => false)
  | _ => false) && (decide (PySem.W.findIn K (.ref C) "__setattr__" = some (some (.builtin "object.__setattr__"))) && (decide (PySem.W.subIn K (.ref C) (.type "BaseException") = some true) && (decide (PySem.W.typeIn K (.ref C) = some (.type "type")) && PySem.W.keepIn K (.ref C))))
theorem both {a b : Bool} (h : (a && b) = true) : a = true ∧ b = true := Bool.and_eq_true_iff.mp h
theorem oexB_ok {K : PySem.W.Frag} {C : Addr} (h : oexB K C = true) : OexC K C := by
  obtain ⟨h1, h⟩ := both h
  obtain ⟨h2, h⟩ := both h
  obtain ⟨h3, h⟩ := both h
  obtain ⟨h4, h5⟩ := both h
  refine ⟨?_, of_decide_eq_true h2, of_decide_eq_true h3, of_decide_eq_true h4, h5⟩
  split at h1
  · rename_i ty dd cd sl ho
    obtain ⟨g1, g⟩ := both h1
    have et : ty = "type" := of_decide_eq_true g1
    split at g
    · rename_i C' bm k0 k1 k2 k3 n k5 hm hs
      obtain ⟨g2, g⟩ := both g
      obtain ⟨g3, g⟩ := both g
      obtain ⟨g4, g⟩ := both g
      obtain ⟨g5, g6⟩ := both g
      have eC : C' = C := of_decide_eq_true g2
      have en : n = "ValueError.__new__" := of_decide_eq_true g3
      obtain ⟨nm, bs, mro, ns, qn, hd, sn, sub, ab, col, del⟩ := cd
      obtain ⟨l⟩ := sl
      have hm' : mro = .ref C' :: bm := hm
      have hs' : l = [k0, k1, k2, k3, some (.builtin n), k5] := hs
      have g5' : hd = true := g5
      have g6' : del = false := by simpa using g6
      rw [et, hm', hs', g5', g6', eC, en] at ho
      exact ⟨nm, qn, ns, bs, bm, sn, sub, ab, col, dd, k0, k1, k2, k3, k5, ho, g4⟩
    · exact nomatch g
  · exact nomatch h1
def excB (K : PySem.W.Frag) (C : Addr) : Bool := decide (PySem.W.findIn K (.ref C) "__getattribute__" = some (some (.builtin "BaseException.__getattribute__"))) && (decide (PySem.W.findIn K (.ref C) "__getattr__" = some none) && (decide (PySem.W.subIn K (.ref C) (.type "BaseException") = some true) &&
  (PySem.W.hasDictIn K C && (decide (PySem.W.findIn K (.ref C) "__class__" = some (some (.builtin "object.__class__"))) && (decide (PySem.W.specialIn K (.builtin "object.__class__") "__get__" = some (some (.builtin "getset_descriptor.__get__"))) && (decide (PySem.W.takesIn K (.builtin "object.__class__") = some true) && decide (PySem.W.mroIn K C (.type "object") = some true)))))))
theorem excB_ok {K : PySem.W.Frag} {C : Addr} (h : excB K C = true) : ExcC K C := by
  obtain ⟨h1, h⟩ := both h
  obtain ⟨h2, h⟩ := both h
  obtain ⟨h3, h⟩ := both h
  obtain ⟨h4, h⟩ := both h
  obtain ⟨h5, h⟩ := both h
  obtain ⟨h6, h⟩ := both h
  obtain ⟨h7, h8⟩ := both h
  exact ⟨of_decide_eq_true h1, of_decide_eq_true h2, of_decide_eq_true h3, h4, of_decide_eq_true h5, of_decide_eq_true h6, of_decide_eq_true h7, of_decide_eq_true h8⟩
def xokB (K : PySem.W.Frag) (ca : Cl → Addr) (fI : Addr) (ks : List Cl) : Bool := ks.all fun k => oexB K (ca k) && (decide (PySem.W.findIn K (.ref (ca k)) "at" = some none) && (decide (PySem.W.findIn K (.ref (ca k)) "__init__" = some (some (.ref fI))) && (excB K (ca k) &&
  (decide (PySem.W.kitOne K (.ref (ca k)) (.type "ValueError") = some true) && ks.all fun h => decide (PySem.W.exmOne K (.ref (ca k)) (.ref (ca h)) = some (subX k h)) && decide (PySem.W.kitOne K (.ref (ca k)) (.ref (ca h)) = some (subX k h))))))
theorem xokB_ok {K : PySem.W.Frag} {ca : Cl → Addr} {fI : Addr} {ks : List Cl} (h : xokB K ca fI ks = true) : XOk K ca fI ks := by
  have one : ∀ k ∈ ks, ExcOk K ca fI k ∧ ExcC K (ca k) ∧ PySem.W.kitOne K (.ref (ca k)) (.type "ValueError") = some true ∧ ∀ h ∈ ks, PySem.W.exmOne K (.ref (ca k)) (.ref (ca h)) = some (subX k h) ∧ PySem.W.kitOne K (.ref (ca k)) (.ref (ca h)) = some (subX k h) := fun k hk => by
    obtain ⟨h1, h⟩ := both (List.all_eq_true.mp h k hk)
    obtain ⟨h2, h⟩ := both h
    obtain ⟨h3, h⟩ := both h
    obtain ⟨h4, h⟩ := both h
    obtain ⟨h5, h6⟩ := both h
    refine ⟨⟨oexB_ok h1, of_decide_eq_true h2, of_decide_eq_true h3⟩, excB_ok h4, of_decide_eq_true h5, fun h' hh => ?_⟩
    obtain ⟨g1, g2⟩ := both (List.all_eq_true.mp h6 h' hh)
    exact ⟨of_decide_eq_true g1, of_decide_eq_true g2⟩
  exact ⟨fun k hk => (one k hk).1, fun k hk => (one k hk).2.1, fun k hk h hh => ((one k hk).2.2.2 h hh).1, fun k hk h hh => ((one k hk).2.2.2 h hh).2, fun k hk => (one k hk).2.2.1⟩
theorem xf_of {K : PySem.W.Frag} {C : Addr} (h : ExcC K C) : XfC K C := ⟨h.hg, h.hk, h.hs, h.hd⟩

/-! ### calls that may raise -/
section
variable (X : Cx) (ca : Cl → Addr) (W : WX) (Γ : List Md)
def DEX (c : Ct) (t : TE) (m : Vm) (f : List D → Rs) : Prop :=
  ∀ (B S0 : Hp) (M : Mz) (L : List (List Addr)) (σ : L2.St) (H : Hp) (ρ : List D), EnvR c B S0 M Γ L σ H ρ → ∀ Q : VK, (match f ρ with
    | .ok d => ∀ v H', Ex H H' → VR c m B M L H' v d → Q v H'
    | .exc e d => ∀ dx v H', Ex H H' → H' dx = some (.xd [("at", v)]) → H dx = none → Rep c (hide (Msk M L) H') v d → W (.ref (c.ca e)) (some dx) σ H'
    | .bad => False) → t σ H Q
def PDEX (e : Expr) (m : Vm) (f : List D → Rs) : Prop := ∃ t, PE X e t ∧ DEX W Γ ⟨X.K, ca⟩ t m f
end
def dFunX (G : List D → Rs) (fs : List D → Option (List D)) (dfl : List D) : List D → Rs := fun ρ => match fs ρ with
  | some as => G (as ++ dfl)
  | none => .bad
section
variable {X : Cx} {CX : CXT} {k : Nat} {f C : Addr} {fd : FuncData} {ps : List Str} {sp : Sp} {dvs : List V} {ds : List Value} {E : L2.St → XK} {x m : Str} {p pos apos : Pos} {e o : Expr} {es : List Expr} {ta : TE} {t : TA}
theorem run_makeS {pins : List (Addr × Obj)} {σ : L2.St} {H : Hp} {s : Shared} {Q : VK} {us : List Value} {vs : List V} {E : XK} (M : Mk X.K C f) (F : FnOk X.prog X.w X.K X.mg X.base CX k f fd ps sp) (hr : Room (k + 1) X.A) (hb : Binds X.K fd ps ds) (hd : Vals dvs ds)
    (hx : PassesAt CX X σ E) (I : Inv X pins σ H s) (r : Vals vs us)
    (h : ∀ x dx, H x = none → H dx = none → dx ≠ x → sp (.ref x :: (vs ++ dvs)) (upd (upd H dx (.own x)) x (.ins C dx [])) (fun v H2 => v = .non ∧ Q (.ref x) H2) E) :
    wpAny (model X.prog X.w) X.A (call (.ref C) us) (EP X pins σ Q) X.xe s := by
  have top := h (s.heap.objs.size + 1) s.heap.objs.size (I.hok.fresh (Nat.le_succ _)) (I.hok.fresh (Nat.le_refl _)) (Nat.ne_of_lt (Nat.lt_succ_self _))
  have made := Inv.made (C := C) I
  have rel : Vals (V.ref (s.heap.objs.size + 1) :: (vs ++ dvs)) (Value.ref (s.heap.objs.size + 1) :: (us ++ ds)) := .cons rfl (r.append hd)
  have len : (Value.ref (s.heap.objs.size + 1) :: us ++ ds).length = ps.length := (rel.length.symm.trans (F.len _ _ _ _ top))
  have body := F.run _ X.stack _ _ ⟨Value.ref (s.heap.objs.size + 1) :: us, []⟩ (Value.ref (s.heap.objs.size + 1) :: (us ++ ds)) _ _ E (hr.make C us []) (made.env0.make C us []) (hb _ (Value.ref (s.heap.objs.size + 1) :: us) made.kIn len) rel top
  refine wpAny_call (make_map (f := f) I.kIn M.makes M.init (beq_iff_eq.mp M.fn) (codeAny_mono body fun r s' out => ?_))
  match r, out with
  | .error e, out => exact hx pins _ _ e s' made out
  | .ok (.ret u), out =>
    obtain ⟨v, H', J, rv, ev, q⟩ := made.after out
    subst ev
    exact ⟨rv, V.ref (s.heap.objs.size + 1), H', J, rfl, q⟩
  | .ok .next, out => exact out.elim
  | .ok .brk, out => exact out.elim
  | .ok .cont, out => exact out.elim
def tMakeS (C : Addr) (sp : Sp) (dvs : List V) (E : L2.St → XK) (t : TA) : TE := fun σ H Q => t σ H fun vs H1 => ∀ x dx, H1 x = none → H1 dx = none → dx ≠ x →
  sp (.ref x :: (vs ++ dvs)) (upd (upd H1 dx (.own x)) x (.ins C dx [])) (fun v H2 => v = .non ∧ Q (.ref x) H2) (E σ)
theorem pe_makeS (M : Mk X.K C f) (F : FnOk X.prog X.w X.K X.mg X.base CX k f fd ps sp) (hr : Room (k + 1) X.A) (hg : Gl X x) (hm : X.mg x = some (.ref C)) (hb : Binds X.K fd ps ds) (hd : Vals dvs ds) (hx : ∀ σ, PassesAt CX X σ (E σ))
    (ha : PA X (e :: es) t) (hdb : (x == ("__debug__" : Str)) = false := by decide) (he : starEach (e :: es) X.env = (false, eval e X.env) :: starEach es X.env := by rfl) (hpl : (backTo pos (starEach es X.env)).any (·.1) = false := by rfl) :
    PE X (.Call (.Name x p) (e :: es) [] pos) (tMakeS C sp dvs E t) := ⟨fun pins s σ H Q I h =>
  wpAny_Call_Name_kw (ld_glob I hg hm (PySem.W.callWith_K (h₀ := X.base) I.ok.mod.kin M.kp (thn (ha.run pos pins s σ H _ I h) fun us s1 ⟨vs, H1, I1, r, q⟩ => ⟨I1.kIn, run_makeS M F hr hb hd (hx σ) I1 r q⟩) he hpl) hdb)⟩
end
section
variable {X : Cx} {ca : Cl → Addr} {W : WX} {J : Jd} {Γ Γ0 Γ' : List Md} {k : Nat} {f : Addr} {fd : FuncData} {ps : List Str} {G : List D → Rs} {dvs : List V} {ds : List Value} {dfl : List D} {x m : Str} {p pos pos' apos : Pos} {e o : Expr} {es : List Expr} {ms : List Vm} {fs : List D → Option (List D)} {mo : Vm} {fo : DFn} {F : List D → Rs}
theorem pd_callX (tk : L2N.Takes X W) (F : FnOk X.prog X.w X.K X.mg X.base (L2N.CX X.prog X.w) k f fd ps (SpD ⟨X.K, ca⟩ Γ0 false G)) (hr : Room k X.A) (hm : X.mg x = some (.ref f)) (hk : PySem.W.keepIn X.K (.ref f) = true) (hb : Binds X.K fd ps ds) (hd : Vals dvs ds) (hi : Ims dvs dfl)
    (ha : PDA X ca Γ (e :: es) ms fs) (hc : cmps (ms ++ List.replicate dfl.length .s) Γ0 = true := by decide) (hg : Gl X x := by rfl) (hdb : (x == ("__debug__" : Str)) = false := by decide) (he : starEach (e :: es) X.env = (false, eval e X.env) :: starEach es X.env := by rfl) (hpl : (backTo pos (starEach es X.env)).any (·.1) = false := by rfl) :
    PDEX X ca W Γ (.Call (.Name x p) (e :: es) [] pos) .s (dFunX G fs dfl) := by
  obtain ⟨t, pa, q⟩ := ha
  refine ⟨_, pe_callSD F hr hg hm hk hb hd (E := WE W) (L2N.passAt tk) pa hdb he hpl, fun B S0 M L σ H ρ E Q kk => ?_⟩
  unfold dFunX at kk
  cases e1 : fs ρ with
  | none => rw [e1] at kk; exact kk.elim
  | some as =>
    rw [e1] at kk
    refine q B S0 M L σ H ρ E as e1 _ fun vs H1 x1 r => ?_
    refine ⟨H1, _, ⟨Msk M L, M.z⟩, _, _, VRs.env (E.ext x1) hc (r.app hi.vrs), ?_⟩
    have kk' : (match G (as ++ dfl) with
      | .ok d => ∀ v H', Ex H H' → VR ⟨X.K, ca⟩ .s B M L H' v d → Q v H'
      | .exc e d => ∀ dx v H', Ex H H' → H' dx = some (.xd [("at", v)]) → H dx = none → Rep ⟨X.K, ca⟩ (hide (Msk M L) H') v d → W (.ref (ca e)) (some dx) σ H'
      | .bad => False) := kk
    cases h : G (as ++ dfl) with
    | ok d =>
      rw [h] at kk'
      exact fun v H' x2 res => kk' v H' (x1.trans x2) (res_back res)
    | exc e d =>
      rw [h] at kk'
      exact fun dx v H' x2 h1 h2 h3 => kk' dx v H' (x1.trans x2) h1 (x1.free h2) h3
    | bad => rw [h] at kk'; exact kk'.elim
/-- C(e, ..), where it may be refused -/
theorem pd_makeX (cl : Cl) (tk : L2N.Takes X W) (Mk0 : Mk X.K (ca cl) f) (F : FnOk X.prog X.w X.K X.mg X.base (L2N.CX X.prog X.w) k f fd ps (SpI ⟨X.K, ca⟩ cl Γ0 G)) (hr : Room (k + 1) X.A) (hm : X.mg x = some (.ref (ca cl))) (hb : Binds X.K fd ps ds) (hd : Vals dvs ds) (hi : Ims dvs dfl)
    (ha : PDA X ca Γ (e :: es) ms fs) (hc : cmps (ms ++ List.replicate dfl.length .s) Γ0 = true := by decide) (hg : Gl X x := by rfl) (hdb : (x == ("__debug__" : Str)) = false := by decide) (he : starEach (e :: es) X.env = (false, eval e X.env) :: starEach es X.env := by rfl) (hpl : (backTo pos (starEach es X.env)).any (·.1) = false := by rfl) :
    PDEX X ca W Γ (.Call (.Name x p) (e :: es) [] pos) .s (dFunX G fs dfl) := by
  obtain ⟨t, pa, q⟩ := ha
  refine ⟨_, pe_makeS Mk0 F hr hg hm hb hd (E := WE W) (L2N.passAt tk) pa hdb he hpl, fun B S0 M L σ H ρ E Q kk => ?_⟩
  unfold dFunX at kk
  cases e1 : fs ρ with
  | none => rw [e1] at kk; exact kk.elim
  | some as =>
    rw [e1] at kk
    refine q B S0 M L σ H ρ E as e1 _ fun vs H1 x1 r => fun a dx ha hdx hne => ?_
    have E1 := E.ext x1
    have kk' : (match G (as ++ dfl) with
      | .ok d => ∀ v H', Ex H H' → VR ⟨X.K, ca⟩ .s B M L H' v d → Q v H'
      | .exc e d => ∀ dx v H', Ex H H' → H' dx = some (.xd [("at", v)]) → H dx = none → Rep ⟨X.K, ca⟩ (hide (Msk M L) H') v d → W (.ref (ca e)) (some dx) σ H'
      | .bad => False) := kk
    refine ⟨a, _, _, _, ⟨Msk M L, a⟩, _, _, rfl, rfl, make_env (k := cl) E1 ha hdx hne rfl hc (r.app hi.vrs), ?_⟩
    cases h : G (as ++ dfl) with
    | ok d' =>
      rw [h] at kk'
      exact fun H' x2 ho => ⟨rfl, kk' _ H' ((x1.trans (Ex.new hdx)).trans x2) (own_rep E1 ha ho)⟩
    | exc e d' =>
      rw [h] at kk'
      refine fun dx' v H' x2 h1 h2 h3 => kk' dx' v H' ((x1.trans (Ex.new hdx)).trans x2) h1 ?_ h3
      exact (x1.trans (Ex.new hdx)).free h2
    | bad => rw [h] at kk'; exact kk'.elim
/-- what is raised goes on -/
theorem exc_post {c : Ct} {B S0 H : Hp} {M : Mz} {L : List (List Addr)} {σ : L2.St} {ρ : List D} {N : Ends} (hx : ∀ Γx, J.Γx = some Γx → wks Γ Γx = true) (E : EnvR c B S0 M Γ L σ H ρ) {ec : Cl} {d : D} {dx : Addr} {v : V} (pp : Post c B S0 M J W Γ' N (.exc ec d ρ))
    (h1 : H dx = some (.xd [("at", v)])) (h2 : B dx = none) (h3 : Rep c (hide (Msk M L) H) v d) : W (.ref (c.ca ec)) (some dx) σ H := by
  cases hΓ : J.Γx with
  | none => exact pp dx v L σ H E.eb h1 h2 h3 fun Γx h => by rw [hΓ] at h; cases h
  | some Γx =>
    obtain ⟨L', sub, E3⟩ := E.weak (hx Γx hΓ)
    exact pp dx v L' σ H E3.eb h1 h2 (h3.mono (hide_le fun a o h q => ⟨fun z => h (by
      rcases z with z | z
      · exact .inl z
      · exact .inr (sub a z)), q⟩)) fun Γy h => by
        rw [hΓ] at h
        cases h
        exact E3
def dDropX (f : List D → Rs) : SFn := fun ρ => match f ρ with
  | .ok _ => .nx ρ
  | .exc e d => .exc e d ρ
  | .bad => .bad
def dAsgX (i : Nat) (f : List D → Rs) : SFn := fun ρ => match f ρ with
  | .ok d => .nx (ρ.set i d)
  | .exc e d => .exc e d ρ
  | .bad => .bad
theorem pds_exprX (he : PDEX X ca W Γ e mo F) (hx : ∀ Γx, J.Γx = some Γx → wks Γ Γx = true := by intro _ h; first | (cases h; done) | (cases h; first | decide | rfl)) (hs : swapsWith e none pos.line X.env = pure false := by rfl) : PDS X ca W J Γ (.Expr e pos) Γ (dDropX F) := by
  obtain ⟨t, p, q⟩ := he
  refine ⟨_, ps_expr p hs, fun B S0 M L σ H ρ N E pp => ?_⟩
  refine q B S0 M L σ H ρ E _ ?_
  unfold dDropX at pp
  cases h : F ρ with
  | ok d =>
    rw [h] at pp
    exact fun v H1 x1 _ => pp L σ H1 (E.ext x1)
  | exc e d =>
    rw [h] at pp
    exact fun dx v H1 x1 h1 h2 h3 => exc_post hx (E.ext x1) pp h1 (E.eb.free h2) h3
  | bad => rw [h] at pp; exact pp.elim
theorem pds_setX (i : Nat) (he : PDEX X ca W Γ e .s F) (hN : X.N.Nodup) (hx : ∀ Γx, J.Γx = some Γx → wks Γ Γx = true := by intro _ h; first | (cases h; done) | (cases h; first | decide | rfl)) (hi : X.N[i]? = some x := by rfl) (hl : Loc X.env.scope x := by first | exact Or.inl rfl | exact Or.inr rfl) (hs : swapsWith e (some (.Name x pos')) pos.line X.env = pure false := by rfl) (hf : X.fn x = true ∨ X.env.scope.names.lookup x = some .local := by first | exact .inl rfl | exact .inr rfl) :
    PDS X ca W J Γ (.Assign [.Name x pos'] e pos) (Γ.set i .s) (dAsgX i F) := by
  obtain ⟨t, p, q⟩ := he
  refine ⟨_, ps_set hN hi hl p hs hf, fun B S0 M L σ H ρ N E pp => ?_⟩
  refine q B S0 M L σ H ρ E _ ?_
  unfold dAsgX at pp
  cases h : F ρ with
  | ok d =>
    rw [h] at pp
    exact fun v H1 x1 r => pp _ _ _ (set_s E x1 i r)
  | exc e d =>
    rw [h] at pp
    exact fun dx v H1 x1 h1 h2 h3 => exc_post hx (E.ext x1) pp h1 (E.eb.free h2) h3
  | bad => rw [h] at pp; exact pp.elim
end

/-! ### try -/
/-- one reading for all bodies -/
def rdS (c : Ct) (W : WX) (J : Jd) (Γ Γ' : List Md) (F : SFn) : TS := fun N σ H => ∃ (B S0 : Hp) (M : Mz) (L : List (List Addr)) (ρ : List D), EnvR c B S0 M Γ L σ H ρ ∧ Post c B S0 M J W Γ' N (F ρ)
theorem PDSs.rd {X : Cx} {ca : Cl → Addr} {W : WX} {J : Jd} {Γ Γ' : List Md} {st : List Stmt} {F : SFn} (h : PDSs X ca W J Γ st Γ' F) : PSs X st (rdS ⟨X.K, ca⟩ W J Γ Γ' F) := by
  obtain ⟨t, p, q⟩ := h
  exact ⟨fun pins s σ H N I ⟨B, S0, M, L, ρ, E, pp⟩ => p.run pins s σ H N I (q B S0 M L σ H ρ N E pp)⟩
def dTryAs (ks : List Cl) (h : Cl) (i : Nat) (Fb Fs : SFn) : SFn := fun ρ => match Fb ρ with
  | .exc e d ρx => if e ∈ ks then (if subX e h = true then (match Fs (ρx.set i (.obj e [d])) with
      | .nx ρ' => .nx (ρ'.set i .non)
      | .ret d => .ret d
      | _ => .bad) else .exc e d ρx) else .bad
  | o => o
def dTryOn (ks : List Cl) (h : Cl) (Fb Fs : SFn) : SFn := fun ρ => match Fb ρ with
  | .exc e d ρx => if e ∈ ks then (if subX e h = true then (match Fs ρx with
      | .exc _ _ _ => .bad
      | o => o) else .exc e d ρx) else .bad
  | o => o
theorem xd_free {c : Ct} {B S0 H : Hp} {M : Mz} {Γ : List Md} {L : List (List Addr)} {σ : L2.St} {ρ : List D} (E : EnvR c B S0 M Γ L σ H ρ) {dx : Addr} {fs : List (Str × V)} (h : H dx = some (.xd fs)) : hide (Msk M L) H dx = some (.xd fs) := hide_in (fun z => by
  rcases z with z | z
  · have q := (E.hm dx z).1
    rw [h] at q
    exact q
  · have q := (E.hl dx z).1
    rw [h] at q
    exact q) h
section
variable {X : Cx} {ca : Cl → Addr} {W : WX} {J : Jd} {Γ Γx Γs Γ' : List Md} {x n : Str} {body suite : List Stmt} {b₀ : Stmt} {np pos pos' : Pos} {Fb Fs : SFn}
theorem pds_tryAs (i : Nat) (h : Cl) (ks : List Cl) (tk : L2N.Takes X W) (hN : X.N.Nodup) (hmg : X.mg x = some (.ref (ca h))) (hk : ∀ k ∈ ks, PySem.W.exmOne X.K (.ref (ca k)) (.ref (ca h)) = some (subX k h))
    (hb : ∀ (W' : WX) (pn : List (Addr × Obj)) (xe : Value → Shared → Prop), L2N.Takes (X.tr pn xe) W' → PassesOwn (model X.prog X.w) X.A X.env xe → PDSs (X.tr pn xe) ca W' ⟨J.rf, J.Γb, J.Γc, some Γx, J.Γr, J.rh⟩ Γ body Γ' Fb)
    (hsu : ∀ (a : Addr) (oe : Obj) (dx : Addr) (k : Cl) (pn : List (Addr × Obj)), k ∈ ks → L2N.Zn (.ref (ca k)) (some dx) oe → (∃ vs, oe.data = .fields vs) → PDSs (X.suite a ((a, oe) :: pn)) ca (fun _ _ _ _ => False) ⟨J.rf, [], [], none, J.Γr, J.rh⟩ (Γx.set i (.e a dx k)) (b₀ :: suite) Γs Fs)
    (hΓ : Γs.set i .n = Γ' := by rfl) (hx : ∀ Γy, J.Γx = some Γy → wks Γx Γy = true := by intro _ h; first | (cases h; done) | (cases h; first | decide | rfl)) (hs : X.stack = X.env :: X.outer := by rfl) (hf : X.env.frame = some X.env.locals := by rfl) (hi : X.N[i]? = some n := by rfl) (hln : X.env.kindOf n = some .local := by rfl)
    (hg : Gl X x := by rfl) (hdb : (x == ("__debug__" : Str)) = false := by decide) :
    PDS X ca W J Γ (.Try body [.ExceptHandler (some (.Name x np)) (some n) (b₀ :: suite) pos'] [] [] pos) Γ' (dTryAs ks h i Fb Fs) := by
  subst hΓ
  refine ⟨_, L2N.ps_try_as (tb := fun W' => rdS ⟨X.K, ca⟩ W' ⟨J.rf, J.Γb, J.Γc, some Γx, J.Γr, J.rh⟩ Γ (Γs.set i .n) Fb) (ts := fun a cls d N σ H => ∃ (k : Cl) (dx : Addr), k ∈ ks ∧ cls = .ref (ca k) ∧ d = some dx ∧ rdS ⟨X.K, ca⟩ (fun _ _ _ _ => False) ⟨J.rf, [], [], none, J.Γr, J.rh⟩ (Γx.set i (.e a dx k)) Γs Fs N σ H)
    hs hf hN hi hln ⟨hg, hdb, .inl hmg⟩ tk (fun W' pn xe tk' po => (hb W' pn xe tk' po).rd) (fun a oe cls d pn hz hfl => ⟨fun pins s σ H N I ⟨k, dx, hk', ec, ed, r⟩ => by
      subst ec ed
      exact (hsu a oe dx k pn hk' hz hfl).rd.run pins s σ H N I r⟩), fun B S0 M L σ H ρ N E pp => ?_⟩
  refine ⟨B, S0, M, L, ρ, E, ?_⟩
  unfold dTryAs at pp
  cases hF : Fb ρ with
  | nx ρ' => rw [hF] at pp; exact pp
  | ret d => rw [hF] at pp; exact pp
  | reto d ρ' => rw [hF] at pp; exact pp
  | rett d => rw [hF] at pp; exact pp
  | brk ρ' => rw [hF] at pp; exact pp
  | cont ρ' => rw [hF] at pp; exact pp
  | bad => rw [hF] at pp; exact pp.elim
  | exc e d ρx =>
    rw [hF] at pp
    have pp' : Post ⟨X.K, ca⟩ B S0 M J W (Γs.set i .n) N (if e ∈ ks then (if subX e h = true then (match Fs (ρx.set i (.obj e [d])) with
      | .nx ρ' => .nx (ρ'.set i .non)
      | .ret d => .ret d
      | _ => .bad) else .exc e d ρx) else .bad) := pp
    by_cases he : e ∈ ks
    · rw [if_pos he] at pp'
      intro dx v L1 σ1 H1 eB h1 h2 h3 hE
      have E1 := hE Γx rfl
      refine ⟨subX e h, hk e he, fun hb1 a ha => ?_, fun hb0 => ?_⟩
      · rw [if_pos hb1] at pp'
        have E2 : EnvR ⟨X.K, ca⟩ B S0 M (Γx.set i (.e a dx e)) (L1.set i []) (σ1.set i (some (.ref a))) H1 (ρx.set i (.obj e [d])) :=
          E1.put0 (Ex.refl _) i ⟨rfl, rfl, v, d, rfl, hide_set0 _ _ (xd_free E1 h1), h3.mono hide_set0⟩
        refine ⟨e, dx, he, rfl, rfl, B, S0, M, _, _, E2, ?_⟩
        cases hS : Fs (ρx.set i (.obj e [d])) with
        | nx ρ' =>
          rw [hS] at pp'
          intro L3 σ3 H3 E3
          exact pp' _ _ _ (E3.put0 (Ex.refl _) i (m' := .n) (x' := none) (d' := .non) rfl)
        | ret d' => rw [hS] at pp'; exact pp'
        | reto d' ρ' => rw [hS] at pp'; exact pp'.elim
        | rett d' => rw [hS] at pp'; exact pp'.elim
        | brk ρ' => rw [hS] at pp'; exact pp'.elim
        | cont ρ' => rw [hS] at pp'; exact pp'.elim
        | exc e' d' ρ' => rw [hS] at pp'; exact pp'.elim
        | bad => rw [hS] at pp'; exact pp'.elim
      · rw [if_neg (by rw [hb0]; decide)] at pp'
        exact exc_post hx E1 pp' h1 h2 h3
    · rw [if_neg he] at pp'
      exact pp'.elim
theorem pds_tryOn (h : Cl) (ks : List Cl) (tk : L2N.Takes X W) (hmg : X.mg x = some (.ref (ca h))) (hk : ∀ k ∈ ks, PySem.W.exmOne X.K (.ref (ca k)) (.ref (ca h)) = some (subX k h))
    (hb : ∀ (W' : WX) (pn : List (Addr × Obj)) (xe : Value → Shared → Prop), L2N.Takes (X.tr pn xe) W' → PassesOwn (model X.prog X.w) X.A X.env xe → PDSs (X.tr pn xe) ca W' ⟨J.rf, J.Γb, J.Γc, some Γx, J.Γr, J.rh⟩ Γ body Γ' Fb)
    (hsu : ∀ (a : Addr) (oe : Obj) (pn : List (Addr × Obj)), PDSs (X.suite a ((a, oe) :: pn)) ca (fun _ _ _ _ => False) ⟨J.rf, J.Γb, J.Γc, none, J.Γr, J.rh⟩ Γx (b₀ :: suite) Γ' Fs)
    (hx : ∀ Γy, J.Γx = some Γy → wks Γx Γy = true := by intro _ h; first | (cases h; done) | (cases h; first | decide | rfl)) (hs : X.stack = X.env :: X.outer := by rfl) (hf : X.env.frame = some X.env.locals := by rfl)
    (hg : Gl X x := by rfl) (hdb : (x == ("__debug__" : Str)) = false := by decide) :
    PDS X ca W J Γ (.Try body [.ExceptHandler (some (.Name x np)) none (b₀ :: suite) pos'] [] [] pos) Γ' (dTryOn ks h Fb Fs) := by
  refine ⟨_, ps_onlyN (tb := fun W' => rdS ⟨X.K, ca⟩ W' ⟨J.rf, J.Γb, J.Γc, some Γx, J.Γr, J.rh⟩ Γ Γ' Fb) (ts := fun a cls d N σ H => rdS ⟨X.K, ca⟩ (fun _ _ _ _ => False) ⟨J.rf, J.Γb, J.Γc, none, J.Γr, J.rh⟩ Γx Γ' Fs N σ H)
    hs hf ⟨hg, hdb, .inl hmg⟩ tk (fun W' pn xe tk' po => (hb W' pn xe tk' po).rd) (fun a oe cls d pn hz hfl => (hsu a oe pn).rd), fun B S0 M L σ H ρ N E pp => ?_⟩
  refine ⟨B, S0, M, L, ρ, E, ?_⟩
  unfold dTryOn at pp
  cases hF : Fb ρ with
  | nx ρ' => rw [hF] at pp; exact pp
  | ret d => rw [hF] at pp; exact pp
  | reto d ρ' => rw [hF] at pp; exact pp
  | rett d => rw [hF] at pp; exact pp
  | brk ρ' => rw [hF] at pp; exact pp
  | cont ρ' => rw [hF] at pp; exact pp
  | bad => rw [hF] at pp; exact pp.elim
  | exc e d ρx =>
    rw [hF] at pp
    have pp' : Post ⟨X.K, ca⟩ B S0 M J W Γ' N (if e ∈ ks then (if subX e h = true then (match Fs ρx with
      | .exc _ _ _ => .bad
      | o => o) else .exc e d ρx) else .bad) := pp
    by_cases he : e ∈ ks
    · rw [if_pos he] at pp'
      intro dx v L1 σ1 H1 eB h1 h2 h3 hE
      have E1 := hE Γx rfl
      refine ⟨subX e h, hk e he, fun hb1 a ha => ?_, fun hb0 => ?_⟩
      · rw [if_pos hb1] at pp'
        refine ⟨B, S0, M, _, _, E1, ?_⟩
        cases hS : Fs ρx with
        | nx ρ' => rw [hS] at pp'; exact pp'
        | ret d' => rw [hS] at pp'; exact pp'
        | reto d' ρ' => rw [hS] at pp'; exact pp'
        | rett d' => rw [hS] at pp'; exact pp'
        | brk ρ' => rw [hS] at pp'; exact pp'
        | cont ρ' => rw [hS] at pp'; exact pp'
        | exc e' d' ρ' => rw [hS] at pp'; exact pp'.elim
        | bad => rw [hS] at pp'; exact pp'.elim
      · rw [if_neg (by rw [hb0]; decide)] at pp'
        exact exc_post hx E1 pp' h1 h2 h3
    · rw [if_neg he] at pp'
      exact pp'.elim
end

/-! ### the caught error -/
def dAt (i : Nat) : DFn := fun ρ => match ρ[i]? with
  | some (.obj _ [d]) => some d
  | _ => none
def dIsX (i : Nat) (h : Cl) : DFn := fun ρ => match ρ[i]? with
  | some (.obj k [_]) => some (.bl (subX k h))
  | _ => none
def dIsV (i : Nat) : DFn := fun ρ => match ρ[i]? with
  | some (.obj _ [_]) => some (.bl true)
  | _ => none
theorem slot_e {c : Ct} {B S0 H : Hp} {M : Mz} {Γ : List Md} {L : List (List Addr)} {σ : L2.St} {ρ : List D} (E : EnvR c B S0 M Γ L σ H ρ) {i : Nat} {a dx : Addr} {k : Cl} (hm : Γ[i]? = some (.e a dx k)) : ∃ v d', σ[i]? = some (some (.ref a)) ∧ ρ[i]? = some (.obj k [d']) ∧ hide (Msk M L) H dx = some (.xd [("at", v)]) ∧ Rep c (hide (Msk M L) H) v d' := by
  obtain ⟨l, x, d, h1, h2, h3, e1, e2, v, d', e3, e4, e5⟩ := E.sl.get hm
  subst e2 e3
  exact ⟨v, d', h2, h3, e4, e5⟩
/-- isinstance(e, c), e the error that the suite holds, which has a dict -/
def rIsD (K : PySem.W.Frag) (D a dx : Addr) : List V → Hp → VK → Prop := fun xs H Q => ∃ (c : V) (cv : Value) (b : Bool) (fs : List (Str × V)), xs = [.ref a, c] ∧ (∀ u, RelV c u → u = cv) ∧ PySem.W.kitOne K (.ref D) cv = some b ∧ H dx = some (.xd fs) ∧ Q (.bl b) H
theorem call_isD {X : Cx} {a D dx : Addr} {oe : Obj} {pn : List (Addr × Obj)} (C : ExcC X.K D) (hz : L2N.Zn (.ref D) (some dx) oe) (hf : ∃ vs, oe.data = .fields vs) : CallR (X.suite a ((a, oe) :: pn)) (.builtin "isinstance") (rIsD X.K D a dx) := by
  intro pins s σ H xs us Q I r h
  obtain ⟨c, cv, b, fs, rfl, hcv, e, hdx, q⟩ := h
  obtain ⟨u1, u2, rfl, r1, r2⟩ := vals2 r
  cases r1
  have ec := hcv _ r2
  subst ec
  obtain ⟨there, _⟩ := I.pin (a, oe) (List.mem_append.mpr (.inl List.mem_cons_self))
  obtain ⟨mA, hns, _⟩ := (show ObjOk X.prog X.w H s.heap dx (.xd fs) from I.hok dx _ hdx)
  obtain ⟨od, ho, _⟩ := lookIn_ns hns
  have inst : PySem.W.InstAt s.heap a oe D (some od) := by
    obtain ⟨vs, hv⟩ := hf
    exact ⟨there, hz.1, by unfold PySem.W.notCls; rw [hv] <;> rfl, by rw [hz.2.1]; exact ho⟩
  have hcl : (PySem.W.clsIn X.K D).isSome = true := by
    obtain ⟨cd, hc, _⟩ := PySem.W.any_some C.hd
    rw [hc]
    rfl
  exact PySem.W.kia_one (PySem.W.kitx_exc hcl C.hg C.hk C.hs C.ha C.hn C.ht C.hm) I.kIn inst e (fun z => nomatch z) fun tk => ⟨.bl b, H, I.kept (t' := tk) fun _ _ z => z, rfl, q⟩
section
variable {X : Cx} {ca : Cl → Addr} {Γ : List Md} {a dx : Addr} {oe : Obj} {k : Cl} {pn : List (Addr × Obj)} {x n : Str} {p p2 p3 pos : Pos}
theorem pd_at (i : Nat) (C : ExcC X.K (ca k)) (hno : PySem.W.findIn X.K (.ref (ca k)) "at" = some none) (hz : L2N.Zn (.ref (ca k)) (some dx) oe) (hf : ∃ vs, oe.data = .fields vs) (hm : Γ[i]? = some (.e a dx k) := by rfl) (hN : X.N[i]? = some n := by rfl) (hv : Vis X.env.scope n := by first | exact Or.inl rfl | exact Or.inr (Or.inl rfl) | exact Or.inr (Or.inr rfl)) (hd : (n == ("__debug__" : Str)) = false := by decide)
    (hcd : (n == ("__classdict__" : Str)) = false := by decide) : PDE (X.suite a ((a, oe) :: pn)) ca Γ (.Attribute (.Name n p) "at" pos) .s (dAt i) := by
  refine ⟨_, pe_xf (xf_of C) hno hz.zc hf (pe_var (X := X.suite a ((a, oe) :: pn)) (i := i) hN hv hd hcd), fun B S0 M L σ H ρ E d hd Q q => ?_⟩
  obtain ⟨v, d', h1, h2, h3, h4⟩ := slot_e E hm
  unfold dAt at hd
  rw [h2] at hd
  cases hd
  exact ⟨_, h1, rfl, rfl, dx, _, v, rfl, (hide_of h3).2, rfl, q v H (Ex.refl _) h4⟩
theorem pd_isX (i : Nat) (h : Cl) (C : ExcC X.K (ca k)) (hk : PySem.W.kitOne X.K (.ref (ca k)) (.ref (ca h)) = some (subX k h)) (hz : L2N.Zn (.ref (ca k)) (some dx) oe) (hf : ∃ vs, oe.data = .fields vs) (h1 : X.mg "isinstance" = none) (h2 : X.mg x = some (.ref (ca h))) (hm : Γ[i]? = some (.e a dx k) := by rfl) (hN : X.N[i]? = some n := by rfl)
    (hv : Vis X.env.scope n := by first | exact Or.inl rfl | exact Or.inr (Or.inl rfl) | exact Or.inr (Or.inr rfl)) (hd : (n == ("__debug__" : Str)) = false := by decide) (hcd : (n == ("__classdict__" : Str)) = false := by decide) (hg : Gl X "isinstance" := by rfl) (hg2 : Gl X x := by rfl) (hd2 : (x == ("__debug__" : Str)) = false := by decide)
    (hs : starEach (.Name n p :: [.Name x p2]) X.env = (false, eval (.Name n p) X.env) :: starEach [.Name x p2] X.env := by rfl) (hs2 : starEach [.Name x p2] X.env = (false, eval (.Name x p2) X.env) :: starEach [] X.env := by rfl) (hpl : (backTo pos (starEach [.Name x p2] X.env)).any (·.1) = false := by rfl) :
    PDE (X.suite a ((a, oe) :: pn)) ca Γ (.Call (.Name "isinstance" p3) [.Name n p, .Name x p2] [] pos) .s (dIsX i h) := by
  refine ⟨_, pe_callB (X := X.suite a ((a, oe) :: pn)) (call_isD C hz hf) hg h1 (by decide +kernel) (pa_cons (pe_var (X := X.suite a ((a, oe) :: pn)) (i := i) hN hv hd hcd) (pa_cons (pe_glob (X := X.suite a ((a, oe) :: pn)) (v := .ref (ca h)) hg2 h2 rfl hd2) pa_nil hs2) hs) (by decide) (by decide) hs hpl, fun B S0 M L σ H ρ E d hd Q q => ?_⟩
  obtain ⟨v, d', g1, g2, g3, g4⟩ := slot_e E hm
  unfold dIsX at hd
  rw [g2] at hd
  cases hd
  exact ⟨_, g1, _, .ref (ca h), _, _, rfl, fun u r => r, hk, (hide_of g3).2, q _ H (Ex.refl _) (.bl _)⟩
theorem pd_isV (i : Nat) (C : ExcC X.K (ca k)) (hk : PySem.W.kitOne X.K (.ref (ca k)) (.type "ValueError") = some true) (hz : L2N.Zn (.ref (ca k)) (some dx) oe) (hf : ∃ vs, oe.data = .fields vs) (h1 : X.mg "isinstance" = none) (h2 : X.mg "ValueError" = none) (hm : Γ[i]? = some (.e a dx k) := by rfl) (hN : X.N[i]? = some n := by rfl)
    (hv : Vis X.env.scope n := by first | exact Or.inl rfl | exact Or.inr (Or.inl rfl) | exact Or.inr (Or.inr rfl)) (hd : (n == ("__debug__" : Str)) = false := by decide) (hcd : (n == ("__classdict__" : Str)) = false := by decide) (hg : Gl X "isinstance" := by rfl) (hg2 : Gl X "ValueError" := by rfl)
    (hs : starEach (.Name n p :: [.Name "ValueError" p2]) X.env = (false, eval (.Name n p) X.env) :: starEach [.Name "ValueError" p2] X.env := by rfl) (hs2 : starEach [.Name "ValueError" p2] X.env = (false, eval (.Name "ValueError" p2) X.env) :: starEach [] X.env := by rfl) (hpl : (backTo pos (starEach [.Name "ValueError" p2] X.env)).any (·.1) = false := by rfl) :
    PDE (X.suite a ((a, oe) :: pn)) ca Γ (.Call (.Name "isinstance" p3) [.Name n p, .Name "ValueError" p2] [] pos) .s (dIsV i) := by
  refine ⟨_, pe_callB (X := X.suite a ((a, oe) :: pn)) (call_isD C hz hf) hg h1 (by decide +kernel) (pa_cons (pe_var (X := X.suite a ((a, oe) :: pn)) (i := i) hN hv hd hcd) (pa_cons (pe_bltn (X := X.suite a ((a, oe) :: pn)) (v := .ty "ValueError") hg2 h2 (by decide +kernel) rfl (by decide) (by decide)) pa_nil hs2) hs) (by decide) (by decide) hs hpl, fun B S0 M L σ H ρ E d hd Q q => ?_⟩
  obtain ⟨v, d', g1, g2, g3, g4⟩ := slot_e E hm
  unfold dIsV at hd
  rw [g2] at hd
  cases hd
  exact ⟨_, g1, _, .type "ValueError", _, _, rfl, fun u r => r, hk, (hide_of g3).2, q _ H (Ex.refl _) (.bl _)⟩
end
end DL

/-! DL: a law's end. -/
namespace DL
open PySem PySem.Spec PyProof.Rows L2
theorem walk_ofX {l : PySem.W.OpenLaw} {n k : Nat} {q : Program} {loose : List Str} {XP : (Str → Option Value) → Heap → Prop} {YP : World → Heap → Prop} {d : DefRec} {x : Str}
    (hn : l.most = some n) (hn2 : n ≤ sizeLine) (hdf : d.params.defaults = []) (hr : Room k callerA)
    (F : ∀ (w : World) (mg : Str → Option Value) (fa : Addr) (h : Heap), YP w h → h.Ns mainGlobals mg → mg d.name = some (.ref fa) →
      ∃ (K : PySem.W.Frag) (fd : FuncData) (sp : Sp), K.In h ∧ (∀ (s : Shared) (u : Value), BindsTo s fd ⟨[u], []⟩ [(x, u)]) ∧
        (∀ (H : Hp) (a : Addr) (ns : List Int), ns.length ≤ n → L2.Only H → SqL K H a (ns.map V.int) → sp [.ref a] H (fun v _ => v = .bl true) fun _ _ _ => False) ∧
        ∀ base : Heap, K.In base → base.Ns mainGlobals mg → FnOk l.prog w K mg base (L2N.CX l.prog w) k fa fd [x] sp) :
    PySem.W.WalkO q loose XP YP l.row.toRowW d [] (fun f vs => PySem.call f vs) := by
  refine Att.attach_call hn hdf fun w s₀ s₁ mg mb fa o pm cd doc a vs ns G Y ho hd hcd hmg hobj hints hlen hg => ?_
  obtain ⟨K, fd, sp, KX, hb, hsp, hF⟩ := F w mg fa _ Y G.T.g hmg
  exact law_call KX G.T.g G.T.b G.T.builtins G.T.nolimit hg hobj hints (Nat.le_trans hlen hn2) hr hF hb (fun H hO hS => hsp H a ns hlen hO hS) fun H e s' h => by
    obtain ⟨_, _, _, _, _, _, _, _, _, _, _, _, z⟩ := h
    exact z
/-- the law's promise, met -/
theorem spD_law {c : Ct} {H : Hp} {a : Addr} {ns : List Int} {G : List D → Rs} {E : XK} (hS : SqL c.K H a (ns.map V.int)) (hG : G [.scr ns] = .ok (.bl true)) : SpD c [.s] false G [.ref a] H (fun v _ => v = .bl true) E := by
  refine ⟨H, fun _ => none, ⟨fun _ => False, 0⟩, [[]], [.scr ns], ⟨Ex.refl _, fun a h => h.elim, fun _ _ h => (nomatch h), ⟨fun a h => by (exact nomatch h), trivial⟩, fun a h => ?_, ?_⟩, ?_⟩
  · obtain ⟨l, h1, h2⟩ := h
    rcases List.mem_cons.mp h1 with h1 | h1
    · rw [h1] at h2; exact nomatch h2
    · exact nomatch h1
  · refine .cons ⟨rfl, _, rfl, .scr ?_⟩ .nil
    have e : hide (Msk ⟨fun _ => False, 0⟩ [[]]) H = H := by
      funext b
      unfold hide
      rw [if_neg]
      rintro (z | ⟨l, h1, h2⟩)
      · exact z
      · rcases List.mem_cons.mp h1 with h1 | h1
        · rw [h1] at h2; exact nomatch h2
        · exact nomatch h1
    rw [e]
    exact hS
  · rw [hG]
    intro v H' x r
    have r' : Rep c (hide (fun _ => False) H') v (.bl true) := r
    cases r'
    rfl
end DL

/-! DL: the errors' __init__; a hook with facts of one's own. -/
namespace DL
open PySem PySem.Spec PyProof.Rows L2
section
variable {P : Program} {w : World} {K : PySem.W.Frag} {mg : Str → Option Value} {base : Heap} {x qual : Str} {params : Arguments} {scope : Scope} {dvs : List V} {kws : List (Str × V)} {f : Addr} {fd : FuncData} {p1 p2 p3 p4 : Pos}
theorem fn_X (F : FunD K x qual params [.Assign [.Attribute (.Name "self" p1) "at" p2] (.Name "at" p3) p4] scope dvs kws f fd) (S : FnScope ["self", "at"] ["self", "at"] scope) (k : Nat)
    (v0 : Vis scope "self") (v1 : Vis scope "at") : FnOk P w K mg base (L2N.CX P w) (k + 1) f fd ["self", "at"] (spX K) := by
  refine F.ok S (fun vs H Q E h => ?_) (fun cdv A outer s H vs Q E hr h => ?_)
  · obtain ⟨a, C, v, rfl, _⟩ := h
    rfl
  · obtain ⟨a, C, v, rfl, T, hno, ha, q⟩ := h
    have hX : ∀ X : Cx, X = cxOf (L2N.CX P w) P w K mg base ["self", "at"] qual scope f cdv A outer s H E → PSs X [.Assign [.Attribute (.Name "self" p1) "at" p2] (.Name "at" p3) p4] (tOst X.K "at" (tVar 0) (tVar 1)) := fun X e => by
      subst e
      exact pss_one (ps_ost (pe_var (i := 0) rfl v0 (by decide) (by decide)) (pe_var (i := 1) rfl v1 (by decide) (by decide)) (by rfl))
    exact ⟨_, hX _ rfl, v, rfl, .ref a, rfl, a, C, rfl, T, hno, .inl ⟨ha, q⟩⟩
end
def obsX (n : Nat) (xs : List (PySem.W.Frag → Bool)) (fa : List He.Fa) (fn : List He.DefD) (g : Addr → Option Obj) : Bool × He.AlD := (xs.all fun f => f (He.frG g (He.asD g n)), He.obsD fa fn (He.frG g (He.asD g n)))
def SaysX (xs : List (PySem.W.Frag → Bool)) (fa : List He.Fa) (fn : List He.DefD) (K : PySem.W.Frag) : Prop := (xs.all (fun f => f K), He.obsD fa fn K) = (true, He.valD fn)
def hookX (n : Nat) (xs : List (PySem.W.Frag → Bool)) (fa : List He.Fa) (fn : List He.DefD) : PySem.W.Hook where
  α := Bool × He.AlD
  obs := fun s => obsX n xs fa fn s.heap.get?
  val := fun _ => (true, He.valD fn)
  says := fun _ h => ∃ K : PySem.W.Frag, K.In h ∧ SaysX xs fa fn K
  of := fun _ _ e => ⟨_, He.frG_in, e⟩
  keeps := fun _ _ _ ⟨K, hK, c⟩ k => ⟨K, PySem.W.Frag.In.keeps hK k, c⟩
theorem obsX_eq {n : Nat} {xs : List (PySem.W.Frag → Bool)} {fa : List He.Fa} {fn : List He.DefD} {g : Addr → Option Obj} {s : Shared} (h : ∀ a, g a = s.heap.get? a) : obsX n xs fa fn g = (hookX n xs fa fn).obs s := by
  have e : g = s.heap.get? := funext h
  rw [e] <;> rfl
theorem SaysX.d {xs : List (PySem.W.Frag → Bool)} {fa : List He.Fa} {fn : List He.DefD} {K : PySem.W.Frag} (h : SaysX xs fa fn K) : He.SaysD fa fn K := congrArg (fun z : Bool × He.AlD => z.2) h
theorem SaysX.x {xs : List (PySem.W.Frag → Bool)} {fa : List He.Fa} {fn : List He.DefD} {K : PySem.W.Frag} (h : SaysX xs fa fn K) (i : Nat) {b : PySem.W.Frag → Bool} (hi : xs[i]? = some b := by rfl) : b K = true :=
  List.all_eq_true.mp (congrArg (fun z : Bool × He.AlD => z.1) h) b (List.mem_of_getElem? hi)
/-! ### an error made, its value read -/
theorem pe_mkat {X : Cx} {e : Expr} {t : L2.St → Hp → XK → Prop} {n : Str} {pos : Pos} (he : L2N.PMk X e t) (hb : attributeBase e n X.env (eval e X.env) = eval e X.env := by rfl) :
    PE X (.Attribute e n pos) (fun σ H Q => t σ H fun cls d H' => ∃ (C dd : Addr) (fs : List (Str × V)) (v : V), cls = .ref C ∧ d = some dd ∧ XfC X.K C ∧ PySem.W.findIn X.K (.ref C) n = some none ∧ H' dd = some (.xd fs) ∧ fs.lookup n = some v ∧ Q v H') := by
  refine ⟨fun pins s σ H Q I h => attr_of hb (thn (he pins s σ H _ I h) fun u s1 hu => ?_)⟩
  obtain ⟨a, oe, vs, sI, H1, cls, d, rfl, J, keeps, _, there, hz, hdat, _, _, os, ag, _, C, dd, fs, v, ec, ed, T, hno, hx, hl, q⟩ := hu
  subst ec ed
  have K1 := J.kept (t' := s1.toks) keeps
  have K2 : Inv X pins σ H1 s1 := ⟨K1.ok, os.trans J.os, ag, K1.base, K1.loc, K1.cell, K1.free, K1.freeC, K1.pin, K1.hok, K1.len⟩
  obtain ⟨mA, hns, hr⟩ := (show ObjOk X.prog X.w H1 s1.heap dd (.xd fs) from K2.hok dd _ hx)
  obtain ⟨od, ho, hlk⟩ := lookIn_ns hns
  obtain ⟨w, hw, rw⟩ := RelO.some_of (v := v) (o := mA n) (by rw [← hl]; exact hr n)
  have inst : PySem.W.InstAt s1.heap a oe C (some od) := ⟨there, hz.1, by unfold PySem.W.notCls; rw [hdat] <;> rfl, by rw [hz.2.1]; exact ho⟩
  exact HandSPX.exc_get K2.kIn inst T.ga T.gg T.exC (PySem.W.findObj_own T.hdC hno rfl (by rw [hlk, hw])) (handed_of rw) ⟨v, H1, K2.tok _, rw, q⟩
section
variable {X : Cx} {ca : Cl → Addr} {Γ : List Md} {e : Expr} {f : DFn} {pos cpos p : Pos} {x : Str} {fI : Addr} {fd : FuncData} {k : Nat}
theorem pd_mkat (ec : Cl) (T : ExcOk X.K ca fI ec) (C : ExcC X.K (ca ec)) (tI : PySem.W.typeIn X.K (.ref fI) = some (.type "function")) (F : FnOk X.prog X.w X.K X.mg X.base (L2N.CX X.prog X.w) k fI fd ["self", "at"] (spX X.K)) (hr : Room (k + 1) X.A) (hb : Binds X.K fd ["self", "at"] []) (hm : X.mg x = some (.ref (ca ec)))
    (he : PDE X ca Γ e .s f) (hg : Gl X x := by rfl) (hdb : (x == ("__debug__" : Str)) = false := by decide) (hst : starEach (e :: []) X.env = (false, eval e X.env) :: starEach [] X.env := by rfl) (hpl : (backTo cpos (starEach [] X.env)).any (·.1) = false := by rfl)
    (hab : attributeBase (.Call (.Name x p) (e :: []) [] cpos) "at" X.env (eval (.Call (.Name x p) (e :: []) [] cpos) X.env) = eval (.Call (.Name x p) (e :: []) [] cpos) X.env := by rfl) :
    PDE X ca Γ (.Attribute (.Call (.Name x p) (e :: []) [] cpos) "at" pos) .s f := by
  obtain ⟨t, pe, q⟩ := he
  refine ⟨_, pe_mkat (pmk_oexN T.oex T.init tI F hr hb .nil passLN hg hm (pa_cons pe pa_nil hst) hdb hst hpl) hab, fun B S0 M L σ H ρ E d hd Q kk => ?_⟩
  refine q B S0 M L σ H ρ E d hd _ fun v H1 x1 rv => ⟨by show 1 ≤ 1000; decide, fun a ha => ?_⟩
  refine ⟨a, ca ec, v, rfl, T.oex, T.no, upd_same, fun dx hdx hne => ⟨rfl, dx, [("at", v)], upd_same, by rw [upd_ne hne, upd_same], ?_, ca ec, dx, [("at", v)], v, rfl, rfl, xf_of C, T.no, ?_, rfl, ?_⟩⟩
  · rw [upd_ne hne] at hdx
    exact hdx
  · rw [upd_same]
  · have hd1 : H1 dx = none := by
      rw [upd_ne hne] at hdx
      exact hdx
    rw [raise_heap ha hd1 hne]
    have x2 : Ex H1 (upd H1 dx (.xd [("at", v)])) := Ex.new hd1
    exact kk v _ (x1.trans x2) (VR.mono (m := .s) (B := B) (M := M) (L := L) x2 rv)
end
/-! ### lent lists of flat items -/
def iEnumF (f : DFn) : List D → Option (List D) := fun ρ => ((f ρ).bind lstOf).bind fun ds => if flats ds = true then some (enumFrom 0 ds) else none
def dCutF (f : DFn) (lo hi : List D → Option (Option Int)) : DFn := fun ρ => (dCut f lo hi ρ).bind fun d => match d with
  | .lst ds => if flats ds = true then some (.lst ds) else none
  | _ => none
theorem flats_get : ∀ {ds : List D} {i : Nat} {d : D}, flats ds = true → ds[i]? = some d → flat d = true
  | [], _, _, _, h => by simp at h
  | d :: ds, 0, _, hf, h => by
    simp at h
    subst h
    rw [flats] at hf
    exact (Bool.and_eq_true_iff.mp hf).1
  | d :: ds, i + 1, _, hf, h => by
    rw [flats] at hf
    exact flats_get (Bool.and_eq_true_iff.mp hf).2 (by simpa using h)
theorem walks_enumB {c : Ct} {B S T : Hp} {a : Addr} {xs : List V} {ds : List D} (h : ∀ H, Ex B H → Ex S H → SqL c.K H a xs) (hT : ∀ H, Ex B H → Ex S H → ∀ a xs, T a = some (.tup xs) → H a = some (.tup xs)) (r : Reps c T xs ds) (hf : flats ds = true) : WalksN c B S (Ite c.K a) (enumFrom 0 ds) :=
  ⟨xs.length, _, _, by rw [enumFrom_length]; exact r.length, walk_enum (K := c.K) (a := a) (xs := xs), h, fun i H v H' hi eB eS y => by
    obtain ⟨T', x, z, rfl, h2, rfl, h4, h5⟩ := y
    cases h4
    obtain ⟨d, g1, g2⟩ := r.get h5
    refine ⟨Ex.new h2, _, enumFrom_get ds 0 i d g1, fun m hm eS' => ?_⟩
    have nm : ¬ m T' := fun z => by
      have q := hm T' z
      rw [h2] at q
      exact q
    have g3 : Rep c (hide m H) _ d := Rep.flat_any (fun a xs h => hide_in (fun z => by
      have q := hm a z
      rw [hT H eB eS a xs h] at q
      exact q) (hT H eB eS a xs h)) g2 (flats_get hf g1)
    refine .tup (hide_in nm upd_same) (.cons ?_ (.cons (g3.mono (hide_mono (Ex.new h2))) .nil))
    rw [Nat.zero_add]
    exact .int _⟩
section
variable {X : Cx} {ca : Cl → Addr} {Γ : List Md} {a b : Expr} {ma mb : Vm} {f fa fb : DFn} {p pos : Pos}
theorem pdin_enumB {l : Expr} {elts : List Expr} {kk : Nat} {tpos : Pos} (hl : PDE X ca Γ l .b f) (hm : X.mg "enumerate" = none) (hg : Gl X "enumerate" := by rfl) (hs : starEach [l] X.env = [(false, eval l X.env)] := by rfl) : PDIN X ca Γ (.Tuple elts kk tpos) (.Call (.Name "enumerate" p) [l] [] pos) (iEnumF f) := by
  obtain ⟨t, pl, q⟩ := hl
  refine ⟨_, pi_enum hg hm (pa_cons pl pa_nil hs) hs, fun B S0 M L σ H ρ E ds hd R k => ?_⟩
  obtain ⟨ds0, e1, hd⟩ := bind_some hd
  obtain ⟨hf, hd⟩ := ite_some' hd
  cases hd
  obtain ⟨a, e2, e1⟩ := bind_some e1
  refine q B S0 M L σ H ρ E a e2 _ fun v H1 x1 r => ?_
  have r' : Rep ⟨X.K, ca⟩ B v a := r
  obtain ⟨p', xs, rfl, hs, rs⟩ := lst_in r' e1
  exact ⟨p', xs, rfl, hs H1 (E.eb.trans x1), k _ H1 x1 (walks_enumB (c := ⟨X.K, ca⟩) (T := B) (fun H eB _ => hs H eB) (fun H eB _ a xs h => eB _ _ h) rs hf)⟩
/-- a slice of a list of flat items, however known -/
theorem pd_cutB {lo hi : Option Expr} {fl fu : List D → Option (Option Int)} {p2 : Pos} (ha : PDE X ca Γ a ma fa) (hl : PDO X ca Γ lo fl) (hu : PDO X ca Γ hi fu) : PDN X ca Γ (.Subscript a (.Slice lo hi none p2) pos) (dCutF fa fl fu) := by
  obtain ⟨t, p, q⟩ := ha
  obtain ⟨tl, pl, ql⟩ := hl
  obtain ⟨tu, pu, qu⟩ := hu
  refine ⟨_, pe_slice sl_list p pl pu, fun B S0 M L σ H ρ E d hd Q k => ?_⟩
  obtain ⟨d0, hd0, hd⟩ := bind_some hd
  obtain ⟨x0, e1, hd0⟩ := bind_some hd0
  obtain ⟨l, e2, hd0⟩ := bind_some hd0
  obtain ⟨u, e3, hd0⟩ := bind_some hd0
  refine q B S0 M L σ H ρ E x0 e1 _ fun x H1 x1 r1 => ?_
  refine ql B S0 M L σ H1 ρ (E.ext x1) l e2 _ fun H2 x2 => ?_
  refine qu B S0 M L σ H2 ρ ((E.ext x1).ext x2) u e3 _ fun H3 x3 => ?_
  have E3 := ((E.ext x1).ext x2).ext x3
  have ex : Ex H H3 := (x1.trans x2).trans x3
  have r3 : Rep ⟨X.K, ca⟩ H3 x x0 := Rep.mono (x2.trans x3) (r1.rep ((E.ext x1).eb))
  cases x0 with
  | lst ds =>
    cases hd0
    obtain ⟨hf, hd⟩ := ite_some' (show (if flats (cutD ds l u) = true then some (D.lst (cutD ds l u)) else none) = some d from hd)
    cases hd
    cases r3 with
    | lst h r =>
      refine ⟨_, _, rfl, SqL.of h, fun p' hp => ?_⟩
      have rc : Reps ⟨X.K, ca⟩ (hide (Msk M L) H3) _ (cutD ds l u) := Reps.flat E3 (cut_reps r l u) hf
      exact k p' _ (ex.trans (Ex.new hp)) (ex.free hp) (.lst upd_same (Owns.sh (reps_updN hp rc)))
  | scr ns =>
    cases hd0
    obtain ⟨hf, hd⟩ := ite_some' (show (if flats (cutD (ns.map .int) l u) = true then some (D.lst (cutD (ns.map .int) l u)) else none) = some d from hd)
    cases hd
    cases r3 with
    | scr h =>
      refine ⟨_, _, rfl, h, fun p' hp => ?_⟩
      have rc : Reps ⟨X.K, ca⟩ (hide (Msk M L) H3) _ (cutD (ns.map .int) l u) := Reps.flat E3 (cut_reps (Reps.of_ints ns) l u) hf
      exact k p' _ (ex.trans (Ex.new hp)) (ex.free hp) (.lst upd_same (Owns.sh (reps_updN hp rc)))
  | _ => cases hd0
end
end DL

/-! DL: texts. -/
namespace DL
open PySem PySem.Spec PyProof.Rows L2
/-- a whole number's text -/
def txtI (i : Int) : Str := Str.ofString (toString i)
def gStr : List D → Option D
  | [.int i] => if i.natAbs.log2 < 1920 then some (.str (txtI i)) else none
  | [.str x] => some (.str x)
  | _ => none
def gIntS : List D → Option D
  | [.str x] => if x.length ≤ 640 then (PySem.intText? x).map .int else none
  | [.bl b] => some (.int (if b then 1 else 0))
  | [.int i] => some (.int i)
  | _ => none
def gLenS : List D → Option D
  | [.str x] => if x.length ≤ sizeLine then some (.int x.length) else none
  | _ => none
def gIxS (a b : D) : Option D := match a, b with
  | .str x, .int i => if x.length ≤ sizeLine then (atI x.cps.toList i).map fun c => .str ⟨#[c]⟩ else none
  | _, _ => none
def gAddS (a b : D) : Option D := match a, b with
  | .str x, .str y => if x.length + y.length ≤ sizeLine then some (.str (x ++ y)) else none
  | _, _ => none
def hasS (i j : Str) : Bool := !(Builtin.Str.occurrences j i 0 j.length 1).isEmpty
def gInS (a b : D) : Option D := match a, b with
  | .str x, .str y => some (.bl (hasS x y))
  | _, _ => none
def gNotInS (a b : D) : Option D := match a, b with
  | .str x, .str y => some (.bl (!hasS x y))
  | _, _ => none
def strOf : D → Option Str
  | .str x => some x
  | _ => none
def asStrs : List D → Option (List Str)
  | [] => some []
  | d :: ds => (strOf d).bind fun x => (asStrs ds).map (x :: ·)
def gJoin (a b : D) : Option D := (strOf a).bind fun x => ((lstOf b).bind asStrs).bind fun ys => if (ys.map (·.length)).sum + ys.length * x.length ≤ 16777216 then some (.str (Txt.join x ys)) else none
def gSplit (a b : D) : Option D := (strOf a).bind fun x => (strOf b).bind fun y => if (y.length == 0) = false ∧ x.length + 2 ≤ sizeLine then some (.lst ((Txt.split x y).map .str)) else none
def iStrD (f : DFn) : List D → Option (List D) := fun ρ => ((f ρ).bind strOf).map fun x => x.cps.toList.map fun c => .str ⟨#[c]⟩
section
variable {X : Cx} {ca : Cl → Addr} {Γ : List Md} {pos p apos cpos : Pos} {a b e : Expr} {ma mb : Vm} {fa fb : DFn} {x : Str} {sh : Bool}
theorem Rep.str_inv {c : Ct} {H : Hp} {v : V} {x : Str} (h : Rep c H v (.str x)) : v = .str x := by cases h; rfl
theorem strOf_some {d : D} {x : Str} (h : strOf d = some x) : d = .str x := by
  cases d <;> cases h
  rfl
theorem asStrs_reps {c : Ct} {H : Hp} : ∀ {vs : List V} {ds : List D} {ys : List Str}, Reps c H vs ds → asStrs ds = some ys → vs = ys.map V.str
  | _, _, _, .nil, h => by cases h; rfl
  | _, _, _, .cons r rs, h => by
    obtain ⟨x, e1, h⟩ := bind_some h
    obtain ⟨ys, e2, h⟩ := Option.map_eq_some_iff.mp h
    subst h
    have e3 := strOf_some e1
    subst e3
    rw [r.str_inv, asStrs_reps rs e2]
    rfl
theorem reps_strs {c : Ct} {H : Hp} : ∀ ys : List Str, Reps c H (ys.map V.str) (ys.map D.str)
  | [] => .nil
  | y :: ys => .cons (.str y) (reps_strs ys)
theorem cg_str : CG X ca (.type "str") gStr := ⟨fun xs H Q => (∃ i, xs = [.int i] ∧ i.natAbs.log2 < 1920 ∧ Q (.str (toString i)) H) ∨ (∃ a, xs = [.str a] ∧ Q (.str a) H),
  fun pins s σ H xs us Q I r h => by
    rcases h with h | h
    · exact call_str_int pins s σ H xs us Q I r h
    · exact SkE.call_str_str pins s σ H xs us Q I r h,
  fun H xs ds d r h => by
    unfold gStr at h
    split at h
    · obtain ⟨h1, h⟩ := ite_some h
      cases h
      cases r with
      | cons r1 r2 =>
        cases r2
        have e := r1.int_inv
        subst e
        exact ⟨_, Im.str _, fun Q q => .inl ⟨_, rfl, h1, q⟩⟩
    · cases h
      cases r with
      | cons r1 r2 =>
        cases r2
        have e := r1.str_inv
        subst e
        exact ⟨_, Im.str _, fun Q q => .inr ⟨_, rfl, q⟩⟩
    · cases h⟩
theorem cg_int : CG X ca (.type "int") gIntS := ⟨fun xs H Q => (∃ a n, xs = [.str a] ∧ PySem.intText? a = some n ∧ a.length ≤ 640 ∧ Q (.int n) H) ∨ (∃ k, xs = [.bl k] ∧ Q (.int (if k then 1 else 0)) H) ∨ (∃ i, xs = [.int i] ∧ Q (.int i) H),
  fun pins s σ H xs us Q I r h => by
    rcases h with h | h | h
    · exact call_int_str pins s σ H xs us Q I r h
    · exact call_int1 pins s σ H xs us Q I r (.inr h)
    · exact call_int1 pins s σ H xs us Q I r (.inl h),
  fun H xs ds d r h => by
    unfold gIntS at h
    split at h
    · obtain ⟨h1, h⟩ := ite_some h
      obtain ⟨n, h2, h⟩ := Option.map_eq_some_iff.mp h
      cases h
      cases r with
      | cons r1 r2 =>
        cases r2
        have e := r1.str_inv
        subst e
        exact ⟨_, Im.int _, fun Q q => .inl ⟨_, _, rfl, h2, h1, q⟩⟩
    · cases h
      cases r with
      | cons r1 r2 =>
        cases r2
        cases r1
        refine ⟨_, Im.int _, fun Q q => .inr (.inl ⟨_, rfl, ?_⟩)⟩
        exact q
    · cases h
      cases r with
      | cons r1 r2 =>
        cases r2
        have e := r1.int_inv
        subst e
        exact ⟨_, Im.int _, fun Q q => .inr (.inr ⟨_, rfl, q⟩)⟩
    · cases h⟩
theorem cg_len_str : CG X ca (.builtin "len") gLenS := ⟨_, call_len_str, fun H xs ds d r h => by
    unfold gLenS at h
    split at h
    · obtain ⟨h1, h⟩ := ite_some h
      cases h
      cases r with
      | cons r1 r2 =>
        cases r2
        have e := r1.str_inv
        subst e
        exact ⟨_, Im.int _, fun Q q => ⟨_, rfl, h1, q⟩⟩
    · cases h⟩
/-- x[i] of a text -/
theorem pd_ixS (ha : PDE X ca Γ a ma fa) (hb : PDE X ca Γ b mb fb) (hs : PlainIx b := by exact fun _ _ => rfl) : PDE X ca Γ (.Subscript a b pos) .s (d2 gIxS fa fb) := by
  obtain ⟨t, p, qa⟩ := ha
  obtain ⟨u, p2, qb⟩ := hb
  refine ⟨_, pe_ix ix_str p p2 hs, fun B S0 M L σ H ρ E d hd Q k => ?_⟩
  obtain ⟨x, e1, hd⟩ := bind_some hd
  obtain ⟨y, e2, hd⟩ := bind_some hd
  unfold gIxS at hd
  split at hd
  · obtain ⟨h1, hd⟩ := ite_some' hd
    obtain ⟨c, h2, hd⟩ := Option.map_eq_some_iff.mp hd
    subst hd
    refine qa B S0 M L σ H ρ E _ e1 _ fun v H1 x1 r1 => ?_
    refine qb B S0 M L σ H1 ρ (E.ext x1) _ e2 _ fun w H2 x2 r2 => ?_
    have ev := (r1.rep (E.eb.trans x1)).str_inv
    have ew := (r2.rep ((E.eb.trans x1).trans x2)).int_inv
    subst ev ew
    exact ⟨_, _, c, rfl, rfl, h1, h2, k _ H2 (x1.trans x2) (.str _)⟩
  · cases hd
theorem bg_addS : BG X ca .Add gAddS := ⟨_, op_add_str, fun H x y a b d rx ry e => by
  unfold gAddS at e
  split at e
  · obtain ⟨h1, e⟩ := ite_some e
    cases e
    have ev := rx.str_inv
    have ew := ry.str_inv
    subst ev ew
    exact ⟨_, Im.str _, fun Q q => ⟨_, _, rfl, rfl, h1, q⟩⟩
  · cases e⟩
theorem og_inS : OG X ca .In gInS := ⟨_, op_in_str, fun H x y a b d rx ry e => by
  unfold gInS at e
  split at e
  · cases e
    have ev := rx.str_inv
    have ew := ry.str_inv
    subst ev ew
    exact ⟨_, .bl _, fun Q q => ⟨_, _, rfl, rfl, q⟩⟩
  · cases e⟩
theorem og_notInS : OG X ca .NotIn gNotInS := ⟨_, op_notin_str, fun H x y a b d rx ry e => by
  unfold gNotInS at e
  split at e
  · cases e
    have ev := rx.str_inv
    have ew := ry.str_inv
    subst ev ew
    exact ⟨_, .bl _, fun Q q => ⟨_, _, rfl, rfl, q⟩⟩
  · cases e⟩
/-- sep.join(list of texts) -/
theorem pd_join (ha : PDE X ca Γ a ma fa) (hb : PDE X ca Γ b mb fb) (hs : starEach [b] X.env = [(false, eval b X.env)] := by rfl) (hbase : attributeBase a "join" X.env (eval a X.env) = eval a X.env := by rfl) (hline : (apos.endLine == pos.line) = true := by rfl) :
    PDE X ca Γ (.Call (.Attribute a "join" apos) [b] [] pos) .s (d2 gJoin fa fb) := by
  obtain ⟨t, p, qa⟩ := ha
  obtain ⟨u, p2, qb⟩ := hb
  refine ⟨_, pe_join p p2 hs hbase hline, fun B S0 M L σ H ρ E d hd Q k => ?_⟩
  obtain ⟨x, e1, hd⟩ := bind_some hd
  obtain ⟨y, e2, hd⟩ := bind_some hd
  obtain ⟨sx, e3, hd⟩ := bind_some hd
  obtain ⟨ys, e4, hd⟩ := bind_some hd
  obtain ⟨h1, hd⟩ := ite_some hd
  obtain ⟨ds, e5, e4⟩ := bind_some e4
  cases hd
  have ex := strOf_some e3
  subst ex
  refine qa B S0 M L σ H ρ E _ e1 _ fun v H1 x1 r1 => ?_
  have ev := (r1.rep (E.eb.trans x1)).str_inv
  subst ev
  refine ⟨⟨_, rfl⟩, ?_⟩
  refine qb B S0 M L σ H1 ρ (E.ext x1) _ e2 _ fun w H2 x2 r2 => ?_
  obtain ⟨p', xs, rfl, hsq, rs⟩ := lst_in (S := H2) (r2.rep ((E.eb.trans x1).trans x2)) e5
  have es := asStrs_reps rs e4
  subst es
  exact ⟨_, _, ys, rfl, rfl, .inl (hsq H2 (Ex.refl _)), h1, k _ H2 (x1.trans x2) (.str _)⟩
/-- x.split(sep) -/
theorem pd_split (ha : PDE X ca Γ a ma fa) (hb : PDE X ca Γ b mb fb) (hs : starEach [b] X.env = [(false, eval b X.env)] := by rfl) (hbase : attributeBase a "split" X.env (eval a X.env) = eval a X.env := by rfl) (hline : (apos.endLine == pos.line) = true := by rfl) :
    PDN X ca Γ (.Call (.Attribute a "split" apos) [b] [] pos) (d2 gSplit fa fb) := by
  obtain ⟨t, p, qa⟩ := ha
  obtain ⟨u, p2, qb⟩ := hb
  refine ⟨_, pe_split p p2 hs hbase hline, fun B S0 M L σ H ρ E d hd Q k => ?_⟩
  obtain ⟨x, e1, hd⟩ := bind_some hd
  obtain ⟨y, e2, hd⟩ := bind_some hd
  obtain ⟨sx, e3, hd⟩ := bind_some hd
  obtain ⟨sy, e4, hd⟩ := bind_some hd
  obtain ⟨⟨h1, h2⟩, hd⟩ := ite_some hd
  cases hd
  have ex := strOf_some e3
  have ey := strOf_some e4
  subst ex ey
  refine qa B S0 M L σ H ρ E _ e1 _ fun v H1 x1 r1 => ?_
  have ev := (r1.rep (E.eb.trans x1)).str_inv
  subst ev
  refine ⟨⟨_, rfl⟩, ?_⟩
  refine qb B S0 M L σ H1 ρ (E.ext x1) _ e2 _ fun w H2 x2 r2 => ?_
  have ew := (r2.rep ((E.eb.trans x1).trans x2)).str_inv
  subst ew
  refine ⟨_, _, rfl, rfl, h1, h2, fun q hq => ?_⟩
  exact k q _ ((x1.trans x2).trans (Ex.new hq)) ((x1.trans x2).free hq) (.lst upd_same (Owns.sh (reps_strs _)))
/-- for c in text -/
theorem pdi_str {tg l : Expr} (hl : PDE X ca Γ l ma fa) : PDI X ca sh Γ tg l (iStrD fa) := by
  obtain ⟨t, p, q⟩ := hl
  refine ⟨_, pi_str p, fun B S0 M L σ H ρ E ds hd R k => ?_⟩
  obtain ⟨x, e1, hd⟩ := Option.map_eq_some_iff.mp hd
  obtain ⟨d, e2, e1⟩ := bind_some e1
  subst hd
  have ex := strOf_some e1
  subst ex
  refine q B S0 M L σ H ρ E _ e2 _ fun v H1 x1 r => ?_
  have ev := (r.rep (E.eb.trans x1)).str_inv
  subst ev
  refine ⟨x, rfl, k _ H1 x1 ⟨x.cps.size, _, _, by simp, walk_str, fun _ _ => True.intro, fun i H v H' hi _ y => ?_⟩⟩
  obtain ⟨y1, c, y2, y3⟩ := y
  subst y3
  refine ⟨y1, .str ⟨#[c]⟩, ?_, .str _⟩
  rw [List.getElem?_map]
  have : x.cps.toList[i]? = some c := by rw [Array.getElem?_toList]; exact y2
  rw [this] <;> rfl
end
end DL

/-! DL: xs[i] = v; text.replace(' ', '  ', 1) behind a test. -/
namespace DL
open PySem PySem.Spec PyProof.Rows L2
open PySem.Builtin PySem.Builtin.Str in
/-- the first y of x, put z in its place -/
def repl1 (x y z : Str) : Str := if (occurrences x y 0 x.length 1).isEmpty = true then x else glued z (partsBetween x (occurrences x y 0 x.length 1) y.length)
open PySem.Builtin PySem.Builtin.Str in
theorem gives_repl1 (x y z : Str) (t u v k : Tok) (hy : (y.length == 0) = false) (h0 : (u == 0 || v == 0) = false) (huv : (u == v) = false) (hyz : (y == z) = false) (hl : x.length + z.length ≤ sizeLine) :
    Gives (PySem.Builtin.«str.replace» ⟨[.str x t, .str y u, .str z v, .int 1 k], []⟩) (if (occurrences x y 0 x.length 1).isEmpty = true then .val (.str x t) else .str (glued z (partsBetween x (occurrences x y 0 x.length 1) y.length))) := by
  show Gives (if ((occurrences x y 0 x.length 1).isEmpty || (y.length == 0 && z.length == 0)) = true then (do rule "str.replace.nothing"; ret (.str x t)) else
          (do let same ← isSame (.str y u) (.str z v)
              if same = true then (do rule "str.replace.old-is-new"; ret (.str x t)) else
              if tooLong (x.length + (occurrences x y 0 x.length 1).length * z.length) = true then unsupported "str.replace:memory" else
              retStr (glued z (partsBetween x (occurrences x y 0 x.length 1) y.length)))) _
  rw [hy, Bool.false_and, Bool.or_false]
  cases hc : (occurrences x y 0 x.length 1).isEmpty
  · have h1 : (occurrences x y 0 x.length 1).length ≤ 1 := StrLaws.occ_length_le x y 0 x.length 1
    have h2 : (occurrences x y 0 x.length 1).length * z.length ≤ 1 * z.length := Nat.mul_le_mul_right _ h1
    have hlt : tooLong (x.length + (occurrences x y 0 x.length 1).length * z.length) = false := by
      unfold tooLong
      exact decide_eq_false (by omega)
    rw [isSame_str_other y z u v h0 huv hyz, hlt]
    exact .of_eq rfl
  · exact .rule (.of_eq rfl)
def sp1 : Str := " "
def sp2 : Str := "  "
def tRepl1 (to : TE) : TE := fun σ H Q => to σ H fun v H1 => ∃ x, v = .str x ∧ x.length + 2 ≤ sizeLine ∧ (repl1 x sp1 sp2).length ≤ sizeLine ∧ Q (.str (repl1 x sp1 sp2)) H1
def gRepl1 (d : D) : Option D := (strOf d).bind fun x => if x.length + 2 ≤ sizeLine ∧ (repl1 x sp1 sp2).length ≤ sizeLine then some (.str (repl1 x sp1 sp2)) else none
section
variable {X : Cx} {ca : Cl → Addr} {W : WX} {J : Jd} {Γ : List Md} {a o e b : Expr} {ta to : TE} {r : R2} {i : Int} {j0 j1 j2 j3 : Nat} {c0 c1 c2 c3 p1 apos cpos rp ip pos pos' p : Pos} {ma mo mb : Vm} {fa fo fb fe : DFn} {x : Str}
theorem repl_run {s1 : Shared} {pins : List (Addr × Obj)} {σ : L2.St} {H : Hp} {Q : VK} (hk : 1 ≤ s1.toks) (I : Inv X pins σ H s1) (ho : PE X o to) (h : tRepl1 to σ H Q)
    (hbase : attributeBase o "replace" X.env (eval o X.env) = eval o X.env) (hline : (apos.endLine == cpos.line) = true)
    (hst : starEach [.Constant (.str " ") j1 c1, .Constant (.str "  ") j2 c2, .Constant (.int 1) j3 c3] X.env = [(false, eval (.Constant (.str " ") j1 c1) X.env), (false, eval (.Constant (.str "  ") j2 c2) X.env), (false, eval (.Constant (.int 1) j3 c3) X.env)]) :
    wpAny (model X.prog X.w) X.A (eval (.Call (.Attribute o "replace" apos) [.Constant (.str " ") j1 c1, .Constant (.str "  ") j2 c2, .Constant (.int 1) j3 c3] [] cpos) X.env) (EP X pins σ Q) X.xe s1 := by
  refine wpAny_Call_method_lateS hbase (by rw [hst]; rfl) hline ?_
  rw [hst]
  refine wpAny_mono (PySem.wpAny_toks (ho.run pins s1 σ H _ I h)) (fun v s2 q => ?_) fun _ _ z => z.2
  obtain ⟨hk2, v', H1, I1, r1, x, e1, hb, hb2, q⟩ := q
  subst e1
  obtain ⟨tx, e2⟩ := r1
  subst e2
  have hz : s2.toks ≠ 0 := by omega
  refine ⟨"str", _, PySem.F.plainAttrs_str, PySem.F.slot_str_replace, PySem.F.type_str_replace, typeIs_str _ _ _, (fun _ e => nomatch e), Calls.callWith_builtin rfl (Calls.evalArgs_plain (Calls.spliced_cons ?_))⟩
  refine Calls.Constant_str (k := j1) (pos := c1) (Calls.spliced_cons (Calls.Constant_str (k := j2) (pos := c2) (Calls.spliced_cons (wpAny_Constant_int (k := j3) (pos := c3) (Calls.spliced_nil ?_)))))
  refine call_gives PySem.F.slot_str_replace (typeIs_str _ _ _) PySem.F.entry_str_replace (PySem.F.args_str_replace_4 _ _ _ _)
    (gives_repl1 x " " "  " tx s2.toks (s2.toks + 1) (s2.toks + 1 + 1) rfl (by simp [hz]) (by simp) (by decide) hb) ?_
  have hb2' := hb2
  have q' := q
  unfold repl1 at hb2' q'
  cases hc : (PySem.Builtin.Str.occurrences x " " 0 x.length 1).isEmpty with
  | true =>
    rw [show (PySem.Builtin.Str.occurrences x sp1 0 x.length 1).isEmpty = true from hc] at q'
    exact ⟨.str x, H1, I1.tok _, ⟨tx, rfl⟩, q'⟩
  | false =>
    rw [show (PySem.Builtin.Str.occurrences x sp1 0 x.length 1).isEmpty = false from hc] at q' hb2'
    exact ⟨hb2', .str _, H1, I1.tok _, ⟨_, rfl⟩, q'⟩
theorem ps_ifRep (hop : OpR X (compareOp .Eq) r) (ha : PE X a ta) (ho : PE X o to)
    (hbase : attributeBase o "replace" X.env (eval o X.env) = eval o X.env := by rfl) (hline : (apos.endLine == cpos.line) = true := by rfl)
    (hst : starEach [.Constant (.str " ") j1 c1, .Constant (.str "  ") j2 c2, .Constant (.int 1) j3 c3] X.env = [(false, eval (.Constant (.str " ") j1 c1) X.env), (false, eval (.Constant (.str "  ") j2 c2) X.env), (false, eval (.Constant (.int 1) j3 c3) X.env)] := by rfl)
    (hm : behindInMarks .Eq (.Constant (.int i) j0 c0) = false := by first | exact nomark _ | rfl) :
    PS X (.If (.Compare a [.Eq] [.Constant (.int i) j0 c0] p1) [.Return (some (.Call (.Attribute o "replace" apos) [.Constant (.str " ") j1 c1, .Constant (.str "  ") j2 c2, .Constant (.int 1) j3 c3] [] cpos)) rp] [] ip)
      (tIfS (L2.tB (tOp r ta (tC (.int i)))) (tRet (tRepl1 to)) tNext) := by
  refine ⟨fun pins s σ H D I h => ?_⟩
  refine wpAny_If (wpAny_isTrue_Compare1 (thn (ha.run pins s σ H _ I h) fun v s1 ⟨x, H1, I1, r1, q1⟩ => wpAny_Constant_int ?_) hm)
  refine wpAny_mono (PySem.wpAny_toks (hop pins { s1 with toks := s1.toks + 1 } σ H1 x (.int i) v _ _ (I1.tok _) r1 ⟨_, rfl⟩ q1)) (fun c s3 q => ?_) fun _ _ z => z.2
  obtain ⟨hk, c', H3, I3, r3, q3⟩ := q
  have hk' : 1 ≤ s3.toks := Nat.le_trans (Nat.le_add_left 1 s1.toks) hk
  obtain ⟨d, rfl, q3⟩ := q3
  cases r3
  refine wpAny_truthy_bool ?_
  cases d with
  | true =>
    rw [if_pos rfl] at q3
    refine wpAny_execs_cons (wpAny_Return_some ?_)
    exact thn (repl_run hk' I3 ho q3 hbase hline hst) fun v s4 ⟨y, H4, I4, r4, q4⟩ => ⟨y, σ, H4, I4, r4, q4⟩
  | false =>
    rw [if_neg (by decide)] at q3
    exact pss_nil.run pins s3 σ H3 D I3 q3
/-- if a == k: return o.replace(' ', '  ', 1) -/
theorem pds_ifRep {k : Nat} (hr : Room k X.A) (ha : PDE X ca Γ a ma fa) (ho : PDE X ca Γ o mo fo) (hrf : J.rf = false)
    (hbase : attributeBase o "replace" X.env (eval o X.env) = eval o X.env := by rfl) (hline : (apos.endLine == cpos.line) = true := by rfl)
    (hst : starEach [.Constant (.str " ") j1 c1, .Constant (.str "  ") j2 c2, .Constant (.int 1) j3 c3] X.env = [(false, eval (.Constant (.str " ") j1 c1) X.env), (false, eval (.Constant (.str "  ") j2 c2) X.env), (false, eval (.Constant (.int 1) j3 c3) X.env)] := by rfl) :
    PDS X ca W J Γ (.If (.Compare a [.Eq] [.Constant (.int i) j0 c0] p1) [.Return (some (.Call (.Attribute o "replace" apos) [.Constant (.str " ") j1 c1, .Constant (.str "  ") j2 c2, .Constant (.int 1) j3 c3] [] cpos)) rp] [] ip) Γ
      (dIfS (DL.tB (d2 gEq fa (dC (.int i)))) (dRet (d1 gRepl1 fo)) dNext) := by
  obtain ⟨r, g1, g2⟩ := og_eq (X := X) (ca := ca) hr
  obtain ⟨t, pa, qa⟩ := ha
  obtain ⟨u, po, qo⟩ := ho
  have qb : DE ⟨X.K, ca⟩ Γ (tC (.int i)) .s (dC (.int i)) := de_c (fun _ _ => .int i)
  refine ⟨_, ps_ifRep g1 pa po hbase hline hst, fun B S0 M L σ H ρ N E pp => ?_⟩
  have qt := (qa.op qb g2).tt
  unfold dIfS at pp
  cases hd : DL.tB (d2 gEq fa (dC (.int i))) ρ with
  | none => rw [hd] at pp; exact pp.elim
  | some d =>
    rw [hd] at pp
    refine qt B S0 M L σ H ρ E d hd _ fun H1 x1 => ?_
    cases d with
    | true =>
      have E1 := E.ext x1
      have pp' : Post ⟨X.K, ca⟩ B S0 M J W Γ N (dRet (d1 gRepl1 fo) ρ) := pp
      unfold dRet at pp'
      cases he : d1 gRepl1 fo ρ with
      | none => rw [he] at pp'; exact pp'.elim
      | some e =>
        rw [he] at pp'
        obtain ⟨y, e1, he⟩ := bind_some (show (fo ρ).bind gRepl1 = some e from he)
        obtain ⟨z, e2, he⟩ := bind_some (show (strOf y).bind (fun x => if x.length + 2 ≤ sizeLine ∧ (repl1 x sp1 sp2).length ≤ sizeLine then some (D.str (repl1 x sp1 sp2)) else none) = some e from he)
        obtain ⟨⟨h1, h2⟩, he⟩ := ite_some he
        cases he
        have ey := strOf_some e2
        subst ey
        rw [if_pos rfl]
        refine qo B S0 M L σ H1 ρ E1 _ e1 _ fun v H2 x2 r2 => ?_
        have ev := (r2.rep (E1.eb.trans x2)).str_inv
        subst ev
        exact ⟨z, rfl, h1, h2, pp' _ H2 ((E1.eb).trans x2) (by unfold ResR; rw [hrf]; exact .str _)⟩
    | false =>
      rw [if_neg (by decide)]
      exact pp L σ H1 (E.ext x1)
theorem setItem_lst {prog : Program} {w : World} {A : Around} {E : Value → Shared → Prop} {s : Shared} {l : Addr} {its : List Value} {n : Nat} {k : Int} {t : Tok} {v : Value} {Q : Unit → Shared → Prop}
    (e : s.heap.get? l = some { cls := .type "list", data := .seq its.toArray n }) (h0 : 0 ≤ k) (hfit : k < 2 ^ 63) (hn : k < its.length)
    (hQ : Q () { s with heap := s.heap.update l (Obj.mapSeq (·.setIfInBounds k.toNat v)) }) : wpAny (model prog w) A (setItem (.ref l) (.int k t) v) Q E s := by
  have hl : s.heap.IsList l its.toArray := ⟨_, e, rfl, n, rfl⟩
  have hn' : k < its.toArray.size := by rw [List.size_toArray]; exact hn
  clear hn
  unfold setItem
  try with_reducible refine wpAny_holding ?_
  first | refine wpAny_bind (wpAny_pure ?_) | skip
  refine wpAny_bind (wpAny_sequenceKey hl.typeIs (by decide) ?_)
  refine wpAny_bind (wpAny_callSpecial?_slot (name := Str.ofString "__setitem__") hl.typeIs PySem.slot_list_setitem
    (wpAny_call_entry PySem.slot_list_setitem hl.typeIs PySem.entry_list_setitem ?_ (PySem.args_list_setitem _ _ _)))
  show wpAny _ _ (Builtin.List.listSubscript? (.int k t) >>= _) _ _ s
  refine wpAny_bind (wpAny_listSubscript_int (fitsIndex_of h0 hfit) ?_)
  clear hfit
  obtain ⟨j, rfl⟩ := Int.eq_ofNat_of_zero_le h0
  have hj : j < its.toArray.size := by omega
  have hx' : its.toArray[j]? = some its.toArray[j] := Array.getElem?_eq_getElem hj
  show wpAny _ _ ((seqItemAt l j >>= fun r => pure (r.map (j, ·))) >>= _) _ _ s
  refine wpAny_bind (wpAny_bind (wpAny_seqItemAt e rfl (wpAny_pure ?_)))
  rw [hx']
  show wpAny _ _ (setSeqItemAt l j v >>= _) _ _ s
  refine wpAny_bind (wpAny_setSeqItemAt e rfl ?_)
  first
    | exact wpAny_bind (wpAny_pure (wpAny_pure ⟨.none, rfl, wpAny_pure hQ⟩))
    | exact wpAny_pure ⟨.none, rfl, wpAny_pure hQ⟩
def tIxSet (tv td ty : TE) : TS := fun D σ H => tv σ H fun v H1 => td σ H1 fun x H2 => ty σ H2 fun y H3 => ∃ l xs, ∃ k : Int, x = .ref l ∧ y = .int k ∧ H3 l = some (.lst xs) ∧ 0 ≤ k ∧ k < xs.length ∧ D.nx σ (upd H3 l (.lst (xs.set k.toNat v)))
theorem vals_set : ∀ {xs : List V} {us : List Value} {i : Nat} {x : V} {u : Value}, Vals xs us → RelV x u → Vals (xs.set i x) (us.set i u)
  | _, _, _, _, _, .nil, _ => .nil
  | _, _, 0, _, _, .cons r t, h => .cons h t
  | _, _, i + 1, _, _, .cons r t, h => .cons r (vals_set t h)
theorem ps_ixset {td tv ty : TE} (hv : PE X e tv) (ho : PE X o td) (hi : PE X b ty) (hs : swapsWith e (some (.Subscript o b pos')) pos.line X.env = pure false) :
    PS X (.Assign [.Subscript o b pos'] e pos) (tIxSet tv td ty) := by
  refine ⟨fun pins s σ H D I h => ?_⟩
  refine wpAny_Assign_Subscript (thn (hv.run pins s σ H _ I h) fun r s1 ⟨v, H1, I1, rv, q1⟩ => thn (ho.run pins s1 σ H1 _ I1 q1) fun u s2 ⟨x, H2, I2, rx, q2⟩ => thn (hi.run pins s2 σ H2 _ I2 q2) fun iv s3 ⟨y, H3, I3, ry, l, xs, k, ex, ey, hH, h0, hk, q3⟩ => ?_) hs
  subst ex ey
  obtain rfl : u = Value.ref l := rx
  obtain ⟨tk, rfl⟩ := ry
  obtain ⟨z, its, n, rr, hl, eh⟩ := I3.lstM hH
  have hz : sizeLine = 16777216 := rfl
  refine setItem_lst eh h0 (by omega) (by omega) ?_
  exact ⟨σ, _, I3.lset (its' := its.set k.toNat r) (t' := s3.toks) hH eh (by simp) (vals_set rr rv) (by rw [List.length_set]; exact z), q3⟩
def ixK (i : Nat) (d a b : Option D) (ρ : List D) : Out := match d, a, b with
  | some d, some (.lst ds), some (.int k) => if 0 ≤ k ∧ k < ds.length then .nx (ρ.set i (.lst (ds.set k.toNat d))) else .bad
  | _, _, _ => .bad
def dIxSet (i : Nat) (fk fv : DFn) : SFn := fun ρ => ixK i (fv ρ) ρ[i]? (fk ρ) ρ
theorem reps_set {c : Ct} {H : Hp} : ∀ {xs : List V} {ds : List D} {i : Nat} {x : V} {d : D}, Reps c H xs ds → Rep c H x d → Reps c H (xs.set i x) (ds.set i d)
  | _, _, _, _, _, .nil, _ => .nil
  | _, _, 0, _, _, .cons r t, h => .cons h t
  | _, _, i + 1, _, _, .cons r t, h => .cons r (reps_set t h)
/-- xs[k] = v, of a list of one's own -/
theorem pds_ixset (i : Nat) (hb : PDE X ca Γ b mb fb) (he : PDE X ca Γ e .s fe) (hm : Γ[i]? = some .f := by rfl) (hi : X.N[i]? = some x := by rfl) (hv : Vis X.env.scope x := by first | exact Or.inl rfl | exact Or.inr (Or.inl rfl) | exact Or.inr (Or.inr rfl)) (hd : (x == ("__debug__" : Str)) = false := by decide) (hcd : (x == ("__classdict__" : Str)) = false := by decide)
    (hs : swapsWith e (some (.Subscript (.Name x p) b pos')) pos.line X.env = pure false := by rfl) : PDS X ca W J Γ (.Assign [.Subscript (.Name x p) b pos'] e pos) Γ (dIxSet i fb fe) := by
  obtain ⟨t, p1, q1⟩ := hb
  obtain ⟨u, p2, q2⟩ := he
  refine ⟨_, ps_ixset p2 (pe_var (i := i) hi hv hd hcd) p1 hs, fun B S0 M L σ H ρ N E pp => ?_⟩
  unfold dIxSet at pp
  cases h1 : fe ρ with
  | none => rw [h1] at pp; exact pp.elim
  | some d =>
    cases h2 : ρ[i]? with
    | none => rw [h1, h2] at pp; exact pp.elim
    | some a0 =>
      cases a0 with
      | lst ds =>
        cases h3 : fb ρ with
        | none => rw [h1, h2, h3] at pp; exact pp.elim
        | some k0 =>
          cases k0 with
          | int k =>
            rw [h1, h2, h3] at pp
            have pp' : Post ⟨X.K, ca⟩ B S0 M J W Γ N (if 0 ≤ k ∧ k < ds.length then .nx (ρ.set i (.lst (ds.set k.toNat d))) else .bad) := pp
            split at pp'
            · rename_i hk
              refine q2 B S0 M L σ H ρ E d h1 _ fun v H1 x1 rv => ?_
              have E1 := E.ext x1
              obtain ⟨q, d0, g1, g2, g3, _⟩ := slot_f E1 hm
              rw [h2] at g3
              cases g3
              refine ⟨_, g2, ?_⟩
              refine q1 B S0 M L σ H1 ρ E1 _ h3 _ fun w H2 x2 rk => ?_
              have E2 := E1.ext x2
              obtain ⟨q', d1, g1', g2', g3', ho⟩ := slot_f E2 hm
              rw [g2] at g2'
              cases g2'
              rw [h2] at g3'
              cases g3'
              have rv2 : Rep ⟨X.K, ca⟩ (hide (Msk M L) H2) v d := VR.mono (m := .s) (B := B) (M := M) (L := L) x2 rv
              obtain ⟨xs, j1, j2⟩ := ho.flat_lst
              have ew := (rk.rep E2.eb).int_inv
              subst ew
              refine ⟨q, xs, k, rfl, rfl, j1, hk.1, by rw [j2.length]; exact hk.2, ?_⟩
              exact pp' L σ _ (E2.relist hm g1 g2 (reps_set j2 rv2))
            · exact pp'.elim
          | _ => rw [h1, h2, h3] at pp; exact pp.elim
      | _ => rw [h1, h2] at pp; exact pp.elim
end
end DL

/-! DL: dict(pairs) with keys that are tuples; list(d); <= of tuples; isinstance of one's own classes. -/
namespace DL
open PySem PySem.Spec PyProof.Rows L2
section
variable {X : Cx}
theorem pairs_ofT {pins : List (Addr × Obj)} {σ : L2.St} {H : Hp} {s : Shared} (I : Inv X pins σ H s) : ∀ {ps : List Addr} {kvs : List (List Key × V)}, Paired (fun p kv => ∃ b, H b = some (.tup (kv.1.map kV)) ∧ SqT X.K H p [.ref b, kv.2]) ps kvs →
    ∃ xs : List (List Key × Addr × Value), Paired (fun (p : List Key × V) (q : List Key × Addr × Value) => p.1 = q.1 ∧ H q.2.1 = some (.tup (p.1.map kV)) ∧ RelV p.2 q.2.2) kvs xs ∧ xs.length = ps.length ∧ ∀ (j : Nat) (q : List Key × Addr × Value), xs[j]? = some q → ∃ b : Addr, ps[j]? = some b ∧ IsTup s.heap b #[.ref q.2.1, q.2.2]
  | _, _, .nil => ⟨[], .nil, rfl, fun j q e => by simp at e⟩
  | _, _, .cons (a := p) (b := kv) h t => by
    obtain ⟨xs, r, hl, hp⟩ := pairs_ofT I t
    obtain ⟨b, hb, h⟩ := h
    obtain ⟨its, rv, ht, _⟩ := I.tuple h
    obtain ⟨u, y, ei, ru, ry⟩ := vals2 rv
    subst ei
    cases ru
    refine ⟨(kv.1, b, y) :: xs, .cons ⟨rfl, hb, ry⟩ r, by rw [List.length_cons, List.length_cons, hl], fun j q e => ?_⟩
    cases j with
    | zero =>
      have e' : (kv.1, b, y) = q := Option.some.inj e
      subst e'
      exact ⟨p, rfl, ht⟩
    | succ j =>
      obtain ⟨b', e1, e2⟩ := hp j q (by simpa using e)
      exact ⟨b', by simpa using e1, e2⟩
/-- dict(xs) of a list of pairs (tuple, value), the keys unlike -/
theorem call_dictPT (hu : X.A.units + 3 < cLine) (hcalm : X.calm = true) : CallR X (.type "dict") (fun xs H Q => ∃ (a : Addr) (ps : List Addr) (kvs : List (List Key × V)), xs = [.ref a] ∧ SqL X.K H a (ps.map V.ref) ∧
    Paired (fun p kv => ∃ b, H b = some (.tup (kv.1.map kV)) ∧ SqT X.K H p [.ref b, kv.2]) ps kvs ∧ (kvs.map (·.1)).Nodup ∧ ∀ p, H p = none → Q (.ref p) (upd H p (.dT kvs))) := by
  intro pins s σ H xs us Q I r q
  obtain ⟨a, ps, kvs, ex, hq, hp, hnd, q⟩ := q
  subst ex
  obtain ⟨u, eu, rx⟩ := vals1 r
  subst eu
  cases rx
  obtain ⟨its, rv, pl, hz⟩ := I.list hq
  have ei := refs_at rv
  subst ei
  rw [List.length_map] at hz
  obtain ⟨ks, rel, hl, hpr⟩ := pairs_ofT I hp
  obtain ⟨o, n, ho, hc, hd, hdat⟩ := pl
  have hlk : kvs.length = ks.length := Paired.length rel
  have ekeys : ks.map (·.1) = kvs.map (·.1) := by
    clear hpr hl hp hnd hlk q
    induction rel with
    | nil => rfl
    | cons h _ ih => rw [List.map_cons, List.map_cons, ih, h.1]
  have hnk : (ks.map (·.1)).Nodup := by rw [ekeys]; exact hnd
  have P := PairArg.list (prog := X.prog) (w := X.w) a ((ps.map Value.ref).toArray) (fun j => ps.getD j 0) (ks.map fun q => (Value.ref q.2.1, q.2.2))
  have hitems : PairItems s.heap ((ps.map Value.ref).toArray) (fun j => ps.getD j 0) (ks.map fun q => (Value.ref q.2.1, q.2.2)) := by
    refine ⟨by rw [List.size_toArray, List.length_map, List.length_map, hl], fun j k v e => ?_⟩
    rw [List.getElem?_map] at e
    obtain ⟨q', e1, e2⟩ := Option.map_eq_some_iff.mp e
    cases e2
    obtain ⟨b, b1, b2⟩ := hpr j q' e1
    refine ⟨?_, .inl ?_⟩
    · rw [List.getElem?_toArray, List.getElem?_map, b1]
      show some (Value.ref b) = some (Value.ref (ps.getD j 0))
      rw [List.getD_eq_getElem?_getD, b1]
      rfl
    · show s.heap.IsTuple (ps.getD j 0) _
      rw [List.getD_eq_getElem?_getD, b1]
      exact b2
  have hhave : PairsHaveH (tupleKind (mixKind X.prog X.w)) (ks.map fun q => (Value.ref q.2.1, q.2.2)).length (PairRel (ks.map fun q => (Value.ref q.2.1, q.2.2))) ks := by
    refine ⟨by rw [List.length_map], fun i key v e => ?_⟩
    have e : (ks.map fun q => (Value.ref q.2.1, q.2.2))[i]? = some (key, v) := e
    rw [List.getElem?_map] at e
    obtain ⟨q', e1, e2⟩ := Option.map_eq_some_iff.mp e
    cases e2
    exact ⟨q'.1, q'.2.1, e1, rfl⟩
  have hstay : KeysStay (tupleKind (mixKind X.prog X.w)) s.heap s.heap.objs.size [] ks := by
    intro h' hk x hx
    obtain ⟨p, hp'⟩ : ∃ p : List Key × V, p.1 = x.1 ∧ H x.2.1 = some (.tup (p.1.map kV)) := by
      clear hl hpr hhave hitems P hnk ekeys hnd hp hlk q
      induction rel with
      | nil => exact nomatch hx
      | cons h _ ih =>
        rcases List.mem_cons.mp hx with e | e
        · subst e
          exact ⟨_, h.1, h.2.1⟩
        · exact ih e
    obtain ⟨o', items, n', h1, h2, h3, h4⟩ := key_of (P := X.prog) (w := X.w) I.hok hp'.2
    rw [hp'.1] at h4
    exact ⟨o', items, n', hk _ _ (Nat.ne_of_lt (Heap.lt_size h1)) (by simp) h1, h2, h3, h4⟩
  refine call_dict_pairsH (ps := ks) P (I.ok.hd hcalm) ?_ ⟨⟨o, n, ho, hc, hd, hdat⟩, hitems⟩ hhave hstay (by rw [List.length_map]; omega) fun h' tk hd' k => ?_
  · show X.A.units + 1 + 1 < cLine
    omega
  · have hm : (s.heap.objs.size == sysModules) = false := beq_eq_false_iff_ne.mpr (Nat.ne_of_gt I.big)
    rw [storedAllH_nil_of_nodup ks hnk] at hd'
    obtain ⟨o', es, ep, h1, h2, h3, h4, _, h5⟩ := hd'
    have fr := I.hok.fresh (Nat.le_refl _)
    refine ⟨.ref s.heap.objs.size, upd H s.heap.objs.size (.dT kvs), I.laid (t' := tk) (fun b o e => k b o (by simp) e) (Nat.le_refl _) ?_, rfl, q _ fr⟩
    refine (show ObjOk X.prog X.w _ _ _ (.dT kvs) from ⟨by rw [hlk]; omega, hm, ks, L2.Paired.mapP rel fun p q' ⟨e1, e2, e3⟩ => ⟨e1, ?_, e3⟩, o', es, ep, h1, h2, h3, h4, h5⟩)
    rw [upd_ne (ne_of_none e2 fr)]
    exact e2
end
def asPairs : List D → Option (List (List Int × D))
  | [] => some []
  | .tup [k, v] :: ds => (asT k).bind fun ns => (asPairs ds).map ((ns, v) :: ·)
  | _ :: _ => none
def gDictP (a : D) : Option D := ((lstOf a).bind asPairs).bind fun kvs => if (kvs.map (·.1)).Nodup then some (.dT kvs) else none
theorem pairs_reps {c : Ct} {S H : Hp} (x : Ex S H) : ∀ {xs : List V} {ds : List D} {kvs : List (List Int × D)}, Reps c S xs ds → asPairs ds = some kvs →
    ∃ (ps : List Addr) (es : List (List Key × V)), xs = ps.map V.ref ∧ Paired (fun p (kv : List Key × V) => ∃ b, H b = some (.tup (kv.1.map kV)) ∧ SqT c.K H p [.ref b, kv.2]) ps es ∧ KVs c S eT es kvs
  | _, _, _, .nil, h => by cases h; exact ⟨[], [], rfl, .nil, .nil⟩
  | _, _, _, .cons (d := d) r rs, h => by
    unfold asPairs at h
    split at h
    · rename_i e
      cases e
    · rename_i k v ds' e
      cases e
      obtain ⟨ns, e1, h⟩ := bind_some h
      obtain ⟨kvs', e2, h⟩ := Option.map_eq_some_iff.mp h
      subst h
      obtain ⟨ps, es, h1, h2, h3⟩ := pairs_reps x rs e2
      subst h1
      cases r with
      | @tup aa _ _ hr rr =>
        cases rr with
        | cons rk rr =>
          cases rr with
          | @cons y _ _ _ rv rr =>
            cases rr
            obtain ⟨b, rfl, hb⟩ := rk.key e1
            exact ⟨aa :: ps, (eT ns, y) :: es, rfl, .cons ⟨b, x _ _ hb, SqT.of (x _ _ hr)⟩ h2, .cons rv h3⟩
    · cases h
theorem KVs.keysE {c : Ct} {S : Hp} : ∀ {es : List (List Key × V)} {kvs : List (List Int × D)}, KVs c S eT es kvs → es.map (·.1) = (kvs.map (·.1)).map eT
  | _, _, .nil => rfl
  | _, _, .cons _ r => by rw [List.map_cons, List.map_cons, List.map_cons, r.keysE]
section
variable {X : Cx} {ca : Cl → Addr} {Γ : List Md} {pos p : Pos} {a b e : Expr} {ma mb : Vm} {fa fb : DFn}
/-- dict(list of pairs (tuple, value)) -/
theorem pd_dictP {k : Nat} (hr : Room k X.A) (ha : PDE X ca Γ a .s fa) (hm : X.mg "dict" = none) (hg : Gl X "dict" := by rfl) (hc : X.calm = true := by rfl)
    (he : starEach (a :: []) X.env = (false, eval a X.env) :: starEach [] X.env := by rfl) (hpl : (backTo pos (starEach [] X.env)).any (·.1) = false := by rfl) : PDN X ca Γ (.Call (.Name "dict" p) [a] [] pos) (d1 gDictP fa) := by
  obtain ⟨t, pa, q⟩ := ha
  have hu : X.A.units + 3 < cLine := by have := hr.units; omega
  refine ⟨_, pe_callTy (call_dictPT hu hc) hg hm (by decide +kernel) (pa_cons pa pa_nil he) (by decide) (by decide) he hpl, fun B S0 M L σ H ρ E d hd Q k => ?_⟩
  obtain ⟨x, e1, hd⟩ := bind_some hd
  obtain ⟨kvs, e2, hd⟩ := bind_some hd
  obtain ⟨ds, e3, e2⟩ := bind_some e2
  obtain ⟨hnd, hd⟩ := ite_some hd
  cases hd
  refine q B S0 M L σ H ρ E x e1 _ fun v H1 x1 rv => ?_
  obtain ⟨p', xs, rfl, hsq, rs⟩ := lst_in (S := hide (Msk M L) H1) rv e3
  obtain ⟨ps, es, rfl, h2, h3⟩ := pairs_reps hide_ex rs e2
  refine ⟨p', ps, es, rfl, hsq H1 hide_ex, h2, ?_, fun pp hp => ?_⟩
  · rw [h3.keysE]
    exact (List.pairwise_map).mpr (hnd.imp fun h z => h (eT_inj _ _ z))
  · refine k pp _ (x1.trans (Ex.new hp)) (x1.free hp) ?_
    refine KVs.ownT (es := es) (h3.mono (hide_le fun b u h e => ⟨fun z => ?_, (upd_ne (ne_of_none e hp)).trans e⟩)) upd_same
    rcases z with z | z
    · exact h z
    · rw [z, hp] at e
      exact (nomatch e)
def gKeysD (a : D) : Option D := match a with
  | .dT kvs => some (.lst (kvs.map fun kv => .tup (kv.1.map .int)))
  | _ => none
theorem flats_keys : ∀ ks : List (List Int × D), flats (ks.map fun kv => D.tup (kv.1.map .int)) = true
  | [] => by rw [List.map_nil, flats]
  | k :: ks => by
    rw [List.map_cons, flats, flats_keys ks, flat]
    have : ∀ ns : List Int, flats (ns.map .int) = true := fun ns => by
      induction ns with
      | nil => rw [List.map_nil, flats]
      | cons n ns ih => rw [List.map_cons, flats, ih, flat]; rfl
    rw [this]
    rfl
theorem reps_intsH {c : Ct} {H : Hp} : ∀ ns : List Int, Reps c H (ns.map V.int) (ns.map D.int)
  | [] => .nil
  | n :: ns => .cons (.int n) (reps_intsH ns)
theorem reps_keys {c : Ct} {S H : Hp} : ∀ {es : List (List Key × V)} {kvs : List (List Int × D)} {bs : List Addr}, KVs c S eT es kvs → IsKeys H es bs → Reps c H (bs.map V.ref) (kvs.map fun kv => D.tup (kv.1.map .int))
  | _, _, _, .nil, h => by cases h; exact .nil
  | _, _, _, .cons (k := k) r t, h => by
    cases h with
    | cons h1 h2 =>
      refine .cons (.tup (xs := k.map V.int) ?_ (reps_intsH k)) (reps_keys t h2)
      rw [h1]
      show some (HO.tup ((eT k).map kV)) = _
      unfold eT
      rw [List.map_map]
      rfl
/-- list(d) of a dict with keys that are tuples: its keys -/
theorem pd_keysD (ha : PDE X ca Γ a ma fa) (hm : X.mg "list" = none) (hg : Gl X "list" := by rfl) (hc : X.calm = true := by rfl)
    (he : starEach (a :: []) X.env = (false, eval a X.env) :: starEach [] X.env := by rfl) (hpl : (backTo pos (starEach [] X.env)).any (·.1) = false := by rfl) : PDN X ca Γ (.Call (.Name "list" p) [a] [] pos) (d1 gKeysD fa) := by
  obtain ⟨t, pa, q⟩ := ha
  refine ⟨_, pe_callTy (call_list_dT hc) hg hm (by decide +kernel) (pa_cons pa pa_nil he) (by decide) (by decide) he hpl, fun B S0 M L σ H ρ E d hd Q k => ?_⟩
  obtain ⟨x, e1, hd⟩ := bind_some hd
  cases x with
  | dT kvs =>
    cases hd
    refine q B S0 M L σ H ρ E _ e1 _ fun v H1 x1 rv => ?_
    have E1 := E.ext x1
    obtain ⟨S, dr, _⟩ := VR.dictR E1 rv rfl
    obtain ⟨a', es, rfl, h1, h2⟩ := dr
    refine ⟨a', es, rfl, .inl h1, fun pp bs hp hk => ?_⟩
    refine k pp _ (x1.trans (Ex.new hp)) (x1.free hp) (.lst upd_same (Owns.sh (reps_updN hp ?_)))
    exact Reps.flat E1 (reps_keys h2 hk) (flats_keys kvs)
  | _ => cases hd
/-- the order of tuples of ints -/
def leTB (ns ms : List Int) : Bool := Ob.lexAt (fun j => decide (ns.getD j 0 = ms.getD j 0)) (fun j => decide (ns.getD j 0 ≤ ms.getD j 0)) (decide (ns.length ≤ ms.length)) 0 (min ns.length ms.length)
def gLeT (a b : D) : Option D := (asT a).bind fun ns => (asT b).bind fun ms => some (.bl (leTB ns ms))
theorem Rep.tupI {c : Ct} {H : Hp} {v : V} {d : D} {ns : List Int} (r : Rep c H v d) (e : asT d = some ns) : ∃ b, v = .ref b ∧ SqT c.K H b (ns.map V.int) := by
  obtain ⟨b, h1, h2⟩ := r.key e
  refine ⟨b, h1, SqT.of ?_⟩
  rw [h2]
  unfold eT
  rw [List.map_map]
  rfl
theorem og_leT {k : Nat} (hr : Room k X.A) : OG X ca .LtE gLeT := ⟨_, op_leT (Nat.lt_of_le_of_lt (Nat.le_add_right _ _) hr.units), fun H x y a b d rx ry e => by
  obtain ⟨ns, e1, e⟩ := bind_some e
  obtain ⟨ms, e2, e⟩ := bind_some e
  cases e
  obtain ⟨a', rfl, h1⟩ := rx.tupI e1
  obtain ⟨b', rfl, h2⟩ := ry.tupI e2
  exact ⟨_, .bl _, fun Q q => ⟨a', b', ns, ms, rfl, rfl, h1, h2, q⟩⟩⟩
/-! ### isinstance of a class of one's own -/
def insB (K : PySem.W.Frag) (C : Addr) : Bool := decide (PySem.W.findIn K (.ref C) "__class__" = some (some (.builtin "object.__class__"))) && (decide (PySem.W.specialIn K (.builtin "object.__class__") "__get__" = some (some (.builtin "getset_descriptor.__get__"))) &&
  (decide (PySem.W.takesIn K (.builtin "object.__class__") = some true) && (decide (PySem.W.mroIn K C (.type "object") = some true) && decide (PySem.W.kitOne K (.ref C) (.ref C) = some true))))
theorem insB_ok {K : PySem.W.Frag} {C : Addr} (c : Cls K C) (h : insB K C = true) : C8.InsC K C := by
  unfold insB at h
  simp only [Bool.and_eq_true, decide_eq_true_eq] at h
  exact ⟨c, h.1, h.2.1, h.2.2.1, h.2.2.2.1, h.2.2.2.2⟩
def gIsO (k : Cl) (a : D) : Option D := match a with
  | .obj k' _ => if k' = k then some (.bl true) else none
  | _ => none
theorem pd_isO (k : Cl) {y : Str} {p2 : Pos} (hC : C8.InsC X.K (ca k)) (ha : PDE X ca Γ a ma fa) (hm : X.mg "isinstance" = none) (hy : X.mg y = some (.ref (ca k))) (hg : Gl X "isinstance" := by rfl) (hgy : Gl X y := by rfl) (hdy : (y == ("__debug__" : Str)) = false := by decide)
    (he : starEach [a, .Name y p2] X.env = (false, eval a X.env) :: starEach [.Name y p2] X.env := by rfl) (he2 : starEach [.Name y p2] X.env = (false, eval (.Name y p2) X.env) :: starEach [] X.env := by rfl) (hpl : (backTo pos (starEach [.Name y p2] X.env)).any (·.1) = false := by rfl) :
    PDE X ca Γ (.Call (.Name "isinstance" p) [a, .Name y p2] [] pos) .s (d1 (gIsO k) fa) := by
  obtain ⟨t, pa, q⟩ := ha
  refine ⟨_, pe_callB (C8.call_isC hC) hg hm (by decide +kernel) (pa_cons pa (pa_cons (pe_glob hgy hy (v := .ref (ca k)) rfl hdy) pa_nil he2) he) (by decide) (by decide) he hpl, fun B S0 M L σ H ρ E d hd Q kk => ?_⟩
  obtain ⟨x, e1, hd⟩ := bind_some hd
  cases x with
  | obj k' fs =>
    obtain ⟨hk, hd2⟩ := ite_some (show (if k' = k then some (D.bl true) else none) = some d from hd)
    subst hk
    have hd2 := Option.some.inj hd2
    subst hd2
    refine q B S0 M L σ H ρ E _ e1 _ fun v H1 x1 rv => ?_
    have r1 := rv.rep (E.eb.trans x1)
    cases r1 with
    | obj h r => exact ⟨_, _, _, rfl, h, kk _ H1 x1 (.bl true)⟩
  | _ => cases hd
end
end DL

/-! DL: dicts whose keys are tuples: d == e of equal ones, dict(d). -/
namespace DL
open PySem PySem.Spec PyProof.Rows L2 PySem.Calls PyProof.V
section
variable {prog : Program} {w : World} {K : Type} [DecidableEq K] {knd : HeapKind prog w K} {A : Around} {E : Value → Shared → Prop} {s : Shared}
/-- two dicts of one content -/
theorem samePairsT {nm : String} {a b : Addr} {xs ys : List (K × Addr × Value)} {Q : Bool → Shared → Prop} (ha : (a == sysModules) = false) (hb : (b == sysModules) = false)
    (da : s.heap.DictOfH knd a xs) (db : s.heap.DictOfH knd b ys) (hu : knd.room A) (hl : xs.length = ys.length)
    (hits : ∀ x ∈ xs, ∃ (j : Nat) (a' : Addr) (y : Value), ys[j]? = some (x.1, a', y) ∧ SeqAt.EqP prog w A s x.2.2 y true) (h : Q true s) :
    wpAny (model prog w) A (Builtin.Dict.samePairs nm a b) Q E s := by
  obtain ⟨oa, es, ep, hoa, _, hda, hea, hia, _⟩ := da
  obtain ⟨ob, es', ep', hob, _, hdb, heb, hib, hnb⟩ := db
  have hla : es.size = xs.length := size_of_entries hea
  have hlb : es'.size = ys.length := size_of_entries heb
  have hsz : es.size = es'.size := by omega
  unfold Builtin.Dict.samePairs Builtin.Dict.showsAll
  rw [if_neg (show ¬ (a == sysModules) = true by rw [ha]; exact Bool.false_ne_true), if_neg (show ¬ (b == sysModules) = true by rw [hb]; exact Bool.false_ne_true)]
  refine wpAny_bind (wpAny_pure (wpAny_bind (wpAny_pure ?_)))
  refine wpAny_bind (wpAny_dictEntries hoa hda ?_)
  dsimp only
  refine wpAny_bind (wpAny_dictEntries hob hdb ?_)
  rw [if_neg (by rw [hsz]; simp)]
  refine wpAny_bind (wpAny_dictEpoch hoa hda ?_)
  refine wpAny_bind ?_
  rw [Std.Legacy.Range.forIn_eq_forIn_range']
  simp only [Std.Legacy.Range.size, Nat.sub_zero, Nat.add_sub_cancel, Nat.div_one]
  refine wpAny_forIn_list _
    (fun rest q s' => s' = s ∧ q = (none, ()) ∧ ∃ i, rest = List.range' i (es.size - i) ∧ i ≤ es.size)
    _ ?_ ?_ _ _ ⟨rfl, rfl, 0, by simp, Nat.zero_le _⟩
  · rintro x rest q s' ⟨rfl, rfl, i, hr, hi⟩
    have hlt : i < es.size := by
      rcases Nat.lt_or_ge i es.size with h | h
      · exact h
      · rw [Nat.sub_eq_zero_of_le h] at hr; simp at hr
    obtain ⟨rfl, hrest⟩ : x = i ∧ rest = List.range' (i + 1) (es.size - (i + 1)) := by
      have e : es.size - i = (es.size - (i + 1)) + 1 := by omega
      rw [e, List.range'_succ] at hr
      injection hr with h1 h2
      exact ⟨h1, h2⟩
    have hltx : x < xs.length := by omega
    have hex : es[x] = entryOfKey knd xs[x] := by
      have := entry_at hea x
      rw [Array.getElem?_eq_getElem hlt, List.getElem?_eq_getElem hltx] at this
      exact Option.some.inj this
    obtain ⟨j, a', y, hj, heq⟩ := hits xs[x] (List.getElem_mem hltx)
    refine wpAny_bind (wpAny_dictEntries hoa hda ?_)
    rw [Array.getElem?_eq_getElem hlt, hex]
    show wpAny _ _ (holding [Value.ref xs[x].2.1, xs[x].2.2] _ >>= _) _ _ _
    refine wpAny_bind (wpAny_holding (wpAny_bind (wpAny_dictFind_heap hu (hia _ (List.getElem_mem hltx)) hob hdb heb hib hnb (fun hno => absurd hj (hno j _)) fun j' p hj' => ?_)))
    have hjl : j' < es'.size := by
      have := (List.getElem?_eq_some_iff.mp hj').1
      omega
    have ejj : j' = j := by
      have h1 : (ys.map (·.1))[j']? = some xs[x].1 := by rw [List.getElem?_map, hj']; rfl
      have h2 : (ys.map (·.1))[j]? = some xs[x].1 := by rw [List.getElem?_map, hj]; rfl
      rw [← h2] at h1
      exact (List.getElem?_inj (by rw [List.length_map]; omega) hnb).mp h1
    subst ejj
    have hej : es'[j'] = entryOfKey knd (xs[x].1, a', y) := by
      have := entry_at heb j'
      rw [Array.getElem?_eq_getElem hjl, hj] at this
      exact Option.some.inj this
    refine wpAny_bind (wpAny_dictEntries hob hdb ?_)
    rw [Array.getElem?_eq_getElem hjl, hej]
    refine wpAny_holding (heq _ _ ?_)
    show wpAny _ _ (if (!true) = true then _ else _) _ _ _
    rw [if_neg (by decide)]
    refine wpAny_bind (wpAny_dictEpoch hoa hda ?_)
    rw [if_neg (by simp)]
    exact wpAny_pure ⟨rfl, rfl, x + 1, hrest, hlt⟩
  · rintro q s' ⟨rfl, rfl, i, hr, hi⟩
    exact wpAny_pure h
theorem ne_dictsT {a b : Addr} {xs ys : List (K × Addr × Value)} {Q : Value → Shared → Prop} (ha : (a == sysModules) = false) (hb : (b == sysModules) = false)
    (da : s.heap.DictOfH knd a xs) (db : s.heap.DictOfH knd b ys) (hu : A.units < cLine) (hr : knd.room A.in1) (hl : xs.length = ys.length)
    (hits : ∀ x ∈ xs, ∃ (j : Nat) (a' : Addr) (y : Value), ys[j]? = some (x.1, a', y) ∧ SeqAt.EqP prog w A.in1 s x.2.2 y true) (h : Q (.bool false) s) : wpAny (model prog w) A (compareOp .NotEq (.ref a) (.ref b)) Q E s := by
  refine wpAny_richCompare_same_room (op := .NotEq) da.typeIs db.typeIs PySem.F.slot_dict_ne (wpAny_call_entry PySem.F.slot_dict_ne da.typeIs PySem.F.entry_dict_ne ?_ (PySem.F.args_dict_ne_2 _ _)) hu
  show wpAny _ _ (Builtin.Dict.dictSlotArgs "__ne__" ⟨[.ref a, .ref b], []⟩ >>= _) _ _ s
  refine wpAny_bind ?_
  unfold Builtin.Dict.dictSlotArgs
  refine wpAny_bind (wpAny_notOrdered_dict da.typeIs ?_)
  show wpAny _ _ (pure (Value.ref a, Value.ref b)) _ _ s
  refine wpAny_pure ?_
  refine wpAny_bind (wpAny_isInstance (T := "dict") db.typeIs PySem.F.sub_dict_dict ?_)
  simp only [Bool.not_true, Bool.false_eq_true, if_false]
  refine wpAny_bind (wpAny_pure (wpAny_bind (wpAny_pure ?_)))
  refine wpAny_bind (samePairsT ha hb da db hr hl hits ?_)
  refine wpAny_pure ⟨_, rfl, ?_, ?_⟩
  · exact fun x => nomatch x
  · simpa using h
end
theorem paired_get {α β : Type} {F : α → β → Prop} : ∀ {xs : List α} {ys : List β}, Paired F xs ys → ∀ {i : Nat} {y : β}, ys[i]? = some y → ∃ x, xs[i]? = some x ∧ F x y
  | _, _, .nil, i, y, h => by simp at h
  | _, _, .cons h t, 0, y, e => by cases e; exact ⟨_, rfl, h⟩
  | _, _, .cons h t, i + 1, y, e => paired_get t (i := i) e
theorem paired_get' {α β : Type} {F : α → β → Prop} : ∀ {xs : List α} {ys : List β}, Paired F xs ys → ∀ {i : Nat} {x : α}, xs[i]? = some x → ∃ y, ys[i]? = some y ∧ F x y
  | _, _, .nil, i, y, h => by simp at h
  | _, _, .cons h t, 0, y, e => by cases e; exact ⟨_, rfl, h⟩
  | _, _, .cons h t, i + 1, y, e => paired_get' t (i := i) e
def rNeT : R2 := fun x y H Q => ∃ (a b : Addr) (es fs : List (List Key × V)), x = .ref a ∧ y = .ref b ∧ H a = some (.dT es) ∧ H b = some (.dT fs) ∧ es.length = fs.length ∧ (∀ p ∈ es, flatB p.2 = true ∧ p ∈ fs) ∧ Q (.bl false) H
section
variable {X : Cx}
theorem op_neT (hu : X.A.units + 1 < cLine) : OpR X (compareOp .NotEq) rNeT := by
  intro pins s σ H x y v u Q I rx ry h
  obtain ⟨a, b, es, fs, rfl, rfl, h1, h2, hl, hp, q⟩ := h
  cases rx
  cases ry
  obtain ⟨_, ya, xs, ra, da⟩ := dt_of (P := X.prog) (w := X.w) I.hok h1
  obtain ⟨_, yb, ys, rb, db⟩ := dt_of (P := X.prog) (w := X.w) I.hok h2
  refine ne_dictsT ya yb da db (by omega) (tupleKind_room_in1 hu) (by rw [← Paired.length ra, ← Paired.length rb]; exact hl) (fun x hx => ?_) ⟨.bl false, H, I, rfl, q⟩
  obtain ⟨i, hi⟩ := List.mem_iff_getElem?.mp hx
  obtain ⟨p, hpi, e1, e2, e3⟩ := paired_get ra hi
  obtain ⟨hf, hm⟩ := hp p (List.mem_of_getElem? hpi)
  obtain ⟨j, hj⟩ := List.mem_iff_getElem?.mp hm
  obtain ⟨y, hy, f1, f2, f3⟩ := paired_get' rb hj
  obtain ⟨yk, ya', yv⟩ := y
  have f1 : p.1 = yk := f1
  refine ⟨j, ya', yv, ?_, (eqAt_same e3 f3 hf).eqP⟩
  rw [hy, ← f1, ← e1]
end
def intOf : D → Option Int
  | .int i => some i
  | _ => none
/-- the same keys, the same numbers -/
def sameT (x y : List (List Int × D)) : Bool := decide (x.length = y.length) && x.all fun p => (intOf p.2).isSome && y.any fun q => decide (q.1 = p.1) && decide (intOf q.2 = intOf p.2)
def gNeT (a b : D) : Option D := match a, b with
  | .dT x, .dT y => if sameT x y = true then some (.bl false) else none
  | _, _ => none
theorem intOf_some {d : D} {i : Int} (h : intOf d = some i) : d = .int i := by
  cases d <;> cases h
  rfl
theorem KVs.memI {c : Ct} {S : Hp} : ∀ {es : List (List Key × V)} {kvs : List (List Int × D)}, KVs c S eT es kvs → ∀ {p : List Key × V}, p ∈ es → ∃ q, q ∈ kvs ∧ p.1 = eT q.1 ∧ Rep c S p.2 q.2
  | _, _, .nil, _, h => nomatch h
  | _, _, .cons r t, p, h => by
    rcases List.mem_cons.mp h with h | h
    · subst h
      exact ⟨_, .head _, rfl, r⟩
    · obtain ⟨q, h1, h2⟩ := t.memI h
      exact ⟨q, .tail _ h1, h2⟩
theorem KVs.memD {c : Ct} {S : Hp} : ∀ {es : List (List Key × V)} {kvs : List (List Int × D)}, KVs c S eT es kvs → ∀ {q : List Int × D}, q ∈ kvs → ∃ p, p ∈ es ∧ p.1 = eT q.1 ∧ Rep c S p.2 q.2
  | _, _, .nil, _, h => nomatch h
  | _, _, .cons r t, q, h => by
    rcases List.mem_cons.mp h with h | h
    · subst h
      exact ⟨_, .head _, rfl, r⟩
    · obtain ⟨p, h1, h2⟩ := t.memD h
      exact ⟨p, .tail _ h1, h2⟩
theorem og_neT {X : Cx} {ca : Cl → Addr} (hu : X.A.units + 1 < cLine) : OG X ca .NotEq gNeT := ⟨_, op_neT hu, fun H x y a b d rx ry e => by
  unfold gNeT at e
  split at e
  · rename_i k1 k2
    obtain ⟨h, e⟩ := ite_some e
    cases e
    obtain ⟨a', es, rfl, h1, h2⟩ := rx.dT_inv
    obtain ⟨b', fs, rfl, g1, g2⟩ := ry.dT_inv
    unfold sameT at h
    rw [Bool.and_eq_true, decide_eq_true_eq, List.all_eq_true] at h
    refine ⟨_, .bl _, fun Q q => ⟨a', b', es, fs, rfl, rfl, h1, g1, by rw [h2.length, g2.length]; exact h.1, fun p hp => ?_, q⟩⟩
    obtain ⟨q1, m1, m2, m3⟩ := h2.memI hp
    have hq := h.2 q1 m1
    rw [Bool.and_eq_true, Option.isSome_iff_exists, List.any_eq_true] at hq
    obtain ⟨⟨i, hi⟩, q2, n1, n2⟩ := hq
    rw [Bool.and_eq_true, decide_eq_true_eq, decide_eq_true_eq, hi] at n2
    obtain ⟨p2, o1, o2, o3⟩ := g2.memD n1
    have ei := intOf_some hi
    have ej := intOf_some n2.2
    rw [ei] at m3
    rw [ej] at o3
    have v1 := m3.int_inv
    have v2 := o3.int_inv
    obtain ⟨pk, pv⟩ := p
    obtain ⟨pk2, pv2⟩ := p2
    have v1 : pv = V.int i := v1
    have v2 : pv2 = V.int i := v2
    have k1 : pk = eT q1.1 := m2
    have k2 : pk2 = eT q2.1 := o2
    subst v1 v2 k1 k2
    rw [n2.1] at o1
    exact ⟨rfl, o1⟩
  · cases e⟩
section
variable {prog : Program} {w : World} {K : Type} [DecidableEq K] {knd : HeapKind prog w K} {A : Around} {E : Value → Shared → Prop} {s : Shared}
theorem call_dict_dictH {o : Addr} {more : List (K × Addr × Value)} {Q : Value → Shared → Prop} (hu : knd.room A.in1.in1) (hoS : (o == sysModules) = false) (ho : s.heap.DictOfH knd o more) (hsz : more.length ≤ sizeLine)
    (hpush : (s.heap.push { cls := .type "dict", data := .dict #[] }).DictOfH knd o more)
    (hap : (∀ x ∈ more, s.TypeIs (.ref x.2.1) "tuple") ∧ (more.map fun x => knd.hash x.1).Nodup)
    (h : ∀ h', h'.DictOfH knd s.heap.objs.size more → Heap.SameBut s.heap.objs.size (s.heap.push { cls := .type "dict", data := .dict #[] }) h' → Q (.ref s.heap.objs.size) { s with heap := h' }) :
    wpAny (model prog w) A (call (.type "dict") [.ref o]) Q E s := by
  refine callType_codes (Q₁ := fun obj s₁ => obj = .ref s.heap.objs.size ∧ s₁ = { s with heap := s.heap.push { cls := .type "dict", data := .dict #[] } }) PySem.F.kt_called_dict (PySem.F.kt_typeCall_dict_1 _) PySem.F.entry_dict_init (PySem.kt_code_dict_new _ ⟨rfl, rfl⟩) ?_
  rintro obj s₁ ⟨rfl, rfl⟩
  have hnew : (s.heap.push { cls := .type "dict", data := .dict #[] }).DictOfH knd s.heap.objs.size [] := Heap.DictOfH.new s.heap
  have hn := ho.nodup
  have hdo : s.heap.objs.size ≠ o := by
    obtain ⟨_, _, _, hg, _⟩ := ho
    exact fun e => absurd (Heap.lt_size hg) (by rw [e]; exact Nat.lt_irrefl _)
  refine ⟨hnew.typeIs, PySem.F.args_dict_init_2 _ _, ?_⟩
  unfold Builtin.«dict.__init__»
  refine wpAny_bind ?_
  unfold Builtin.Dict.selfAndRest
  refine wpAny_bind (wpAny_notOrdered_dict hnew.typeIs ?_)
  show wpAny _ _ (pure (s.heap.objs.size, [Value.ref o])) _ _ _
  refine wpAny_pure ?_
  show wpAny _ _ (Builtin.Dict.updateFrom "dict.__init__" s.heap.objs.size (.ref o) [] .none) _ _ _
  unfold Builtin.Dict.updateFrom
  refine wpAny_bind (wpAny_typeOf hpush.typeIs ?_)
  rw [if_neg (by decide)]
  refine wpAny_bind ?_
  unfold Builtin.Dict.merge
  refine wpAny_bind ?_
  unfold Builtin.Dict.readDirectly
  refine wpAny_bind (wpAny_isInstance hpush.typeIs isSubtype_dict_dict ?_)
  simp only [Bool.not_true, Bool.false_eq_true, if_false]
  refine wpAny_bind (wpAny_specialOf hpush.typeIs PySem.F.slot_dict_iter.lookup (wpAny_pure ?_))
  simp only [beq_self_eq_true, if_true]
  refine wpAny_bind (wpAny_pure ?_)
  refine wpAny_mergeDict_heap (hsz := by simpa using hsz) hu hdo hoS hnew hpush (.inr ⟨fun x hx => ?_, hap.2⟩) fun h' hd' _ hs' => ?_
  · obtain ⟨ob, e1, e2⟩ := hap.1 x hx
    exact ⟨ob, Heap.get?_push_of_some _ e1, e2⟩
  · show wpAny _ _ (Builtin.Dict.addKeywords s.heap.objs.size [] >>= _) _ _ _
    rw [storedAllH_nil_of_nodup more hn] at hd'
    exact wpAny_bind (wpAny_pure (wpAny_pure ⟨rfl, h h' hd' hs'⟩))
end
/-- dict(d) of a dict whose keys are tuples of unlike hash -/
theorem call_dictDT {X : Cx} (hu : X.A.units + 3 < cLine) : CallR X (.type "dict") (fun xs H Q => ∃ (a : Addr) (kvs : List (List Key × V)), xs = [.ref a] ∧ H a = some (.dT kvs) ∧ (kvs.map fun kv => tupleKeyHash (mixKind X.prog X.w) kv.1).Nodup ∧ ∀ p, H p = none → Q (.ref p) (upd H p (.dT kvs))) := by
  intro pins s σ H xs us Q I r q
  obtain ⟨a, kvs, ex, hd, hnd, q⟩ := q
  subst ex
  obtain ⟨u, eu, rx⟩ := vals1 r
  subst eu
  cases rx
  obtain ⟨z, lo, ks, rel, dd⟩ := dt_of (P := X.prog) (w := X.w) I.hok hd
  have hlk : kvs.length = ks.length := Paired.length rel
  have ekeys : (ks.map fun x => (tupleKind (mixKind X.prog X.w)).hash x.1) = kvs.map fun kv => tupleKeyHash (mixKind X.prog X.w) kv.1 := by
    refine List.ext_getElem? fun i => ?_
    rw [List.getElem?_map, List.getElem?_map]
    cases hk : ks[i]? with
    | none => rw [List.getElem?_eq_none (by have := List.getElem?_eq_none_iff.mp hk; omega)]; rfl
    | some x =>
      obtain ⟨p, hp, e1, _⟩ := paired_get rel hk
      rw [hp]
      show some (tupleKeyHash (mixKind X.prog X.w) x.1) = some (tupleKeyHash (mixKind X.prog X.w) p.1)
      rw [e1]
  have htup : ∀ x ∈ ks, ∃ p : List Key × V, p.1 = x.1 ∧ H x.2.1 = some (.tup (p.1.map kV)) := fun x hx => by
    obtain ⟨i, hi⟩ := List.mem_iff_getElem?.mp hx
    obtain ⟨p, _, e1, e2, _⟩ := paired_get rel hi
    exact ⟨p, e1, e2⟩
  have hpush : (s.heap.push { cls := .type "dict", data := .dict #[] }).DictOfH (tupleKind (mixKind X.prog X.w)) a ks := by
    refine dd.at' (fun o e => Heap.get?_push_of_some _ e) fun y hy => ?_
    obtain ⟨p, e1, e2⟩ := htup y hy
    obtain ⟨o', items, n', h1, h2, h3, h4⟩ := key_of (P := X.prog) (w := X.w) I.hok e2
    rw [e1] at h4
    exact ⟨o', items, n', Heap.get?_push_of_some _ h1, h2, h3, h4⟩
  refine call_dict_dictH (knd := tupleKind (mixKind X.prog X.w)) (by show X.A.units + 1 + 1 < cLine; omega) lo dd (by rw [← hlk]; exact z) hpush ⟨fun x hx => ?_, by rw [ekeys]; exact hnd⟩ fun h' d' hs => ?_
  · obtain ⟨p, e1, e2⟩ := htup x hx
    obtain ⟨o', items, n', h1, h2, _⟩ := key_of (P := X.prog) (w := X.w) I.hok e2
    exact ⟨o', h1, h2⟩
  · have hm : (s.heap.objs.size == sysModules) = false := beq_eq_false_iff_ne.mpr (Nat.ne_of_gt I.big)
    have fr := I.hok.fresh (Nat.le_refl _)
    obtain ⟨o', es, ep, h1, h2, h3, h4, _, h5⟩ := d'
    refine ⟨.ref s.heap.objs.size, upd H s.heap.objs.size (.dT kvs), I.laid (t' := s.toks) (fun b u e => (hs.2 b (Nat.ne_of_lt (Heap.lt_size e))).trans (Heap.get?_push_of_some _ e)) (Nat.le_refl _) ?_, rfl, q _ fr⟩
    refine (show ObjOk X.prog X.w _ _ _ (.dT kvs) from ⟨z, hm, ks, L2.Paired.mapP rel fun p q' ⟨e1, e2, e3⟩ => ⟨e1, ?_, e3⟩, o', es, ep, h1, h2, h3, h4, h5⟩)
    rw [upd_ne (ne_of_none e2 fr)]
    exact e2
/-- the keys: unlike pairs of hands -/
def smallK (kvs : List (List Int × D)) : Bool := decide (kvs.map (·.1)).Nodup && kvs.all fun p => match p.1 with
  | [a, b] => decide (0 ≤ a) && decide (a < 6) && (decide (0 ≤ b) && decide (b < 6))
  | _ => false
def gCopyD (a : D) : Option D := match a with
  | .dT kvs => if smallK kvs = true then some (.dT kvs) else none
  | _ => none
def hP (a b : Int) : Int := reduceHash (Builtin.Tuple.tupleHashOf [hashInt a, hashInt b])
theorem hP_table : ((List.range 36).map fun k : Nat => hP ((k / 6 : Nat) : Int) ((k % 6 : Nat) : Int)).Nodup := by decide +kernel
theorem hP_inj {a b c d : Int} (ha : 0 ≤ a ∧ a < 6) (hb : 0 ≤ b ∧ b < 6) (hc : 0 ≤ c ∧ c < 6) (hd : 0 ≤ d ∧ d < 6) (h : hP a b = hP c d) : a = c ∧ b = d := by
  have t := hP_table
  have key : ∀ x y : Int, 0 ≤ x ∧ x < 6 → 0 ≤ y ∧ y < 6 → ((List.range 36).map fun k : Nat => hP ((k / 6 : Nat) : Int) ((k % 6 : Nat) : Int))[(6 * x + y).toNat]? = some (hP x y) := fun x y hx hy => by
    rw [List.getElem?_map, List.getElem?_range (by omega)]
    show some (hP (((6 * x + y).toNat / 6 : Nat) : Int) (((6 * x + y).toNat % 6 : Nat) : Int)) = _
    rw [show (((6 * x + y).toNat / 6 : Nat) : Int) = x by omega, show (((6 * x + y).toNat % 6 : Nat) : Int) = y by omega]
  have h1 := key a b ha hb
  have h2 := key c d hc hd
  rw [← h] at h2
  rw [← h2] at h1
  have := (List.getElem?_inj (by rw [List.length_map, List.length_range]; omega) t).mp h1
  omega
theorem hash_pair {P : Program} {w : World} (a b : Int) : tupleKeyHash (mixKind P w) (eT [a, b]) = hP a b := rfl
theorem small_hash {P : Program} {w : World} {c : Ct} {S : Hp} {es : List (List Key × V)} {kvs : List (List Int × D)} (r : KVs c S eT es kvs) (h : smallK kvs = true) : (es.map fun kv => tupleKeyHash (mixKind P w) kv.1).Nodup := by
  unfold smallK at h
  rw [Bool.and_eq_true, decide_eq_true_eq, List.all_eq_true] at h
  obtain ⟨nd, hs⟩ := h
  have e : (es.map fun kv => tupleKeyHash (mixKind P w) kv.1) = (kvs.map (·.1)).map fun k => tupleKeyHash (mixKind P w) (eT k) := by
    have := r.keysE
    have h2 : (es.map fun kv => tupleKeyHash (mixKind P w) kv.1) = (es.map (·.1)).map fun k => tupleKeyHash (mixKind P w) k := by rw [List.map_map]; rfl
    rw [h2, this, List.map_map, List.map_map, List.map_map]
    rfl
  rw [e, List.nodup_iff_pairwise_ne]
  refine List.pairwise_map.mpr (List.Pairwise.imp_of_mem ?_ (List.nodup_iff_pairwise_ne.mp nd))
  intro x y hx hy hne hh
  obtain ⟨p, hp, rfl⟩ := List.mem_map.mp hx
  obtain ⟨q, hq, rfl⟩ := List.mem_map.mp hy
  have h1 := hs p hp
  have h2 := hs q hq
  obtain ⟨pk, pv⟩ := p
  obtain ⟨qk, qv⟩ := q
  match pk, qk, h1, h2, hne, hh with
  | [a, b], [c, d], h1, h2, hne, hh =>
    have h1 : (decide (0 ≤ a) && decide (a < 6) && (decide (0 ≤ b) && decide (b < 6))) = true := h1
    have h2 : (decide (0 ≤ c) && decide (c < 6) && (decide (0 ≤ d) && decide (d < 6))) = true := h2
    simp only [Bool.and_eq_true, decide_eq_true_eq] at h1 h2
    rw [hash_pair, hash_pair] at hh
    have := hP_inj h1.1 h1.2 h2.1 h2.2 hh
    exact hne (by rw [this.1, this.2])
section
variable {X : Cx} {ca : Cl → Addr} {Γ : List Md} {pos p : Pos} {a b e : Expr} {ma mb : Vm} {fa fb : DFn}
/-- dict(d): a copy -/
theorem pd_copyD {k : Nat} (hr : Room k X.A) (ha : PDE X ca Γ a ma fa) (hm : X.mg "dict" = none) (hma : ma = .s ∨ ma = .f := by first | exact .inl rfl | exact .inr rfl) (hg : Gl X "dict" := by rfl)
    (he : starEach (a :: []) X.env = (false, eval a X.env) :: starEach [] X.env := by rfl) (hpl : (backTo pos (starEach [] X.env)).any (·.1) = false := by rfl) : PDN X ca Γ (.Call (.Name "dict" p) [a] [] pos) (d1 gCopyD fa) := by
  obtain ⟨t, pa, q⟩ := ha
  have hu : X.A.units + 3 < cLine := by have := hr.units; omega
  refine ⟨_, pe_callTy (call_dictDT hu) hg hm (by decide +kernel) (pa_cons pa pa_nil he) (by decide) (by decide) he hpl, fun B S0 M L σ H ρ E d hd Q k => ?_⟩
  obtain ⟨x, e1, hd⟩ := bind_some hd
  cases x with
  | dT kvs =>
    obtain ⟨hs, hd⟩ := ite_some (show (if smallK kvs = true then some (D.dT kvs) else none) = some d from hd)
    cases hd
    refine q B S0 M L σ H ρ E _ e1 _ fun v H1 x1 rv => ?_
    have E1 := E.ext x1
    have key : ∀ es : List (List Key × V), KVs ⟨X.K, ca⟩ (hide (Msk M L) H1) eT es kvs → ∀ pp, H1 pp = none → Own ⟨X.K, ca⟩ (hide (fun a => Msk M L a ∨ a = pp) (upd H1 pp (.dT es))) (upd H1 pp (.dT es)) [pp] (.ref pp) (.dT kvs) := fun es h pp hp =>
      KVs.ownT (es := es) (h.mono (hide_le fun b u h e => ⟨fun z => by
        rcases z with z | z
        · exact h z
        · rw [z, hp] at e
          exact (nomatch e), (upd_ne (ne_of_none e hp)).trans e⟩)) upd_same
    rcases hma with rfl | rfl
    · obtain ⟨a', es, rfl, h1, h2⟩ := Rep.dT_inv (show Rep ⟨X.K, ca⟩ (hide (Msk M L) H1) v (.dT kvs) from rv)
      exact ⟨a', es, rfl, (hide_of h1).2, small_hash h2 hs, fun pp hp => k pp _ (x1.trans (Ex.new hp)) (x1.free hp) (key es h2 pp hp)⟩
    · obtain ⟨a', rfl, ho, _⟩ := rv
      obtain ⟨es, h1, h2⟩ := ho.dT_inv
      exact ⟨a', es, rfl, h1, small_hash h2 hs, fun pp hp => k pp _ (x1.trans (Ex.new hp)) (x1.free hp) (key es h2 pp hp)⟩
  | _ => cases hd
end
end DL

/-! DL: xs.append(xs.pop(i)). -/
namespace DL
open PySem PySem.Spec PyProof.Rows L2
theorem vals_erase : ∀ {xs : List V} {us : List Value} (i : Nat), Vals xs us → Vals (xs.eraseIdx i) (us.eraseIdx i)
  | _, _, _, .nil => .nil
  | _, _, 0, .cons r t => t
  | _, _, i + 1, .cons r t => .cons r (vals_erase i t)
theorem reps_erase {c : Ct} {H : Hp} : ∀ {xs : List V} {ds : List D} (i : Nat), Reps c H xs ds → Reps c H (xs.eraseIdx i) (ds.eraseIdx i)
  | _, _, _, .nil => .nil
  | _, _, 0, .cons r t => t
  | _, _, i + 1, .cons r t => .cons r (reps_erase i t)
def rPopI : V → List V → Hp → VK → Prop := fun x vs H Q => ∃ (l : Addr) (xs : List V) (i : Int) (k : Nat) (y : V), i = (k : Int) ∧ x = .ref l ∧ vs = [.int i] ∧ H l = some (.lst xs) ∧ xs[k]? = some y ∧ Q y (upd H l (.lst (xs.eraseIdx k)))
section
variable {X : Cx}
theorem mt_popI : MtM X "list.pop" rPopI := by
  intro pins s σ H x vs v us Q I rx rv h
  obtain ⟨l, xs, i, k, y, hik, rfl, rfl, hH, hy, q⟩ := h
  cases rx
  obtain ⟨u, rfl, ru⟩ := rv.one
  obtain ⟨t, rfl⟩ := ru
  obtain ⟨z, its, n, r, hl, e⟩ := I.lstM hH
  obtain ⟨w, hw, rw'⟩ := r.get hy
  have hk : k < xs.length := (List.getElem?_eq_some_iff.mp hy).1
  have hz : sizeLine = 16777216 := rfl
  have h0 : (0 : Int) ≤ i := by omega
  have h63 : i < 2 ^ 63 := by omega
  have hfit : Builtin.List.listFitsIndex i = true := fitsIndex_of h0 h63
  have hsi : seqIndex? i its.toArray.size = some k := by
    rw [hik, List.size_toArray]
    unfold seqIndex?
    simp
    omega
  have hw2 : its.toArray[k]? = some w := by simpa using hw
  have hz2 : its.toArray.size ≤ sizeLine := by rw [List.size_toArray]; omega
  have hM := MeetsSeq.list_pop_at l its.toArray n i t k w hfit hsi hw2 hz2
  refine call_meets PySem.F.slot_list_pop ⟨_, e, rfl⟩ PySem.F.entry_list_pop (PySem.F.args_list_pop_2 _ _) hM ⟨e, ?_⟩
  refine ⟨y, _, I.lset (its' := its.eraseIdx k) hH e ?_ (vals_erase k r) ?_, rw', q⟩
  · show its.toArray.eraseIdxIfInBounds k = (its.eraseIdx k).toArray
    rw [List.eraseIdxIfInBounds_toArray]
  · have := List.length_eraseIdx_le xs k
    omega
end
def popAppK (i : Nat) (a b : Option D) (ρ : List D) : Out := match a, b with
  | some (.lst ds), some (.int k) => (match (if 0 ≤ k ∧ ds.length ≤ 100000 then ds[k.toNat]? else none) with
    | some d => .nx (ρ.set i (.lst (ds.eraseIdx k.toNat ++ [d])))
    | none => .bad)
  | _, _ => .bad
def dPopApp (i : Nat) (f : DFn) : SFn := fun ρ => popAppK i ρ[i]? (f ρ) ρ
section
variable {X : Cx} {ca : Cl → Addr} {W : WX} {J : Jd} {Γ : List Md} {e : Expr} {m : Vm} {f : DFn} {x : Str} {pos pos' apos cpos pos2 apos2 cpos2 : Pos}
/-- xs.append(xs.pop(k)), of a list of one's own -/
theorem pds_popApp (i : Nat) (he : PDE X ca Γ e m f) (hm : Γ[i]? = some .f := by rfl) (hi : X.N[i]? = some x := by rfl) (hv : Vis X.env.scope x := by first | exact Or.inl rfl | exact Or.inr (Or.inl rfl) | exact Or.inr (Or.inr rfl)) (hd : (x == ("__debug__" : Str)) = false := by decide) (hcd : (x == ("__classdict__" : Str)) = false := by decide)
    (hbase : attributeBase (.Name x pos') "append" X.env (eval (.Name x pos') X.env) = eval (.Name x pos') X.env := by rfl)
    (hbase2 : attributeBase (.Name x pos2) "pop" X.env (eval (.Name x pos2) X.env) = eval (.Name x pos2) X.env := by rfl)
    (hfew : ((backTo cpos (starEach (.Call (.Attribute (.Name x pos2) "pop" apos2) [e] [] cpos2 :: []) X.env)).all (fun x => !x.1) && (backToKw cpos (keywordEach [] X.env)).all (fun x => x.1.isSome)
      && decide ((Expr.Call (.Attribute (.Name x pos2) "pop" apos2) [e] [] cpos2 :: []).length + ([] : List Keyword).length + (if ([] : List Keyword).isEmpty then 0 else 1) < 30)) = true := by rfl)
    (hfew2 : ((backTo cpos2 (starEach (e :: []) X.env)).all (fun x => !x.1) && (backToKw cpos2 (keywordEach [] X.env)).all (fun x => x.1.isSome)
      && decide ((e :: []).length + ([] : List Keyword).length + (if ([] : List Keyword).isEmpty then 0 else 1) < 30)) = true := by rfl)
    (hline : (apos.endLine == cpos.line) = true := by rfl) (hline2 : (apos2.endLine == cpos2.line) = true := by rfl)
    (hst : starEach (.Call (.Attribute (.Name x pos2) "pop" apos2) [e] [] cpos2 :: []) X.env = (false, eval (.Call (.Attribute (.Name x pos2) "pop" apos2) [e] [] cpos2) X.env) :: starEach [] X.env := by rfl) (hpl : (backTo cpos (starEach [] X.env)).any (·.1) = false := by rfl)
    (hst2 : starEach (e :: []) X.env = (false, eval e X.env) :: starEach [] X.env := by rfl) (hpl2 : (backTo cpos2 (starEach [] X.env)).any (·.1) = false := by rfl)
    (hs : swapsWith (.Call (.Attribute (.Name x pos') "append" apos) [.Call (.Attribute (.Name x pos2) "pop" apos2) [e] [] cpos2] [] cpos) none pos.line X.env = pure false := by rfl) :
    PDS X ca W J Γ (.Expr (.Call (.Attribute (.Name x pos') "append" apos) [.Call (.Attribute (.Name x pos2) "pop" apos2) [e] [] cpos2] [] cpos) pos) Γ (dPopApp i f) := by
  obtain ⟨t, p, q⟩ := he
  refine ⟨_, ps_expr (pe_bm PySem.F.plainAttrs_list PySem.F.slot_list_append PySem.F.type_list_append mt_append (pe_var (i := i) hi hv hd hcd)
    (pa_cons (pe_bm PySem.F.plainAttrs_list PySem.F.slot_list_pop PySem.F.type_list_pop mt_popI (pe_var (i := i) hi hv hd hcd) (pa_cons p pa_nil hst2) hbase2 hfew2 hline2 hst2 hpl2) pa_nil hst) hbase hfew hline hst hpl) hs, fun B S0 M L σ H ρ N E pp => ?_⟩
  obtain ⟨a, d, h1, h2, h3, h4⟩ := slot_f E hm
  unfold dPopApp at pp
  rw [h3] at pp
  cases hf : f ρ with
  | none => rw [hf] at pp; cases d <;> exact pp.elim
  | some d0 =>
    rw [hf] at pp
    cases d with
    | lst ds =>
      cases d0 with
      | int k =>
        have pp' : Post ⟨X.K, ca⟩ B S0 M J W Γ N (match (if 0 ≤ k ∧ ds.length ≤ 100000 then ds[k.toNat]? else none) with
          | some d => .nx (ρ.set i (.lst (ds.eraseIdx k.toNat ++ [d])))
          | none => .bad) := pp
        cases hk : (if 0 ≤ k ∧ ds.length ≤ 100000 then ds[k.toNat]? else none) with
        | none => rw [hk] at pp'; exact pp'.elim
        | some y =>
          rw [hk] at pp'
          obtain ⟨⟨k0, hle⟩, hk⟩ := ite_some hk
          obtain ⟨xs, g1, g2⟩ := h4.flat_lst
          refine ⟨_, h2, .inl ⟨rfl, xs, SqL.of g1⟩, ?_⟩
          refine ⟨_, h2, .inl ⟨rfl, xs, SqL.of g1⟩, ?_⟩
          refine q B S0 M L σ H ρ E _ hf _ fun v H1 x1 rv => ?_
          have E1 := E.ext x1
          have ev := (rv.rep (E.eb.trans x1)).int_inv
          subst ev
          have g2' := g2.mono (hide_mono x1)
          obtain ⟨yv, hy, ry⟩ := g2'.getD hk
          have hxl : xs.length = ds.length := g2.length
          refine ⟨a, xs, k, k.toNat, yv, by omega, rfl, rfl, x1 _ _ g1, hy, ?_⟩
          have E2 := E1.relist hm h1 h2 (reps_erase k.toNat g2')
          obtain ⟨a', d', j1, j2, j3, j4⟩ := slot_f E2 hm
          rw [h2] at j2
          cases j2
          have ed : d' = .lst (ds.eraseIdx k.toNat) := by
            have hlt := (List.getElem?_eq_some_iff.mp h3).1
            rw [List.getElem?_set_self (by simpa using hlt)] at j3
            exact (Option.some.inj j3).symm
          subst ed
          obtain ⟨xs2, g3, g4⟩ := j4.flat_lst
          have inL : In L a := ⟨[a], List.mem_of_getElem? h1, .head _⟩
          have ry2 : Rep ⟨X.K, ca⟩ (hide (Msk M L) (upd H1 a (.lst (xs.eraseIdx k.toNat)))) yv y := ry.mono (hide_le fun b o h q => ⟨h, by
            rw [upd_ne (fun z => h (.inr (by rw [z]; exact inL)))]
            exact q⟩)
          refine ⟨a, xs2, yv, rfl, rfl, g3, ?_, ?_⟩
          · have := g4.length
            have := List.length_eraseIdx_le ds k.toNat
            have hz : sizeLine = 16777216 := rfl
            omega
          · have E3 := E2.relist hm h1 h2 (g4.snoc ry2)
            rw [List.set_set] at E3
            exact pp' L σ _ E3
      | _ => exact pp.elim
    | _ => cases d0 <;> exact pp.elim
end
def asPairsI : List D → Option (List (Int × D))
  | [] => some []
  | .tup [.int k, v] :: ds => (asPairsI ds).map ((k, v) :: ·)
  | _ :: _ => none
def gDictI (a : D) : Option D := ((lstOf a).bind asPairsI).bind fun kvs => if (kvs.map (·.1)).Nodup then some (.dI kvs) else none
theorem pairsI_reps {c : Ct} {S H : Hp} (x : Ex S H) : ∀ {xs : List V} {ds : List D} {kvs : List (Int × D)}, Reps c S xs ds → asPairsI ds = some kvs →
    ∃ (ps : List Addr) (es : List (Key × V)), xs = ps.map V.ref ∧ Paired (fun p (kv : Key × V) => SqT c.K H p [kV kv.1, kv.2]) ps es ∧ KVs c S eI es kvs
  | _, _, _, .nil, h => by cases h; exact ⟨[], [], rfl, .nil, .nil⟩
  | _, _, _, .cons (d := d) r rs, h => by
    unfold asPairsI at h
    split at h
    · rename_i e
      cases e
    · rename_i k v ds' e
      cases e
      obtain ⟨kvs', e2, h⟩ := Option.map_eq_some_iff.mp h
      subst h
      obtain ⟨ps, es, h1, h2, h3⟩ := pairsI_reps x rs e2
      subst h1
      cases r with
      | @tup aa _ _ hr rr =>
        cases rr with
        | cons rk rr =>
          cases rr with
          | @cons y _ _ _ rv rr =>
            cases rr
            have ek := rk.int_inv
            subst ek
            exact ⟨aa :: ps, (eI k, y) :: es, rfl, .cons (SqT.of (x _ _ hr)) h2, .cons rv h3⟩
    · cases h
theorem merge_nodup : ∀ (kvs acc : List (Key × V)), ((acc ++ kvs).map (·.1)).Nodup → mergeK acc kvs = acc ++ kvs
  | [], acc, _ => by rw [List.append_nil]; rfl
  | p :: kvs, acc, h => by
    have h' : (((acc ++ [p]) ++ kvs).map (·.1)).Nodup := by rw [List.append_assoc]; exact h
    have hp : putK acc p.1 p.2 = acc ++ [p] := by
      have hn : p.1 ∉ acc.map (·.1) := fun hm => by
        rw [List.map_append, List.map_cons, List.nodup_append] at h
        exact h.2.2 _ hm _ (.head _) rfl
      unfold putK
      rw [if_neg]
      intro z
      rw [List.any_eq_true] at z
      obtain ⟨q, hq, e⟩ := z
      exact hn (List.mem_map.mpr ⟨q, hq, of_decide_eq_true e⟩)
    show mergeK (putK acc p.1 p.2) kvs = _
    rw [hp, merge_nodup kvs (acc ++ [p]) h', List.append_assoc]
    rfl
theorem KVs.keysI {c : Ct} {S : Hp} : ∀ {es : List (Key × V)} {kvs : List (Int × D)}, KVs c S eI es kvs → es.map (·.1) = (kvs.map (·.1)).map eI
  | _, _, .nil => rfl
  | _, _, .cons _ r => by rw [List.map_cons, List.map_cons, List.map_cons, r.keysI]
section
variable {X : Cx} {ca : Cl → Addr} {Γ : List Md} {pos p : Pos} {a b e : Expr} {ma mb : Vm} {fa fb : DFn}
/-- dict(list of pairs (number, value)) -/
theorem pd_dictI (ha : PDE X ca Γ a .s fa) (hm : X.mg "dict" = none) (hg : Gl X "dict" := by rfl) (hc : X.calm = true := by rfl)
    (he : starEach (a :: []) X.env = (false, eval a X.env) :: starEach [] X.env := by rfl) (hpl : (backTo pos (starEach [] X.env)).any (·.1) = false := by rfl) : PDN X ca Γ (.Call (.Name "dict" p) [a] [] pos) (d1 gDictI fa) := by
  obtain ⟨t, pa, q⟩ := ha
  refine ⟨_, pe_callTy (call_dictP hc) hg hm (by decide +kernel) (pa_cons pa pa_nil he) (by decide) (by decide) he hpl, fun B S0 M L σ H ρ E d hd Q k => ?_⟩
  obtain ⟨x, e1, hd⟩ := bind_some hd
  obtain ⟨kvs, e2, hd⟩ := bind_some hd
  obtain ⟨ds, e3, e2⟩ := bind_some e2
  obtain ⟨hnd, hd⟩ := ite_some hd
  cases hd
  refine q B S0 M L σ H ρ E x e1 _ fun v H1 x1 rv => ?_
  obtain ⟨p', xs, rfl, hsq, rs⟩ := lst_in (S := hide (Msk M L) H1) rv e3
  obtain ⟨ps, es, rfl, h2, h3⟩ := pairsI_reps hide_ex rs e2
  refine ⟨p', ps, es, rfl, hsq H1 hide_ex, h2, fun pp hp => ?_⟩
  have em : mergeK [] es = es := by
    refine merge_nodup es [] ?_
    rw [List.nil_append, h3.keysI]
    exact (List.pairwise_map).mpr (hnd.imp fun h z => h (eI_inj _ _ z))
  rw [em]
  refine k pp _ (x1.trans (Ex.new hp)) (x1.free hp) ?_
  refine KVs.ownI (es := es) (h3.mono (hide_le fun b u h e => ⟨fun z => ?_, (upd_ne (ne_of_none e hp)).trans e⟩)) upd_same
  rcases z with z | z
  · exact h z
  · rw [z, hp] at e
    exact (nomatch e)
end
end DL

/-! DL: a list turned about, xs[::-1]. -/
namespace DL
open PySem PySem.Spec PyProof.Rows L2 HT
open PySem.Calls
theorem slicePick_rev (xs : Array Value) : slicePick xs none none (some (-1)) = xs.toList.reverse.toArray := by
  rw [← pick_rev]
  unfold slicePick sliceBounds sliceRange
  simp only [Option.getD_some, show ¬ ((-1 : Int) > 0) by decide, if_false]
  have e : (if (xs.size : Int) - 1 > -1 then ((xs.size : Int) - 1 - -1 - -1 - 1) / (- -1) else 0).toNat = xs.size := by
    rw [show -(-1 : Int) = 1 by decide, Int.ediv_one]
    split <;> omega
  rw [e, List.filterMap_map]
  have e2 : ((fun (x : Nat) => xs[x]?) ∘ fun (k : Nat) => ((xs.size : Int) - 1 + -1 * (k : Int)).toNat) = fun (m : Nat) => xs[((xs.size : Int) - 1 + (m : Int) * -1).toNat]? := by
    funext m
    show xs[((xs.size : Int) - 1 + -1 * (m : Int)).toNat]? = _
    rw [Int.mul_comm]
  rw [e2]
def tRevL (K : PySem.W.Frag) (te : TE) : TE := fun σ H Q => te σ H fun x H1 => ∃ a xs, x = .ref a ∧ SqL K H1 a xs ∧ ∀ p, H1 p = none → Q (.ref p) (upd H1 p (.lst xs.reverse))
theorem pe_revL {X : Cx} {e : Expr} {te : TE} {k : Nat} {p1 p2 p3 pos : Pos} (he : PE X e te) : PE X (.Subscript e (.Slice none none (some (.UnaryOp .USub (.Constant (.int 1) k p1) p2)) p3) pos) (tRevL X.K te) := by
  refine ⟨fun pins s σ H Q I h => ?_⟩
  refine Subscript_ (thn (he.run pins s σ H _ I h) fun v s1 ⟨x, H1, I1, r1, q1⟩ => ?_)
  obtain ⟨a, xs, ex, hx, q⟩ := q1
  subst ex
  cases r1
  have hst : PO X (some (.UnaryOp .USub (.Constant (.int 1) k p1) p2)) (tPart (tUn (rU fun i => .int (-i)) (tC (.int 1)))) := po_some (pe_un un_neg pe_int)
  refine wpAny_Slice (thn (po_none.run pins s1 σ H1 (fun o H2 => o = none ∧ H2 = H1) I1 ⟨rfl, rfl⟩) fun vl s2 ⟨l, H2, I2, pl, el, e2⟩ => ?_)
  subst el e2
  refine thn (po_none.run pins s2 σ H2 (fun o H3 => o = none ∧ H3 = H2) I2 ⟨rfl, rfl⟩) fun vu s3 ⟨u, H3, I3, pu, eu, e3⟩ => ?_
  subst eu e3
  refine thn (hst.run pins s3 σ H3 (fun o H4 => o = some (-1) ∧ H4 = H3) I3 ⟨1, rfl, -1, rfl, rfl, rfl⟩) fun vs s4 ⟨o, H4, I4, ps, eo, e4⟩ => ?_
  subst eo e4
  have I5 : Inv X pins σ H4 { s4 with heap := s4.heap.push { cls := .type "slice", data := .fields #[vl, vu, vs] } } := I4.kept (t' := s4.toks) fun b ob q => Heap.get?_push_of_some _ q
  obtain ⟨its, r, ht, hz⟩ := I5.list hx
  have hlen := r.length
  have hl := ht.isList
  show wpAny (model X.prog X.w) X.A (subscriptTail e (.Slice none none (some (.UnaryOp .USub (.Constant (.int 1) k p1) p2)) p3) (.ref a) (.ref s4.heap.objs.size)) (EP X pins σ Q) X.xe { s4 with heap := s4.heap.push { cls := .type "slice", data := .fields #[vl, vu, vs] } }
  refine tail_any (ops := [.ref a, .ref s4.heap.objs.size]) hl.typeIs PySem.F.slot_list_getitem.lookup ?_ (by with_unfolding_all rfl)
  refine wpAny_getItem_list_slice hl (Heap.IsSliceOf.new _ vl vu vs) pl pu ps (by decide) ?_ (by rw [List.size_toArray]; omega)
  rw [slicePick_rev]
  refine ⟨.ref _, _, I5.laid (t' := s4.toks) (o := .lst xs.reverse) (fun b ob q => Heap.get?_push_of_some _ q) (Nat.le_refl _) ?_, rfl, q _ (I5.hok.fresh (Nat.le_refl _))⟩
  exact ⟨by rw [List.length_reverse]; exact hz, its.reverse, 0, r.reverse, Heap.get?_push_size _ rfl⟩
section
variable {X : Cx} {ca : Cl → Addr} {Γ : List Md} {pos : Pos} {a : Expr} {ma : Vm} {fa : DFn}
theorem pd_revL {k : Nat} {p1 p2 p3 : Pos} (ha : PDE X ca Γ a ma fa) (hm : ma = .s ∨ ma = .f := by first | exact .inl rfl | exact .inr rfl) : PDN X ca Γ (.Subscript a (.Slice none none (some (.UnaryOp .USub (.Constant (.int 1) k p1) p2)) p3) pos) (dCallN gRevL fa) := by
  obtain ⟨t, pa, qa⟩ := ha
  refine ⟨_, pe_revL pa, fun B S0 M L σ H ρ E d hd Q k => ?_⟩
  obtain ⟨es, e1, hd⟩ := Option.map_eq_some_iff.mp hd
  subst hd
  obtain ⟨x, e2, e1⟩ := bind_some e1
  obtain ⟨ds, e3, e1⟩ := Option.map_eq_some_iff.mp e1
  subst e1
  refine qa B S0 M L σ H ρ E x e2 _ fun v H1 x1 r1 => ?_
  have fin : ∀ (p : Addr) (xs : List V), v = .ref p → SqL X.K H1 p xs → Reps ⟨X.K, ca⟩ (hide (Msk M L) H1) xs ds → ∃ (a : Addr) (xs : List V), v = .ref a ∧ SqL X.K H1 a xs ∧ ∀ q, H1 q = none → Q (.ref q) (upd H1 q (.lst xs.reverse)) := fun p xs e h r =>
    ⟨p, xs, e, h, fun q hq => k q _ (x1.trans (Ex.new hq)) (x1.free hq) (.lst upd_same (Owns.sh (reps_updN hq r.reverse)))⟩
  rcases hm with rfl | rfl
  · obtain ⟨p, xs, rfl, hq, rs⟩ := lst_rep (c := ⟨X.K, ca⟩) hide_ex r1 e3
    exact fin p xs rfl hq rs
  · obtain ⟨p, rfl, ho, _⟩ := r1
    cases x with
    | lst ds' =>
      cases e3
      obtain ⟨xs, g1, g2⟩ := ho.flat_lst
      exact fin p xs rfl (SqL.of g1) g2
    | scr ns => cases ho
    | _ => cases e3
end
end DL

/-! DL: a display {(a, b): v, (c, d): w} with keys that are tuples. -/
namespace DL
open PySem PySem.Spec PyProof.Rows L2 HT
open PySem.Calls
abbrev KeyedV (H : Hp) : List (V × V) → List (List Key × V) → Prop := Paired fun p kv => (∃ b, p.1 = .ref b ∧ H b = some (.tup (kv.1.map kV))) ∧ p.2 = kv.2
theorem carries_T {X : Cx} {pins : List (Addr × Obj)} {σ : L2.St} {H : Hp} {s : Shared} (I : Inv X pins σ H s) : ∀ {ps : List (V × V)} {kvs : List (List Key × V)} {ws : List (Value × Value)}, KeyedV H ps kvs → VV ps ws →
    ∃ ks : List (List Key × Addr × Value), CarriesH (tupleKind (mixKind X.prog X.w)) s.heap ws ks ∧ KT H kvs ks
  | _, _, _, .nil, r => by cases r; exact ⟨[], True.intro, .nil⟩
  | _, _, _, .cons h t, r => by
    cases r with
    | @cons a b as bs hr tr =>
      obtain ⟨ks, c, q⟩ := carries_T I t tr
      obtain ⟨⟨bb, e1, e2⟩, e3⟩ := h
      obtain ⟨b1, b2⟩ := b
      obtain ⟨r1, r2⟩ := hr
      rw [e1] at r1
      rw [e3] at r2
      cases r1
      exact ⟨(_, bb, b2) :: ks, ⟨rfl, rfl, key_of (P := X.prog) (w := X.w) I.hok e2, c⟩, .cons ⟨rfl, e2, r2⟩ q⟩
def tDispT (trs : List (TE × TE)) : TE := fun σ H Q => ∀ p, H p = none → tPairs trs σ (upd H p (.dT [])) fun ps H2 => H2 p = some (.dT []) ∧ ∃ kvs : List (List Key × V), KeyedV H2 ps kvs ∧ (kvs.map (·.1)).Nodup ∧ kvs.length ≤ 15 ∧ Q (.ref p) (upd H2 p (.dT kvs))
theorem pe_dispT {X : Cx} {pos : Pos} {keys : List (Option Expr)} {values : List Expr} {trs : List (TE × TE)} (hu : X.A.units + 3 < cLine) (h : PPs X pos keys values trs) (hall : keys.all (·.isSome) = true) (hl : keys.length = values.length) (h0 : keys ≠ [])
    (h15 : keys.length ≤ 15) : PE X (.Dict keys values pos) (tDispT trs) := by
  refine ⟨fun pins s σ H Q I q => ?_⟩
  have hn := I.hok.fresh (Nat.le_refl s.heap.objs.size)
  have I1 := I.laid (a := s.heap.objs.size) (o := .dT []) (h' := s.heap.push { cls := .type "dict", data := .dict #[] }) (t' := s.toks) (fun _ _ q => Heap.get?_push_of_some _ q) (Nat.le_refl _) (dt_empty s.heap I.big)
  have hlen := pairTrees_length keys values X.env pos hall hl
  rw [arm_eval_Dict, zip_pairTrees keys values X.env pos hall hl, dictDisplay_pairs (pairTrees keys values X.env pos) (fun he => by rw [he] at hlen; exact h0 (List.length_eq_zero_iff.mp hlen.symm)) (by omega)]
  refine wpAny_bind (wpAny_standAt (wpAny_bind (wpAny_subDictH (knd := tupleKind (mixKind X.prog X.w)) (show X.A.units < cLine by omega) (by omega) (thn (h.run pins _ σ _ _ I1 (q _ hn)) fun ws s2 ⟨ps, H2, I2, rel, e, kvs, hk, nd, lk, q2⟩ => ?_))))
  obtain ⟨ks, c, rk⟩ := carries_T I2 hk rel
  obtain ⟨z, hd, vs0, r0, dd⟩ := dt_of (P := X.prog) (w := X.w) I2.hok e
  cases r0
  refine ⟨ks, c, dd, fun h' tk dd' hs => ?_⟩
  have hlk : kvs.length = ks.length := Paired.length rk
  have ekeys : ks.map (·.1) = kvs.map (·.1) := by
    clear c dd' q2 nd lk hk hlk
    induction rk with
    | nil => rfl
    | cons h _ ih => rw [List.map_cons, List.map_cons, ih, h.1]
  rw [storedAllH_nil_of_nodup ks (by rw [ekeys]; exact nd)] at dd'
  obtain ⟨o', es, ep, g1, g2, g3, g4, _, g5⟩ := dd'
  have hz : kvs.length ≤ sizeLine := by rw [sizeLine_eq]; omega
  refine wpAny_pure ⟨.ref s.heap.objs.size, _, d_write I2 (by rw [e]; exact True.intro) hs ⟨o', g1⟩ (show ObjOk X.prog X.w (upd H2 s.heap.objs.size (.dT kvs)) h' s.heap.objs.size (.dT kvs) from ⟨hz, hd, ks, rk.keeps fun c ys ec => ?_, o', es, ep, g1, g2, g3, g4, g5⟩), rfl, q2⟩
  rw [upd_ne (ne_of ec e (fun z => nomatch z))]
  exact ec
def dDispT2 (f g f' g' : DFn) : DFn := fun ρ => ((f ρ).bind asT).bind fun k => (g ρ).bind fun d => ((f' ρ).bind asT).bind fun k' => (g' ρ).bind fun d' => if k ≠ k' then some (.dT [(k, d), (k', d')]) else none
section
variable {X : Cx} {ca : Cl → Addr} {Γ : List Md} {pos : Pos} {a b a' b' : Expr} {fa fb fa' fb' : DFn}
/-- {k: v, k': v'}, the keys tuples -/
theorem pd_dispT2 {k : Nat} (hr : Room k X.A) (hk : PDE X ca Γ a .s fa) (hv : PDE X ca Γ b .s fb) (hk' : PDE X ca Γ a' .s fa') (hv' : PDE X ca Γ b' .s fb') : PDN X ca Γ (.Dict [some a, some a'] [b, b'] pos) (dDispT2 fa fb fa' fb') := by
  obtain ⟨t, p1, q1⟩ := hk
  obtain ⟨u, p2, q2⟩ := hv
  obtain ⟨t', p3, q3⟩ := hk'
  obtain ⟨u', p4, q4⟩ := hv'
  have hu : X.A.units + 3 < cLine := by have := hr.units; omega
  refine ⟨_, pe_dispT hu (pps_cons p1 p2 (pps_cons p3 p4 pps_nil)) rfl rfl (by simp) (by show 2 ≤ 15; decide), fun B S0 M L σ H ρ E d hd Q k => ?_⟩
  obtain ⟨k1, e1, hd⟩ := bind_some hd
  obtain ⟨d1, e1, e1'⟩ := bind_some e1
  obtain ⟨y, e2, hd⟩ := bind_some hd
  obtain ⟨k2, e3, hd⟩ := bind_some hd
  obtain ⟨d3, e3, e3'⟩ := bind_some e3
  obtain ⟨y', e4, hd⟩ := bind_some hd
  obtain ⟨hne, hd⟩ := ite_some hd
  cases hd
  intro p hp
  have E1 := E.guard hp (Ex.new (o := .dT []) hp) (by rw [upd_same]; exact True.intro)
  refine q1 B S0 _ L σ _ ρ E1 _ e1 _ fun v H1 x1 r1 => ?_
  refine q2 B S0 _ L σ H1 ρ (E1.ext x1) y e2 _ fun w H2 x2 r2 => ?_
  have E2 := (E1.ext x1).ext x2
  refine q3 B S0 _ L σ H2 ρ E2 _ e3 _ fun v' H3 x3 r3 => ?_
  refine q4 B S0 _ L σ H3 ρ (E2.ext x3) y' e4 _ fun w' H4 x4 r4 => ?_
  obtain ⟨b1, rfl, hb1⟩ := Rep.key (show Rep ⟨X.K, ca⟩ _ v d1 from r1) e1'
  obtain ⟨b3, rfl, hb3⟩ := Rep.key (show Rep ⟨X.K, ca⟩ _ v' d3 from r3) e3'
  have hp4 : H4 p = some (.dT []) := x4 _ _ (x3 _ _ (x2 _ _ (x1 _ _ upd_same)))
  refine ⟨hp4, [(eT k1, w), (eT k2, w')], .cons ⟨⟨b1, rfl, x4 _ _ (x3 _ _ (x2 _ _ (hide_of hb1).2))⟩, rfl⟩ (.cons ⟨⟨b3, rfl, x4 _ _ (hide_of hb3).2⟩, rfl⟩ .nil), ?_, by show 2 ≤ 15; decide, ?_⟩
  · show [eT k1, eT k2].Nodup
    rw [List.nodup_cons, List.mem_singleton]
    exact ⟨fun z => hne (eT_inj _ _ z), by simp⟩
  have x5 : Ex H (upd H4 p (.dT [(eT k1, w), (eT k2, w')])) := fun b o h => by
    have ne : b ≠ p := ne_of_none h hp
    rw [upd_ne ne]
    exact x4 _ _ (x3 _ _ (x2 _ _ (x1 _ _ ((upd_ne ne).trans h))))
  refine k p _ x5 hp (KVs.ownT (es := [(eT k1, w), (eT k2, w')]) (.cons ?_ (.cons ?_ .nil)) upd_same)
  · have r2' : Rep ⟨X.K, ca⟩ (hide (Msk ⟨fun a => M a ∨ a = p, M.z⟩ L) H4) w y := (r2.mono x3).mono x4
    refine r2'.mono (hide_le fun b o h q => ⟨fun z => h ?_, (upd_ne fun z => h (.inl (.inr z))).trans q⟩)
    rcases z with (z | z) | z
    · exact .inl (.inl z)
    · exact .inr z
    · exact .inl (.inr z)
  · have r4' : Rep ⟨X.K, ca⟩ (hide (Msk ⟨fun a => M a ∨ a = p, M.z⟩ L) H4) w' y' := r4
    refine r4'.mono (hide_le fun b o h q => ⟨fun z => h ?_, (upd_ne fun z => h (.inl (.inr z))).trans q⟩)
    rcases z with (z | z) | z
    · exact .inl (.inl z)
    · exact .inr z
    · exact .inl (.inr z)
end
end DL

/-! DL: d.pop(k, x) of a dict of one's own whose keys are tuples. -/
namespace DL
open PySem PySem.Spec PyProof.Rows L2 HT
open PySem.Calls
theorem KVs.dropT {c : Ct} {S : Hp} (k : List Int) : ∀ {es : List (List Key × V)} {kvs : List (List Int × D)}, KVs c S eT es kvs → KVs c S eT (dropK es (eT k)) (dropD kvs k)
  | _, _, .nil => .nil
  | _, _, .cons (k := k') (v := v) (d := d) h r => by
    have ih := KVs.dropT k r
    unfold dropK dropD at ih ⊢
    rw [List.filter_cons, List.filter_cons]
    by_cases q : k' = k
    · subst q
      rw [if_neg (by simp), if_neg (by simp)]
      exact ih
    · rw [if_pos (by simp [q]; exact fun z => q (eT_inj _ _ z)), if_pos (by simp [q])]
      exact .cons h ih
def popTK (i : Nat) (d a b : Option D) (ρ : List D) : Out := match d, a.bind asT, b with
  | some (.dT kvs), some k, some _ => .nx (ρ.set i (.dT (dropD kvs k)))
  | _, _, _ => .bad
def dPopT (i : Nat) (f g : DFn) : SFn := fun ρ => popTK i ρ[i]? (f ρ) (g ρ) ρ
section
variable {X : Cx} {ca : Cl → Addr} {W : WX} {J : Jd} {Γ : List Md} {e e2 : Expr} {f g : DFn} {x : Str} {pos pos' apos cpos : Pos}
theorem pds_popT {k : Nat} (hr : Room k X.A) (i : Nat) (he : PDE X ca Γ e .s f) (he2 : PDE X ca Γ e2 .s g) (hm : Γ[i]? = some .f := by rfl) (hi : X.N[i]? = some x := by rfl) (hv : Vis X.env.scope x := by first | exact Or.inl rfl | exact Or.inr (Or.inl rfl) | exact Or.inr (Or.inr rfl)) (hd : (x == ("__debug__" : Str)) = false := by decide) (hcd : (x == ("__classdict__" : Str)) = false := by decide)
    (hbase : attributeBase (.Name x pos') "pop" X.env (eval (.Name x pos') X.env) = eval (.Name x pos') X.env := by rfl) (hfew : ((backTo cpos (starEach (e :: e2 :: []) X.env)).all (fun x => !x.1) && (backToKw cpos (keywordEach [] X.env)).all (fun x => x.1.isSome)
      && decide ((e :: e2 :: []).length + ([] : List Keyword).length + (if ([] : List Keyword).isEmpty then 0 else 1) < 30)) = true := by rfl) (hline : (apos.endLine == cpos.line) = true := by rfl) (hst : starEach (e :: e2 :: []) X.env = (false, eval e X.env) :: starEach (e2 :: []) X.env := by rfl) (hst2 : starEach (e2 :: []) X.env = (false, eval e2 X.env) :: starEach [] X.env := by rfl) (hpl : (backTo cpos (starEach (e2 :: []) X.env)).any (·.1) = false := by rfl)
    (hs : swapsWith (.Call (.Attribute (.Name x pos') "pop" apos) [e, e2] [] cpos) none pos.line X.env = pure false := by rfl) :
    PDS X ca W J Γ (.Expr (.Call (.Attribute (.Name x pos') "pop" apos) [e, e2] [] cpos) pos) Γ (dPopT i f g) := by
  obtain ⟨t, p, q⟩ := he
  obtain ⟨t2, p2, q2⟩ := he2
  refine ⟨_, ps_expr (pe_bm PySem.F.plainAttrs_dict PySem.F.slot_dict_pop PySem.F.type_dict_pop (L2.DX.mt_popT (by have := hr.units; omega)) (pe_var (i := i) hi hv hd hcd) (pa_cons p (pa_cons p2 pa_nil hst2) hst) hbase hfew hline hst hpl) hs, fun B S0 M L σ H ρ N E pp => ?_⟩
  obtain ⟨a, d, h1, h2, h3, h4⟩ := slot_f E hm
  unfold dPopT at pp
  rw [h3] at pp
  cases hf : f ρ with
  | none => rw [hf] at pp; cases d <;> exact pp.elim
  | some d0 =>
  cases hg : g ρ with
  | none => rw [hg] at pp; unfold popTK at pp; split at pp <;> first | exact pp.elim | (rename_i z; cases z)
  | some d1 =>
    rw [hf, hg] at pp
    cases d with
    | dT kvs =>
      cases hk : asT d0 with
      | none => unfold popTK at pp; rw [show (some d0).bind asT = none from hk] at pp; exact pp.elim
      | some ks =>
        unfold popTK at pp
        rw [show (some d0).bind asT = some ks from hk] at pp
        have pp' : Post ⟨X.K, ca⟩ B S0 M J W Γ N (.nx (ρ.set i (.dT (dropD kvs ks)))) := pp
        obtain ⟨es, g1, g2⟩ := h4.dT_inv
        refine ⟨_, h2, .inr (.inr (.inl ⟨rfl, .inr ⟨es, g1⟩⟩)), ?_⟩
        refine q B S0 M L σ H ρ E d0 hf _ fun v H1 x1 rv => ?_
        refine q2 B S0 M L σ H1 ρ (E.ext x1) d1 hg _ fun v2 H2 x2 rv2 => ?_
        have E2 := (E.ext x1).ext x2
        obtain ⟨b, rfl, hb⟩ := Rep.key (show Rep ⟨X.K, ca⟩ (hide (Msk M L) H1) v d0 from rv) hk
        have gg := x2 _ _ (x1 _ _ g1)
        refine ⟨a, es, eT ks, b, v2, rfl, rfl, gg, x2 _ _ (hide_of hb).2, fun v hv => ?_, fun hn => ?_⟩
        · refine pp' L σ _ (E2.reown hm h1 h2 True.intro fun S xS => ?_)
          exact KVs.ownT (es := dropK es (eT ks)) ((KVs.dropT ks ((g2.mono (hide_mono (x1.trans x2))).mono xS))) upd_same
        · have e1 : dropD kvs ks = kvs := by
            rcases g2.val eT_inj ks with ⟨_, z⟩ | ⟨_, _, z, _⟩
            · refine List.filter_eq_self.mpr fun kv hkv => decide_eq_true fun z2 => ?_
              unfold valD at z
              have z3 := Option.map_eq_none_iff.mp z
              have := List.find?_eq_none.mp z3 kv hkv
              exact this (decide_eq_true z2)
            · rw [z] at hn; cases hn
          rw [e1, list_set_self h3] at pp'
          exact pp' L σ _ E2
    | _ => exact pp.elim
end
end DL

/-! DL: places within what is one's own. -/
namespace DL
open PySem PySem.Spec PyProof.Rows L2
theorem In.set_ap {l l' : List Addr} {a : Addr} : ∀ {L : List (List Addr)} {i : Nat}, Apart L → L[i]? = some l → In (L.set i l') a → (In L a ∧ a ∉ l) ∨ a ∈ l'
  | [], _, _, h, _ => by simp at h
  | l0 :: L, 0, ap, h, hi => by
    simp at h
    subst h
    rcases In.inv (show In (l' :: L) a from hi) with z | z
    · exact .inr z
    · exact .inl ⟨z.cons, fun y => ap.1 a y z⟩
  | l0 :: L, i + 1, ap, h, hi => by
    have h' : L[i]? = some l := by simpa using h
    rcases In.inv (show In (l0 :: L.set i l') a from hi) with z | z
    · exact .inl ⟨.head z, fun y => ap.1 a z ⟨l, List.mem_of_getElem? h', y⟩⟩
    · rcases In.set_ap ap.2 h' z with ⟨y1, y2⟩ | y
      · exact .inl ⟨y1.cons, y2⟩
      · exact .inr y
def shN : Sh → Nat → Option Sh
  | .cons a _, 0 => some a
  | .cons _ b, j + 1 => shN b j
  | _, _ => none
section
variable {c : Ct} {S H : Hp}
theorem OwnF.focus : ∀ {hs : Sh} {l : List Addr} {vs : List V} {ds : List D} {j : Nat} {h' : Sh} {d' : D}, OwnF c S H hs l vs ds → l.Nodup → shN hs j = some h' → ds[j]? = some d' →
    ∃ l' v', vs[j]? = some v' ∧ (∀ a ∈ l', a ∈ l) ∧ l'.Nodup ∧ OwnT c S H h' l' v' d' ∧ ∀ S' H' l2 d2, Ex S S' → (∀ a ∈ l, a ∉ l' → ∀ o, H a = some o → H' a = some o) → (∀ a ∈ l2, a ∈ l → a ∈ l') → l2.Nodup → ∀ v2, OwnT c S' H' h' l2 v2 d2 →
      ∃ l3, l3.Nodup ∧ (∀ a ∈ l3, (a ∈ l ∧ a ∉ l') ∨ a ∈ l2) ∧ OwnF c S' H' hs l3 (vs.set j v2) (ds.set j d2)
  | _, _, _, _, _, _, _, .nil, _, _, e => by simp at e
  | _, _, _, _, 0, h', d', .cons (l := l1) (l' := lr) (v := v) h r, nd, es, ed => by
    cases es
    simp at ed
    subst ed
    obtain ⟨n1, n2, n3⟩ := List.nodup_append.mp nd
    refine ⟨l1, v, rfl, fun a ha => List.mem_append_left _ ha, n1, h, fun S' H' l2 d2 eS k sub nd2 v2 ho => ⟨l2 ++ lr, ?_, fun a ha => ?_, ?_⟩⟩
    · refine List.nodup_append.mpr ⟨nd2, n2, fun a ha b hb e => ?_⟩
      subst e
      exact n3 a (sub a ha (List.mem_append_right _ hb)) a hb rfl
    · rcases List.mem_append.mp ha with z | z
      · exact .inr z
      · exact .inl ⟨List.mem_append_right _ z, fun y => n3 a y a z rfl⟩
    · exact .cons ho (r.mono eS fun a ha o e => k a (List.mem_append_right _ ha) (fun y => n3 a y a ha rfl) o e)
  | _, _, _, _, j + 1, h', d', .cons (l := l1) (l' := lr) (v := v) (vs := vs) (ds := ds) h r, nd, es, ed => by
    obtain ⟨n1, n2, n3⟩ := List.nodup_append.mp nd
    obtain ⟨l', v', e1, sub, nd', ho, plug⟩ := OwnF.focus (j := j) (h' := h') (d' := d') r n2 es (by simpa using ed)
    refine ⟨l', v', by simpa using e1, fun a ha => List.mem_append_right _ (sub a ha), nd', ho, fun S' H' l2 d2 eS k sub2 nd2 v2 ho2 => ?_⟩
    obtain ⟨l3, nd3, m3, o3⟩ := plug S' H' l2 d2 eS (fun a ha hn o e => k a (List.mem_append_right _ ha) hn o e) (fun a ha hr => sub2 a ha (List.mem_append_right _ hr)) nd2 v2 ho2
    refine ⟨l1 ++ l3, ?_, fun a ha => ?_, ?_⟩
    · refine List.nodup_append.mpr ⟨n1, nd3, fun a ha b hb e => ?_⟩
      subst e
      rcases m3 a hb with ⟨z, _⟩ | z
      · exact n3 a ha a z rfl
      · exact n3 a ha a (sub a (sub2 a z (List.mem_append_left _ ha))) rfl
    · rcases List.mem_append.mp ha with z | z
      · exact .inl ⟨List.mem_append_left _ z, fun y => n3 a z a (sub a y) rfl⟩
      · rcases m3 a z with ⟨y1, y2⟩ | y
        · exact .inl ⟨List.mem_append_right _ y1, y2⟩
        · exact .inr y
    · exact .cons (h.mono eS fun a ha o e => k a (List.mem_append_left _ ha) (fun y => n3 a ha a (sub a y) rfl) o e) o3
theorem OwnU.focus {i : Sh} : ∀ {l : List Addr} {vs : List V} {ds : List D} {j : Nat} {d' : D}, OwnU c S H i l vs ds → l.Nodup → ds[j]? = some d' →
    ∃ l' v', vs[j]? = some v' ∧ (∀ a ∈ l', a ∈ l) ∧ l'.Nodup ∧ OwnT c S H i l' v' d' ∧ ∀ S' H' l2 d2, Ex S S' → (∀ a ∈ l, a ∉ l' → ∀ o, H a = some o → H' a = some o) → (∀ a ∈ l2, a ∈ l → a ∈ l') → l2.Nodup → ∀ v2, OwnT c S' H' i l2 v2 d2 →
      ∃ l3, l3.Nodup ∧ (∀ a ∈ l3, (a ∈ l ∧ a ∉ l') ∨ a ∈ l2) ∧ OwnU c S' H' i l3 (vs.set j v2) (ds.set j d2)
  | _, _, _, _, _, .nil, _, e => by simp at e
  | _, _, _, 0, d', .cons (l := l1) (l' := lr) (v := v) h r, nd, ed => by
    simp at ed
    subst ed
    obtain ⟨n1, n2, n3⟩ := List.nodup_append.mp nd
    refine ⟨l1, v, rfl, fun a ha => List.mem_append_left _ ha, n1, h, fun S' H' l2 d2 eS k sub nd2 v2 ho => ⟨l2 ++ lr, ?_, fun a ha => ?_, ?_⟩⟩
    · refine List.nodup_append.mpr ⟨nd2, n2, fun a ha b hb e => ?_⟩
      subst e
      exact n3 a (sub a ha (List.mem_append_right _ hb)) a hb rfl
    · rcases List.mem_append.mp ha with z | z
      · exact .inr z
      · exact .inl ⟨List.mem_append_right _ z, fun y => n3 a y a z rfl⟩
    · exact .cons ho (r.mono eS fun a ha o e => k a (List.mem_append_right _ ha) (fun y => n3 a y a ha rfl) o e)
  | _, _, _, j + 1, d', .cons (l := l1) (l' := lr) (v := v) (vs := vs) (ds := ds) h r, nd, ed => by
    obtain ⟨n1, n2, n3⟩ := List.nodup_append.mp nd
    obtain ⟨l', v', e1, sub, nd', ho, plug⟩ := OwnU.focus (j := j) (d' := d') r n2 (by simpa using ed)
    refine ⟨l', v', by simpa using e1, fun a ha => List.mem_append_right _ (sub a ha), nd', ho, fun S' H' l2 d2 eS k sub2 nd2 v2 ho2 => ?_⟩
    obtain ⟨l3, nd3, m3, o3⟩ := plug S' H' l2 d2 eS (fun a ha hn o e => k a (List.mem_append_right _ ha) hn o e) (fun a ha hr => sub2 a ha (List.mem_append_right _ hr)) nd2 v2 ho2
    refine ⟨l1 ++ l3, ?_, fun a ha => ?_, ?_⟩
    · refine List.nodup_append.mpr ⟨n1, nd3, fun a ha b hb e => ?_⟩
      subst e
      rcases m3 a hb with ⟨z, _⟩ | z
      · exact n3 a ha a z rfl
      · exact n3 a ha a (sub a (sub2 a z (List.mem_append_left _ ha))) rfl
    · rcases List.mem_append.mp ha with z | z
      · exact .inl ⟨List.mem_append_left _ z, fun y => n3 a z a (sub a y) rfl⟩
      · rcases m3 a z with ⟨y1, y2⟩ | y
        · exact .inl ⟨List.mem_append_right _ y1, y2⟩
        · exact .inr y
    · exact .cons (h.mono eS fun a ha o e => k a (List.mem_append_left _ ha) (fun y => n3 a ha a (sub a y) rfl) o e) o3
theorem OwnU.length {i : Sh} : ∀ {l : List Addr} {vs : List V} {ds : List D}, OwnU c S H i l vs ds → vs.length = ds.length
  | _, _, _, .nil => rfl
  | _, _, _, .cons _ r => congrArg Nat.succ r.length
theorem OwnF.length : ∀ {h : Sh} {l : List Addr} {vs : List V} {ds : List D}, OwnF c S H h l vs ds → vs.length = ds.length
  | _, _, _, _, .nil => rfl
  | _, _, _, _, .cons _ r => congrArg Nat.succ r.length
/-- nothing of it one's own -/
theorem OwnU.flat : ∀ {l : List Addr} {vs : List V} {ds : List D}, OwnU c S H .s l vs ds → l = [] ∧ Reps c S vs ds
  | _, _, _, .nil => ⟨rfl, .nil⟩
  | _, _, _, .cons (.s h) r => let ⟨e, q⟩ := r.flat; ⟨by rw [e]; rfl, .cons h q⟩
theorem OwnU.snoc {i : Sh} : ∀ {l l' : List Addr} {vs : List V} {ds : List D} {v : V} {d : D}, OwnU c S H i l vs ds → OwnT c S H i l' v d → OwnU c S H i (l ++ l') (vs ++ [v]) (ds ++ [d])
  | _, l', _, _, _, _, .nil, h => by
    have := OwnU.cons h (OwnU.nil (c := c) (S := S) (H := H) (h := i))
    rw [List.append_nil] at this
    exact this
  | _, _, _, _, _, _, .cons h r, h' => by
    rw [List.append_assoc]
    exact .cons h (r.snoc h')
end
/-- the first such key's value anew -/
def repD {δ : Type} [DecidableEq δ] : List (δ × D) → δ → D → List (δ × D)
  | [], _, _ => []
  | p :: r, k, d => if p.1 = k then (p.1, d) :: r else p :: repD r k d
section
variable {δ κ : Type} [DecidableEq δ] [DecidableEq κ] {e : δ → κ}
theorem key_ix (he : ∀ a b, e a = e b → a = b) (k : δ) : ∀ {ks : List δ} {vs : List V} {ds : List D} {d' : D}, ks.length = vs.length → vs.length = ds.length → valD (ks.zip ds) k = some d' →
    ∃ j, ds[j]? = some d' ∧ (∀ v', vs[j]? = some v' → valV ((ks.map e).zip vs) (e k) = some v') ∧ ∀ d2, repD (ks.zip ds) k d2 = ks.zip (ds.set j d2)
  | [], _, _, _, _, _, h => by simp [valD] at h
  | _ :: _, [], _, _, h, _, _ => by simp at h
  | _ :: _, _ :: _, [], _, _, h, _ => by simp at h
  | k0 :: ks, v0 :: vs, d0 :: ds, d', h1, h2, h => by
    by_cases q : k0 = k
    · subst q
      have h' : d0 = d' := by simpa [valD] using h
      subst h'
      refine ⟨0, rfl, fun v' hv => ?_, fun d2 => ?_⟩
      · simp at hv
        subst hv
        exact valV_pos rfl
      · show (if k0 = k0 then _ else _) = _
        rw [if_pos rfl]
        rfl
    · have h' : valD (ks.zip ds) k = some d' := by
        rw [← h]
        simp [valD, List.find?_cons, q]
      obtain ⟨j, e1, e2, e3⟩ := key_ix he k (by simpa using h1) (by simpa using h2) h'
      refine ⟨j + 1, by simpa using e1, fun v' hv => ?_, fun d2 => ?_⟩
      · show valV ((e k0, v0) :: (ks.map e).zip vs) (e k) = some v'
        rw [valV_neg (p := (e k0, v0)) (fun z => q (he _ _ z))]
        exact e2 v' (by simpa using hv)
      · show (if k0 = k then _ else (k0, d0) :: repD (ks.zip ds) k d2) = _
        rw [if_neg q, e3 d2]
        rfl
end
/-! ### a place: what stands there, and the frame behind a change -/
def Foc (c : Ct) (B S0 : Hp) (M : Mz) (Γ : List Md) (L : List (List Addr)) (σ : L2.St) (H : Hp) (h : Sh) (v : V) (d : D) (s : D → Option (List D)) : Prop :=
  ∃ l : List Addr, l.Nodup ∧ (∀ a ∈ l, In L a) ∧ OwnT c (hide (Msk M L) H) H h l v d ∧
    ∀ H2 l2 d2 ρ2, (∀ a o, a ∉ l → H a = some o → H2 a = some o) → (∀ a ∈ l2, a ∈ l ∨ H a = none) → l2.Nodup → OwnT c (hide (fun a => (Msk M L a ∧ a ∉ l) ∨ a ∈ l2) H2) H2 h l2 v d2 → s d2 = some ρ2 →
      ∃ L2, EnvR c B S0 M Γ L2 σ H2 ρ2 ∧ ∀ a, Msk M L2 a → (Msk M L a ∧ a ∉ l) ∨ a ∈ l2
section
variable {c : Ct} {B S0 H H' : Hp} {M : Mz} {Γ : List Md} {L : List (List Addr)} {σ : L2.St} {ρ : List D} {h : Sh} {v : V} {d : D} {s : D → Option (List D)}
theorem slot_o (E : EnvR c B S0 M Γ L σ H ρ) {i : Nat} {pin : Bool} (hm : Γ[i]? = some (.o h pin)) : ∃ l v d, L[i]? = some l ∧ σ[i]? = some (some v) ∧ ρ[i]? = some d ∧ l.Nodup ∧ (pin = true → v = .ref M.z) ∧ OwnT c (hide (Msk M L) H) H h l v d := by
  obtain ⟨l, x, d, h1, h2, h3, nd, v, e, hp, ho⟩ := E.sl.get hm
  subst e
  exact ⟨l, v, d, h1, h2, h3, nd, hp, ho⟩
theorem foc_slot (E : EnvR c B S0 M Γ L σ H ρ) {i : Nat} {pin : Bool} (hm : Γ[i]? = some (.o h pin)) : ∃ v d, σ[i]? = some (some v) ∧ ρ[i]? = some d ∧ Foc c B S0 M Γ L σ H h v d fun d2 => some (ρ.set i d2) := by
  obtain ⟨l, v, d, h1, h2, h3, nd, hp, ho⟩ := slot_o E hm
  refine ⟨v, d, h2, h3, l, nd, fun a ha => ⟨l, List.mem_of_getElem? h1, ha⟩, ho, fun H2 l2 d2 ρ2 keep fresh nd2 ho2 hs => ?_⟩
  cases hs
  have il : ∀ a ∈ l, In L a := fun a ha => ⟨l, List.mem_of_getElem? h1, ha⟩
  have sub : ∀ a, Msk M (L.set i l2) a → (Msk M L a ∧ a ∉ l) ∨ a ∈ l2 := fun a z => by
    rcases z with z | z
    · exact .inl ⟨.inl z, fun y => (E.hm a z).2 (il a y)⟩
    · rcases In.set_ap E.ap h1 z with ⟨y1, y2⟩ | y
      · exact .inl ⟨.inr y1, y2⟩
      · exact .inr y
  have E2 := E.change (m' := .o h pin) (x' := some v) (d' := d2) i h1 keep fresh (fun a ha => ho2.there a ha) ⟨nd2, v, rfl, hp, ho2.mono (hide_le fun a o z q => ⟨fun y => z (sub a y), q⟩) fun _ _ _ h => h⟩
  rw [list_set_self hm, list_set_self h2] at E2
  exact ⟨_, E2, sub⟩
def optA : Option Addr → List Addr
  | some a => [a]
  | none => []
/-- from a part back to the whole -/
theorem Foc.part {hq : Sh} {a0 : Option Addr} {l l0 l' : List Addr} {h' : Sh} {v' : V} {d' : D} {w : D → D} (nd : l.Nodup) (il : ∀ a ∈ l, In L a) (el : l = optA a0 ++ l0)
    (hole : ∀ H2 l2 d2 ρ2, (∀ a o, a ∉ l → H a = some o → H2 a = some o) → (∀ a ∈ l2, a ∈ l ∨ H a = none) → l2.Nodup → OwnT c (hide (fun a => (Msk M L a ∧ a ∉ l) ∨ a ∈ l2) H2) H2 hq l2 v d2 → s d2 = some ρ2 →
      ∃ L2, EnvR c B S0 M Γ L2 σ H2 ρ2 ∧ ∀ a, Msk M L2 a → (Msk M L a ∧ a ∉ l) ∨ a ∈ l2)
    (sub : ∀ a ∈ l', a ∈ l0) (nd' : l'.Nodup) (ho : OwnT c (hide (Msk M L) H) H h' l' v' d') (there : ∀ a ∈ l, Mut (H a))
    (plug : ∀ S' H' l2 d2, Ex (hide (Msk M L) H) S' → (∀ a ∈ l, a ∉ l' → ∀ o, H a = some o → H' a = some o) → (∀ a ∈ l2, a ∈ l0 → a ∈ l') → l2.Nodup → OwnT c S' H' h' l2 v' d2 → ∃ l3, l3.Nodup ∧ (∀ a ∈ l3, (a ∈ l0 ∧ a ∉ l') ∨ a ∈ l2) ∧ OwnT c S' H' hq (optA a0 ++ l3) v (w d2)) :
    Foc c B S0 M Γ L σ H h' v' d' fun d2 => s (w d2) := by
  have l0l : ∀ a ∈ l0, a ∈ l := fun a ha => by rw [el]; exact List.mem_append_right _ ha
  refine ⟨l', nd', fun a ha => il a (l0l a (sub a ha)), ho, fun H2 l2 d2 ρ2 keep fresh nd2 ho2 hs => ?_⟩
  have some_of : ∀ a ∈ l, H a ≠ none := fun a ha z => by
    have q := there a ha
    rw [z] at q
    exact q
  have e1 : Ex (hide (Msk M L) H) (hide (fun a => (Msk M L a ∧ a ∉ l') ∨ a ∈ l2) H2) := hide_le fun a o z q => ⟨fun y => (by
    rcases y with ⟨y, _⟩ | y
    · exact z y
    · rcases fresh a y with y | y
      · exact z (.inr (il a (l0l a (sub a y))))
      · rw [q] at y; cases y), keep a o (fun y => z (.inr (il a (l0l a (sub a y))))) q⟩
  obtain ⟨l3, nd3, m3, o3⟩ := plug _ H2 l2 d2 e1 (fun a _ hn o e => keep a o hn e) (fun a ha h0 => by
    rcases fresh a ha with z | z
    · exact z
    · exact absurd z (some_of a (l0l a h0))) nd2 ho2
  have n3 := (List.nodup_append.mp (el ▸ nd)).2.2
  have hd : ∀ a ∈ optA a0, a ∈ l ∧ a ∉ l3 ∧ a ∉ l' := fun a ha => by
    refine ⟨by rw [el]; exact List.mem_append_left _ ha, fun z => ?_, fun z => n3 a ha a (sub a z) rfl⟩
    rcases m3 a z with ⟨y, _⟩ | y
    · exact n3 a ha a y rfl
    · rcases fresh a y with y | y
      · exact n3 a ha a (sub a y) rfl
      · exact some_of a (by rw [el]; exact List.mem_append_left _ ha) y
  have mk : ∀ a, (Msk M L a ∧ a ∉ l) ∨ a ∈ optA a0 ++ l3 → (Msk M L a ∧ a ∉ l') ∨ a ∈ l2 := fun a z => by
    rcases z with ⟨z, y⟩ | z
    · exact .inl ⟨z, fun w => y (l0l a (sub a w))⟩
    · rcases List.mem_append.mp z with z | z
      · exact .inl ⟨.inr (il a (hd a z).1), (hd a z).2.2⟩
      · rcases m3 a z with ⟨y, w⟩ | y
        · exact .inl ⟨.inr (il a (l0l a y)), w⟩
        · exact .inr y
  obtain ⟨L2, E2, m2⟩ := hole H2 _ (w d2) ρ2 (fun a o hn q => keep a o (fun z => hn (l0l a (sub a z))) q) (fun a ha => by
    rcases List.mem_append.mp ha with z | z
    · exact .inl (hd a z).1
    · rcases m3 a z with ⟨y, _⟩ | y
      · exact .inl (l0l a y)
      · rcases fresh a y with y | y
        · exact .inl (l0l a (sub a y))
        · exact .inr y) (List.nodup_append.mpr ⟨(List.nodup_append.mp (el ▸ nd)).1, nd3, fun a ha b hb e => (hd a ha).2.1 (by rw [e]; exact hb)⟩) (o3.mono (hide_le fun a o z q => ⟨fun y => z (mk a y), q⟩) fun _ _ _ h => h) hs
  exact ⟨L2, E2, fun a z => mk a (m2 a z)⟩
end
section
variable {c : Ct} {B S0 H H' : Hp} {M : Mz} {Γ : List Md} {L : List (List Addr)} {σ : L2.St} {ρ : List D} {h : Sh} {v : V} {d : D} {s : D → Option (List D)}
theorem Foc.fld {k : Cl} {hs h' : Sh} {ds : List D} {j : Nat} {d' : D} (F : Foc c B S0 M Γ L σ H (.obj k hs) v (.obj k ds) s) (hj : shN hs j = some h') (hd : ds[j]? = some d') :
    ∃ a dx vs v', v = .ref a ∧ H a = some (.ins (c.ca k) dx ((flds k).zip vs)) ∧ vs[j]? = some v' ∧ Foc c B S0 M Γ L σ H h' v' d' fun d2 => s (.obj k (ds.set j d2)) := by
  obtain ⟨l, nd, il, ho, hole⟩ := F
  have there := ho.there
  cases ho with
  | @obj _ a dx l0 vs _ _ hH r =>
    obtain ⟨l', v', e1, sub, nd', o', plug⟩ := r.focus (List.nodup_cons.mp nd).2 hj hd
    refine ⟨a, dx, vs, v', rfl, hH, e1, Foc.part (a0 := some a) (l0 := l0) (w := fun d2 => .obj k (ds.set j d2)) nd il rfl hole sub nd' o' there fun S' H2 l2 d2 eS kp sb n2 o2 => ?_⟩
    obtain ⟨l3, n3, m3, o3⟩ := plug S' H2 l2 d2 eS (fun b hb hn o e => kp b (.tail _ hb) hn o e) sb n2 v' o2
    rw [list_set_self e1] at o3
    exact ⟨l3, n3, m3, .obj (kp a (.head _) (fun z => (List.nodup_cons.mp nd).1 (sub a z)) _ hH) o3⟩
theorem Foc.keyT {i : Sh} {kvs : List (List Int × D)} {k : List Int} {d' : D} (F : Foc c B S0 M Γ L σ H (.dT i) v (.dT kvs) s) (hd : valD kvs k = some d') :
    ∃ a es v', v = .ref a ∧ H a = some (.dT es) ∧ valV es (eT k) = some v' ∧ Foc c B S0 M Γ L σ H i v' d' fun d2 => s (.dT (repD kvs k d2)) := by
  obtain ⟨l, nd, il, ho, hole⟩ := F
  have there := ho.there
  generalize eq : D.dT kvs = dd at ho
  cases ho with
  | @dT _ a l0 ks vs ds hl hH r =>
    cases eq
    obtain ⟨j, e1, e2, e3⟩ := key_ix (e := eT) eT_inj k hl r.length hd
    obtain ⟨l', v', e4, sub, nd', o', plug⟩ := r.focus (List.nodup_cons.mp nd).2 e1
    refine ⟨a, _, v', rfl, hH, e2 v' e4, Foc.part (a0 := some a) (l0 := l0) (w := fun d2 => .dT (repD (ks.zip ds) k d2)) nd il rfl hole sub nd' o' there fun S' H2 l2 d2 eS kp sb n2 o2 => ?_⟩
    obtain ⟨l3, n3, m3, o3⟩ := plug S' H2 l2 d2 eS (fun b hb hn o e => kp b (.tail _ hb) hn o e) sb n2 v' o2
    rw [list_set_self e4] at o3
    refine ⟨l3, n3, m3, ?_⟩
    rw [e3 d2]
    exact .dT hl (kp a (.head _) (fun z => (List.nodup_cons.mp nd).1 (sub a z)) _ hH) o3
  | _ => cases eq
theorem Foc.keyI {i : Sh} {kvs : List (Int × D)} {k : Int} {d' : D} (F : Foc c B S0 M Γ L σ H (.dI i) v (.dI kvs) s) (hd : valD kvs k = some d') :
    ∃ a es v', v = .ref a ∧ H a = some (.dK es) ∧ valV es (eI k) = some v' ∧ Foc c B S0 M Γ L σ H i v' d' fun d2 => s (.dI (repD kvs k d2)) := by
  obtain ⟨l, nd, il, ho, hole⟩ := F
  have there := ho.there
  generalize eq : D.dI kvs = dd at ho
  cases ho with
  | @dI _ a l0 ks vs ds hl hH r =>
    cases eq
    obtain ⟨j, e1, e2, e3⟩ := key_ix (e := eI) eI_inj k hl r.length hd
    obtain ⟨l', v', e4, sub, nd', o', plug⟩ := r.focus (List.nodup_cons.mp nd).2 e1
    refine ⟨a, _, v', rfl, hH, e2 v' e4, Foc.part (a0 := some a) (l0 := l0) (w := fun d2 => .dI (repD (ks.zip ds) k d2)) nd il rfl hole sub nd' o' there fun S' H2 l2 d2 eS kp sb n2 o2 => ?_⟩
    obtain ⟨l3, n3, m3, o3⟩ := plug S' H2 l2 d2 eS (fun b hb hn o e => kp b (.tail _ hb) hn o e) sb n2 v' o2
    rw [list_set_self e4] at o3
    refine ⟨l3, n3, m3, ?_⟩
    rw [e3 d2]
    exact .dI hl (kp a (.head _) (fun z => (List.nodup_cons.mp nd).1 (sub a z)) _ hH) o3
  | _ => cases eq
theorem Foc.tup {hs h' : Sh} {ds : List D} {j : Nat} {d' : D} (F : Foc c B S0 M Γ L σ H (.tup hs) v (.tup ds) s) (hj : shN hs j = some h') (hd : ds[j]? = some d') :
    ∃ a vs v', v = .ref a ∧ H a = some (.tup vs) ∧ vs[j]? = some v' ∧ vs.length = ds.length ∧ Foc c B S0 M Γ L σ H h' v' d' fun d2 => s (.tup (ds.set j d2)) := by
  obtain ⟨l, nd, il, ho, hole⟩ := F
  have there := ho.there
  cases ho with
  | @tup _ a _ vs _ hH r =>
    obtain ⟨l', v', e1, sub, nd', o', plug⟩ := r.focus nd hj hd
    refine ⟨a, vs, v', rfl, (hide_of hH).2, e1, r.length, Foc.part (a0 := none) (l0 := l) (w := fun d2 => .tup (ds.set j d2)) nd il rfl hole sub nd' o' there fun S' H2 l2 d2 eS kp sb n2 o2 => ?_⟩
    obtain ⟨l3, n3, m3, o3⟩ := plug S' H2 l2 d2 eS (fun b hb hn o e => kp b hb hn o e) sb n2 v' o2
    rw [list_set_self e1] at o3
    exact ⟨l3, n3, m3, .tup (eS _ _ hH) o3⟩
end
/-! ### places in the text -/
abbrev Lens := List D → Option (D × (D → Option (List D)))
def DPl (c : Ct) (Γ : List Md) (t : TE) (h : Sh) (g : Lens) : Prop :=
  ∀ (B S0 : Hp) (M : Mz) (L : List (List Addr)) (σ : L2.St) (H : Hp) (ρ : List D), EnvR c B S0 M Γ L σ H ρ → ∀ d s, g ρ = some (d, s) → ∃ v, Foc c B S0 M Γ L σ H h v d s ∧ ∀ H1, Ex H H1 → ∀ Q : VK, (∀ H2, Ex H1 H2 → Q v H2) → t σ H1 Q
def PPl (X : Cx) (ca : Cl → Addr) (Γ : List Md) (e : Expr) (h : Sh) (g : Lens) : Prop := ∃ t, PE X e t ∧ DPl ⟨X.K, ca⟩ Γ t h g
def plVK (i : Nat) (ρ : List D) : Option D → Option (D × (D → Option (List D)))
  | some d => some (d, fun d2 => some (ρ.set i d2))
  | none => none
def plV (i : Nat) : Lens := fun ρ => plVK i ρ ρ[i]?
def plFK (k : Cl) (j : Nat) : Option (D × (D → Option (List D))) → Option (D × (D → Option (List D)))
  | some (.obj k' ds, s) => if k' = k then (ds[j]?).map fun d => (d, fun d2 => s (.obj k' (ds.set j d2))) else none
  | _ => none
def plF (k : Cl) (j : Nat) (g : Lens) : Lens := fun ρ => plFK k j (g ρ)
def plKK : Option (D × (D → Option (List D))) → Option D → Option (D × (D → Option (List D)))
  | some (.dT kvs, s), some b => (asT b).bind fun k => (valD kvs k).map fun d => (d, fun d2 => s (.dT (repD kvs k d2)))
  | some (.dI kvs, s), some b => (asI b).bind fun k => (valD kvs k).map fun d => (d, fun d2 => s (.dI (repD kvs k d2)))
  | _, _ => none
def plK (g : Lens) (f : DFn) : Lens := fun ρ => plKK (g ρ) (f ρ)
def plG (g : Lens) : DFn := fun ρ => (g ρ).map (·.1)
section
variable {X : Cx} {ca : Cl → Addr} {Γ : List Md} {pos : Pos} {e b : Expr} {h h' hs : Sh} {g : Lens} {fb : DFn} {mb : Vm}
theorem pl_var (i : Nat) {x : Str} {pin : Bool} (hm : Γ[i]? = some (.o h pin) := by rfl) (hN : X.N[i]? = some x := by rfl) (hv : Vis X.env.scope x := by first | exact Or.inl rfl | exact Or.inr (Or.inl rfl) | exact Or.inr (Or.inr rfl)) (hd : (x == ("__debug__" : Str)) = false := by decide)
    (hcd : (x == ("__classdict__" : Str)) = false := by decide) : PPl X ca Γ (.Name x pos) h (plV i) := by
  refine ⟨_, pe_var hN hv hd hcd, fun B S0 M L σ H ρ E d s hg => ?_⟩
  obtain ⟨v, d', h2, h3, F⟩ := foc_slot E hm
  unfold plV at hg
  rw [h3] at hg
  cases hg
  exact ⟨v, F, fun H1 x1 Q q => ⟨v, h2, q H1 (Ex.refl _)⟩⟩
theorem pl_fld (k : Cl) (j : Nat) {f : Str} (hk : ClsOk X.K ca k) (he : PPl X ca Γ e (.obj k hs) g) (hj : shN hs j = some h' := by rfl) (hf : (flds k)[j]? = some f := by rfl) (hnd : (flds k).Nodup := by decide +kernel)
    (hb : attributeBase e f X.env (eval e X.env) = eval e X.env := by rfl) : PPl X ca Γ (.Attribute e f pos) h' (plF k j g) := by
  obtain ⟨t, p, q⟩ := he
  refine ⟨_, pe_fld p hb, fun B S0 M L σ H ρ E d s hg => ?_⟩
  unfold plF at hg
  cases hgr : g ρ with
  | none => rw [hgr] at hg; cases hg
  | some pr =>
    obtain ⟨dd, ss⟩ := pr
    rw [hgr] at hg
    cases dd with
    | obj k' ds =>
      have hg' : (if k' = k then (ds[j]?).map fun d => (d, fun d2 => ss (.obj k' (ds.set j d2))) else none) = some (d, s) := hg
      split at hg'
      · rename_i ek
        subst ek
        obtain ⟨d', e2, e3⟩ := Option.map_eq_some_iff.mp hg'
        cases e3
        obtain ⟨v, F, go⟩ := q B S0 M L σ H ρ E _ ss hgr
        obtain ⟨a, dx, vs, v', ev, hH, hv, F'⟩ := F.fld hj e2
        refine ⟨v', F', fun H1 x1 Q kk => go H1 x1 _ fun H2 x2 => ?_⟩
        exact ⟨a, _, dx, _, v', ev, x2 _ _ (x1 _ _ hH), hk.cls, hk.no f (List.mem_of_getElem? hf), zip_lookup hnd hf hv, kk H2 x2⟩
      · cases hg'
    | _ => cases hg
theorem pl_key (hr : X.A.units + 1 < cLine) {hh : Sh} (he : PPl X ca Γ e hh g) (hb : PDE X ca Γ b mb fb) (hh1 : hh = .dT h ∨ hh = .dI h := by first | exact .inl rfl | exact .inr rfl) (hs : NoSl b := by exact fun _ _ => rfl) : PPl X ca Γ (.Subscript e b pos) h (plK g fb) := by
  obtain ⟨t, p, q⟩ := he
  obtain ⟨u, p2, q2⟩ := hb
  refine ⟨_, pe_dget hr p p2 hs, fun B S0 M L σ H ρ E d s hg => ?_⟩
  unfold plK at hg
  cases hgr : g ρ with
  | none => rw [hgr] at hg; cases hg
  | some pr =>
    cases hbr : fb ρ with
    | none => obtain ⟨dd, ss⟩ := pr; rw [hgr, hbr] at hg; cases dd <;> cases hg
    | some k0 =>
      obtain ⟨dd, ss⟩ := pr
      rw [hgr, hbr] at hg
      obtain ⟨v, F, go⟩ := q B S0 M L σ H ρ E _ ss hgr
      rcases hh1 with rfl | rfl
      · cases dd with
        | dT kvs =>
          obtain ⟨ks, e3, hg⟩ := bind_some (show ((asT k0).bind fun k => (valD kvs k).map fun d => (d, fun d2 => ss (.dT (repD kvs k d2)))) = some (d, s) from hg)
          obtain ⟨d', e4, e5⟩ := Option.map_eq_some_iff.mp hg
          cases e5
          obtain ⟨a, es, v', ev, hH, hv, F'⟩ := F.keyT e4
          refine ⟨v', F', fun H1 x1 Q kk => go H1 x1 _ fun H2 x2 => ?_⟩
          refine q2 B S0 M L σ H2 ρ ((E.ext x1).ext x2) k0 hbr _ fun w H3 x3 rk => ?_
          have E3 := ((E.ext x1).ext x2).ext x3
          obtain ⟨bk, rfl, hkk⟩ := (rk.rep E3.eb).key e3
          exact ⟨a, v', ev, hv ▸ DGet.t (x3 _ _ (x2 _ _ (x1 _ _ hH))) hkk, kk H3 (x2.trans x3)⟩
        | dI kvs =>
          obtain ⟨l, _, _, ho, _⟩ := F
          cases ho
        | _ => cases hg
      · cases dd with
        | dI kvs =>
          obtain ⟨ks, e3, hg⟩ := bind_some (show ((asI k0).bind fun k => (valD kvs k).map fun d => (d, fun d2 => ss (.dI (repD kvs k d2)))) = some (d, s) from hg)
          obtain ⟨d', e4, e5⟩ := Option.map_eq_some_iff.mp hg
          cases e5
          obtain ⟨a, es, v', ev, hH, hv, F'⟩ := F.keyI e4
          cases k0 with
          | int n =>
            cases e3
            refine ⟨v', F', fun H1 x1 Q kk => go H1 x1 _ fun H2 x2 => ?_⟩
            refine q2 B S0 M L σ H2 ρ ((E.ext x1).ext x2) _ hbr _ fun w H3 x3 rk => ?_
            have E3 := ((E.ext x1).ext x2).ext x3
            have ew := (rk.rep E3.eb).int_inv
            subst ew
            exact ⟨a, v', ev, hv ▸ DGet.k (k := eI ks) (x3 _ _ (x2 _ _ (x1 _ _ hH))), kk H3 (x2.trans x3)⟩
          | _ => cases e3
        | dT kvs =>
          obtain ⟨l, _, _, ho, _⟩ := F
          cases ho
        | _ => cases hg
theorem plG_some {ρ : List D} {d : D} (h : plG g ρ = some d) : ∃ s, g ρ = some (d, s) := by
  obtain ⟨⟨d0, s⟩, e1, e2⟩ := Option.map_eq_some_iff.mp h
  cases e2
  exact ⟨s, e1⟩
/-- what stands at a place, for now -/
theorem pd_pl (he : PPl X ca Γ e h g) : PDE X ca Γ e .t (plG g) := by
  obtain ⟨t, p, q⟩ := he
  refine ⟨t, p, fun B S0 M L σ H ρ E d hd Q kk => ?_⟩
  obtain ⟨s, e1⟩ := plG_some hd
  obtain ⟨v, F, go⟩ := q B S0 M L σ H ρ E d s e1
  exact go H (Ex.refl _) Q fun H2 x2 => kk v H2 x2 (let ⟨l, _, _, ho, _⟩ := F; Rep.mono x2 (ho.rep hide_ex fun _ _ _ h => h))
/-- .. shared -/
theorem pd_plS (he : PPl X ca Γ e .s g) : PDE X ca Γ e .s (plG g) := by
  obtain ⟨t, p, q⟩ := he
  refine ⟨t, p, fun B S0 M L σ H ρ E d hd Q kk => ?_⟩
  obtain ⟨s, e1⟩ := plG_some hd
  obtain ⟨v, F, go⟩ := q B S0 M L σ H ρ E d s e1
  exact go H (Ex.refl _) Q fun H2 x2 => kk v H2 x2 (by
    obtain ⟨l, _, _, ho, _⟩ := F
    cases ho with
    | s h => exact Rep.mono (hide_mono x2) h)
end
end DL

/-! DL: new things of a shape; places changed. -/
namespace DL
open PySem PySem.Spec PyProof.Rows L2
def shOk : Sh → D → Bool
  | .lst i, .lst ds => decide (i = .s) || ds.isEmpty
  | .dT i, .dT kvs => decide (i = .s) || kvs.isEmpty
  | .dI i, .dI kvs => decide (i = .s) || kvs.isEmpty
  | _, _ => false
theorem zip_nil_of {α β : Type} : ∀ {ks : List α} {ds : List β}, ks.length = ds.length → (ks.zip ds).isEmpty = true → ks = [] ∧ ds = []
  | [], [], _, _ => ⟨rfl, rfl⟩
  | _ :: _, [], h, _ => by simp at h
  | [], _ :: _, h, _ => by simp at h
  | _ :: _, _ :: _, _, h => by simp at h
section
variable {c : Ct} {S H : Hp}
theorem Reps.typ {i : Sh} {vs : List V} {ds : List D} (r : Reps c S vs ds) (h : i = .s ∨ ds = []) : OwnU c S H i [] vs ds := by
  rcases h with rfl | rfl
  · exact OwnU.sh r
  · cases r
    exact .nil
theorem Own.typ {p : Addr} {d : D} {h : Sh} (r : Own c S H [p] (.ref p) d) (hk : shOk h d = true) : OwnT c S H h [p] (.ref p) d := by
  cases r with
  | lst hH r =>
    cases h with
    | lst i =>
      refine .lst hH ((r.flat rfl).typ ?_)
      rcases Bool.or_eq_true_iff.mp (show (decide (i = .s) || _) = true from hk) with z | z
      · exact .inl (of_decide_eq_true z)
      · exact .inr (List.isEmpty_iff.mp z)
    | _ => cases hk
  | dI hl hH r =>
    cases h with
    | dI i =>
      refine .dI hl hH ((r.flat rfl).typ ?_)
      rcases Bool.or_eq_true_iff.mp (show (decide (i = .s) || _) = true from hk) with z | z
      · exact .inl (of_decide_eq_true z)
      · exact .inr (zip_nil_of (hl.trans (r.flat rfl).length) z).2
    | _ => cases hk
  | dT hl hH r =>
    cases h with
    | dT i =>
      refine .dT hl hH ((r.flat rfl).typ ?_)
      rcases Bool.or_eq_true_iff.mp (show (decide (i = .s) || _) = true from hk) with z | z
      · exact .inl (of_decide_eq_true z)
      · exact .inr (zip_nil_of (hl.trans (r.flat rfl).length) z).2
    | _ => cases hk
  | obj hH r =>
    cases h with
    | _ => cases hk
end
/-! ### new things -/
def DNw (c : Ct) (Γ : List Md) (t : TE) (h : Sh) (f : DFn) : Prop :=
  ∀ (B S0 : Hp) (M : Mz) (L : List (List Addr)) (σ : L2.St) (H : Hp) (ρ : List D), EnvR c B S0 M Γ L σ H ρ → ∀ d, f ρ = some d → ∀ Q : VK,
    (∀ v l H', Ex H H' → l.Nodup → (∀ a ∈ l, H a = none) → OwnT c (hide (fun a => Msk M L a ∨ a ∈ l) H') H' h l v d → Q v H') → t σ H Q
def PNW (X : Cx) (ca : Cl → Addr) (Γ : List Md) (e : Expr) (h : Sh) (f : DFn) : Prop := ∃ t, PE X e t ∧ DNw ⟨X.K, ca⟩ Γ t h f
def shK (h : Sh) : Option D → Option D
  | some d => if shOk h d = true then some d else none
  | none => none
def dSh (h : Sh) (f : DFn) : DFn := fun ρ => shK h (f ρ)
theorem shK_some {h : Sh} {o : Option D} {d : D} (e : shK h o = some d) : o = some d ∧ shOk h d = true := by
  cases o with
  | none => cases e
  | some x =>
    have e' : (if shOk h x = true then some x else none) = some d := e
    split at e'
    · cases e'; exact ⟨rfl, by assumption⟩
    · cases e'
section
variable {X : Cx} {ca : Cl → Addr} {W : WX} {J : Jd} {Γ : List Md} {e : Expr} {f : DFn} {h : Sh} {pos pos' : Pos} {x : Str}
theorem pnw_n (h : Sh) (he : PDN X ca Γ e f) : PNW X ca Γ e h (dSh h f) := by
  obtain ⟨t, p, q⟩ := he
  refine ⟨t, p, fun B S0 M L σ H ρ E d hd Q kk => ?_⟩
  obtain ⟨e1, e2⟩ := shK_some hd
  refine q B S0 M L σ H ρ E d e1 Q fun a H' x1 hn ho => kk _ [a] H' x1 (by simp) (fun b hb => by
    have : b = a := by simpa using hb
    subst this; exact hn) ?_
  have eq : (fun b => Msk M L b ∨ b ∈ [a]) = fun b => Msk M L b ∨ b = a := funext fun b => by simp
  rw [eq]
  exact ho.typ e2
theorem pnw_s (he : PDE X ca Γ e .s f) : PNW X ca Γ e .s f := by
  obtain ⟨t, p, q⟩ := he
  refine ⟨t, p, fun B S0 M L σ H ρ E d hd Q kk => ?_⟩
  refine q B S0 M L σ H ρ E d hd Q fun v H' x1 r => kk v [] H' x1 List.nodup_nil (fun _ h => by cases h) (.s ?_)
  have r' : Rep ⟨X.K, ca⟩ (hide (Msk M L) H') v d := r
  exact r'.mono (hide_le fun a o z q => ⟨fun y => (by
    rcases y with y | y
    · exact z y
    · cases y), q⟩)
theorem DNw.seto {c : Ct} {t : TE} (q : DNw c Γ t h f) (i : Nat) : DS c W J Γ (tAsg t (gName i)) (Γ.set i (.o h false)) (dAsg i f) := fun B S0 M L σ H ρ N E p => by
  unfold dAsg at p
  cases hd : f ρ with
  | none => rw [hd] at p; exact p.elim
  | some d =>
    rw [hd] at p
    refine q B S0 M L σ H ρ E d hd _ fun v l H' x1 nd hn ho => p _ _ _ (E.put x1 i hn (fun a ha => ho.there a ha) ⟨nd, v, rfl, (fun z => nomatch z), ho.mono (hide_le fun a o z q => ⟨fun y => z ?_, q⟩) fun _ _ _ h => h⟩)
    rcases y with y | y
    · exact .inl (.inl y)
    · rcases y.set with y | y
      · exact .inl (.inr y)
      · exact .inr y
/-- x = e, all new -/
theorem pds_seto (i : Nat) (he : PNW X ca Γ e h f) (hN : X.N.Nodup) (hi : X.N[i]? = some x := by rfl) (hx : Loc X.env.scope x := by first | exact Or.inl rfl | exact Or.inr rfl) (hs : swapsWith e (some (.Name x pos')) pos.line X.env = pure false := by rfl) (hf : X.fn x = true ∨ X.env.scope.names.lookup x = some .local := by first | exact .inl rfl | exact .inr rfl) :
    PDS X ca W J Γ (.Assign [.Name x pos'] e pos) (Γ.set i (.o h false)) (dAsg i f) := let ⟨t, p, q⟩ := he; ⟨_, ps_set hN hi hx p hs hf, q.seto i⟩
/-- return, all new -/
def dRett (f : DFn) : SFn := fun ρ => match f ρ with
  | some d => .rett d
  | none => .bad
theorem pds_rett {Γ' : List Md} (he : PNW X ca Γ e h f) (hr : J.rh = some h := by rfl) : PDS X ca W J Γ (.Return (some e) pos) Γ' (dRett f) := by
  obtain ⟨t, p, q⟩ := he
  refine ⟨_, ps_ret p, fun B S0 M L σ H ρ N E pp => ?_⟩
  unfold dRett at pp
  cases hd : f ρ with
  | none => rw [hd] at pp; exact pp.elim
  | some d =>
    rw [hd] at pp
    have pp' : (match J.rh with | some h => ∀ v H, Ex B H → ResH ⟨X.K, ca⟩ B M h H v d → N.rt v H | none => False) := pp
    rw [hr] at pp'
    refine q B S0 M L σ H ρ E d hd _ fun v l H' x1 nd hn ho => pp' v H' (E.eb.trans x1) (.inr ⟨l, nd, fun a ha => ⟨E.eb.free (hn a ha), E.noM (hn a ha)⟩, ho.mono (hide_le fun a o z q => ⟨fun y => z (by
      rcases y with y | y
      · exact .inl (.inl y)
      · exact .inr y), q⟩) fun _ _ _ h => h⟩)
/-- return None, where else something new is handed back -/
theorem pds_rett0 {Γ' : List Md} {j} {pos2 : Pos} (hr : J.rh = some h := by rfl) : PDS X ca W J Γ (.Return (some (.Constant .none j pos2)) pos) Γ' (fun _ => .rett .non) := by
  refine ⟨_, ps_ret pe_non, fun B S0 M L σ H ρ N E pp => ?_⟩
  have pp' : (match J.rh with | some h => ∀ v H, Ex B H → ResH ⟨X.K, ca⟩ B M h H v .non → N.rt v H | none => False) := pp
  rw [hr] at pp'
  exact pp' .non H E.eb (.inl ⟨rfl, rfl⟩)
/-- one's own, handed back -/
theorem pnw_var (i : Nat) {pin : Bool} (hm : Γ[i]? = some (.o h pin) := by rfl) (hN : X.N[i]? = some x := by rfl) (hv : Vis X.env.scope x := by first | exact Or.inl rfl | exact Or.inr (Or.inl rfl) | exact Or.inr (Or.inr rfl)) (hd : (x == ("__debug__" : Str)) = false := by decide)
    (hcd : (x == ("__classdict__" : Str)) = false := by decide) (hr : J.rh = some h := by rfl) {Γ' : List Md} : PDS X ca W J Γ (.Return (some (.Name x pos')) pos) Γ' (dRett (dVar i)) := by
  refine ⟨_, ps_ret (pe_var hN hv hd hcd), fun B S0 M L σ H ρ N E pp => ?_⟩
  obtain ⟨l, v, d, h1, h2, h3, nd, hp, ho⟩ := slot_o E hm
  have e : dRett (dVar i) ρ = .rett d := by
    unfold dRett dVar
    rw [h3]
  rw [e] at pp
  have pp' : (match J.rh with | some h => ∀ v H, Ex B H → ResH ⟨X.K, ca⟩ B M h H v d → N.rt v H | none => False) := pp
  rw [hr] at pp'
  have il : ∀ a ∈ l, In L a := fun a ha => ⟨l, List.mem_of_getElem? h1, ha⟩
  refine ⟨v, h2, pp' v H E.eb (.inr ⟨l, nd, fun a ha => ⟨(E.hl a (il a ha)).2, fun z => (E.hm a z).2 (il a ha)⟩, ho.mono (hide_le fun a o z q => ⟨fun y => z ?_, q⟩) fun _ _ _ h => h⟩)⟩
  rcases y with y | y
  · exact .inl y
  · exact .inr (il a y)
end
/-! ### places changed -/
section
variable {c : Ct} {B S0 H H' : Hp} {M : Mz} {Γ : List Md} {L : List (List Addr)} {σ : L2.St} {ρ : List D} {h : Sh} {v : V} {d : D} {s : D → Option (List D)}
theorem Foc.upd {l : List Addr} (il : ∀ a ∈ l, In L a)
    (hole : ∀ H2 l2 d2 ρ2, (∀ a o, a ∉ l → H a = some o → H2 a = some o) → (∀ a ∈ l2, a ∈ l ∨ H a = none) → l2.Nodup → OwnT c (hide (fun a => (Msk M L a ∧ a ∉ l) ∨ a ∈ l2) H2) H2 h l2 v d2 → s d2 = some ρ2 →
      ∃ L2, EnvR c B S0 M Γ L2 σ H2 ρ2 ∧ ∀ a, Msk M L2 a → (Msk M L a ∧ a ∉ l) ∨ a ∈ l2)
    {H1 H2 : Hp} {l2 ln : List Addr} {d2 : D} {ρ2 : List D} (x1 : Ex H H1) (keep : ∀ b o, b ∉ l → H1 b = some o → H2 b = some o) (mem : ∀ b ∈ l2, b ∈ l ∨ b ∈ ln) (fresh : ∀ b ∈ ln, H b = none) (nd : l2.Nodup)
    (ho : OwnT c (hide (fun b => Msk M L b ∨ b ∈ ln) H2) H2 h l2 v d2) (hs : s d2 = some ρ2) : ∃ L2, EnvR c B S0 M Γ L2 σ H2 ρ2 := by
  obtain ⟨L2, E, _⟩ := hole H2 l2 d2 ρ2 (fun a o hn q => keep a o hn (x1 a o q)) (fun a ha => (mem a ha).imp id (fresh a)) nd (ho.mono (hide_le fun a o z q => ⟨fun y => z (by
    rcases y with ⟨y, _⟩ | y
    · exact .inl y
    · rcases mem a y with y | y
      · exact .inl (.inr (il a y))
      · exact .inr y), q⟩) fun _ _ _ h => h) hs
  exact ⟨L2, E⟩
end
theorem putF_set {f : Str} {v : V} : ∀ {ns : List Str} {vs : List V} {j : Nat}, ns.Nodup → ns[j]? = some f → j < vs.length → putF f v (ns.zip vs) = ns.zip (vs.set j v)
  | [], _, _, _, h, _ => by simp at h
  | _ :: _, [], _, _, _, h => by simp at h
  | n :: ns, w :: vs, 0, nd, h, _ => by
    simp at h
    subst h
    show (if n = n then _ else _) = _
    rw [if_pos rfl]
    rfl
  | n :: ns, w :: vs, j + 1, nd, h, hl => by
    have h' : ns[j]? = some f := by simpa using h
    have ne : ¬ n = f := fun z => by
      subst z
      exact (List.nodup_cons.mp nd).1 (List.mem_of_getElem? h')
    show (if n = f then (n, v) :: ns.zip vs else (n, w) :: putF f v (ns.zip vs)) = _
    rw [if_neg ne, putF_set (List.nodup_cons.mp nd).2 h' (by simpa using hl)]
    rfl
def outO : Option (List D) → Out
  | some ρ => .nx ρ
  | none => .bad
def plSetK (k : Cl) (j : Nat) : Option D → Option (D × (D → Option (List D))) → Out
  | some x, some (.obj k' ds, s) => if k' = k ∧ j < ds.length then outO (s (.obj k (ds.set j x))) else .bad
  | _, _ => .bad
/-- o.f = e, a field anew -/
def dPlSet (k : Cl) (j : Nat) (g : Lens) (f : DFn) : SFn := fun ρ => plSetK k j (f ρ) (g ρ)
def plPutK : Option D → Option (D × (D → Option (List D))) → Option D → Out
  | some x, some (a, s), some b => (match putD' a b x with
    | some a' => outO (s a')
    | none => .bad)
  | _, _, _ => .bad
/-- d[k] = e -/
def dPlPut (g : Lens) (fk fv : DFn) : SFn := fun ρ => plPutK (fv ρ) (g ρ) (fk ρ)
def putN (a b x : D) : Option D := match a with
  | .dT kvs => (asT b).bind fun k => if kvs.length < 100000 ∧ valD kvs k = none then some (.dT (kvs ++ [(k, x)])) else none
  | .dI kvs => (asI b).bind fun k => if kvs.length < 100000 ∧ valD kvs k = none then some (.dI (kvs ++ [(k, x)])) else none
  | _ => none
def plPutNK : Option D → Option (D × (D → Option (List D))) → Option D → Out
  | some x, some (a, s), some b => (match putN a b x with
    | some a' => outO (s a')
    | none => .bad)
  | _, _, _ => .bad
/-- d[k] = e, a new key -/
def dPlPutN (g : Lens) (fk fv : DFn) : SFn := fun ρ => plPutNK (fv ρ) (g ρ) (fk ρ)
def plAppK : Option D → Option (D × (D → Option (List D))) → Out
  | some x, some (.lst ds, s) => if ds.length < 100000 then outO (s (.lst (ds ++ [x]))) else .bad
  | _, _ => .bad
/-- l.append(e) -/
def dPlApp (g : Lens) (f : DFn) : SFn := fun ρ => plAppK (f ρ) (g ρ)
theorem outO_nx {o : Option (List D)} {c : Ct} {B S0 : Hp} {M : Mz} {J : Jd} {W : WX} {Γ' : List Md} {N : Ends} (h : Post c B S0 M J W Γ' N (outO o)) : ∃ ρ, o = some ρ ∧ Post c B S0 M J W Γ' N (.nx ρ) := by
  cases o with
  | none => exact h.elim
  | some ρ => exact ⟨ρ, rfl, h⟩
section
variable {X : Cx} {ca : Cl → Addr} {W : WX} {J : Jd} {Γ : List Md} {e o b : Expr} {f fb : DFn} {h hs i : Sh} {g : Lens} {mb : Vm} {pos pos' apos cpos : Pos} {fn : Str}
theorem pds_ofld (k : Cl) (j : Nat) (hk : ClsOk X.K ca k) (ho : PPl X ca Γ o (.obj k hs) g) (he : PNW X ca Γ e h f) (hj : shN hs j = some h := by rfl) (hf : (flds k)[j]? = some fn := by rfl) (hnd : (flds k).Nodup := by decide +kernel)
    (hsw : swapsWith e (some (.Attribute o fn pos')) pos.line X.env = pure false := by rfl) : PDS X ca W J Γ (.Assign [.Attribute o fn pos'] e pos) Γ (dPlSet k j g f) := by
  obtain ⟨t, p, q⟩ := ho
  obtain ⟨u, p2, q2⟩ := he
  refine ⟨_, ps_fld p p2 hsw, fun B S0 M L σ H ρ N E pp => ?_⟩
  unfold dPlSet at pp
  cases h1 : f ρ with
  | none => rw [h1] at pp; exact pp.elim
  | some x =>
    cases h2 : g ρ with
    | none => rw [h1, h2] at pp; exact pp.elim
    | some pr =>
      obtain ⟨dd, s⟩ := pr
      rw [h1, h2] at pp
      cases dd with
      | obj k' ds =>
        have pp' : Post ⟨X.K, ca⟩ B S0 M J W Γ N (if k' = k ∧ j < ds.length then outO (s (.obj k (ds.set j x))) else .bad) := pp
        split at pp'
        · rename_i hc
          obtain ⟨ek, hjl⟩ := hc
          subst ek
          obtain ⟨ρ2, hs2, pp2⟩ := outO_nx pp'
          refine q2 B S0 M L σ H ρ E x h1 _ fun y ln H1 x1 ndn hfr hov => ?_
          obtain ⟨v, ⟨l, nd, il, hol, hole⟩, go⟩ := q B S0 M L σ H ρ E _ s h2
          refine go H1 x1 _ fun H2 x2 => ?_
          have there := hol.there
          cases hol with
          | @obj _ a dx l0 vs _ _ hH r =>
            have hjv : j < vs.length := by rw [r.length]; exact hjl
            obtain ⟨l', v', e1, sub, nd', o', plug⟩ := r.focus (List.nodup_cons.mp nd).2 hj (List.getElem?_eq_getElem hjl)
            have ma : Msk M L a := .inr (il a (.head _))
            have nln : ∀ b ∈ ln, ∀ o, H b = some o → False := fun b hb o e => by rw [hfr b hb] at e; cases e
            refine ⟨a, _, dx, _, rfl, x2 _ _ (x1 _ _ hH), hk.cls, hk.no fn (List.mem_of_getElem? hf), ?_, ?_⟩
            · rw [List.length_zip]
              exact Nat.lt_of_le_of_lt (Nat.min_le_left _ _) (by cases k' <;> decide)
            · rw [putF_set hnd hf hjv]
              have keep : ∀ b o, b ∉ a :: l0 → H2 b = some o → upd H2 a (.ins (ca k') dx ((flds k').zip (vs.set j y))) b = some o := fun b o hn z => by
                rw [upd_ne (fun e => hn (by rw [e]; exact .head _))]
                exact z
              have ina : ∀ b, In L b → H b ≠ none := fun b hb z => by
                have := (E.hl b hb).1
                rw [z] at this
                exact this
              have hov2 : OwnT ⟨X.K, ca⟩ (hide (fun b => Msk M L b ∨ b ∈ ln) (upd H2 a (.ins (ca k') dx ((flds k').zip (vs.set j y))))) (upd H2 a (.ins (ca k') dx ((flds k').zip (vs.set j y)))) h ln y x :=
                hov.mono (hide_le fun b o z w => ⟨z, by rw [upd_ne (fun e => z (.inl (by rw [e]; exact ma)))]; exact x2 _ _ w⟩) fun b hb o w => by
                  rw [upd_ne (fun e => by subst e; exact ina b (il b (.head _)) (hfr b hb))]
                  exact x2 _ _ w
              obtain ⟨l3, n3, m3, o3⟩ := plug _ (upd H2 a (.ins (ca k') dx ((flds k').zip (vs.set j y)))) ln x (hide_le fun b o z w => ⟨fun zz => (by
                rcases zz with zz | zz
                · exact z zz
                · exact nln b zz o w), by rw [upd_ne (fun e => z (by rw [e]; exact ma))]; exact x2 _ _ (x1 _ _ w)⟩) (fun b hb hn o w => by
                rw [upd_ne (fun e => (List.nodup_cons.mp nd).1 (by rw [← e]; exact hb))]
                exact x2 _ _ (x1 _ _ w)) (fun b hb h0 => absurd (hfr b hb) (ina b (il b (.tail _ h0)))) ndn y hov2
              have na3 : a ∉ l3 := fun z => by
                rcases m3 a z with ⟨z, _⟩ | z
                · exact (List.nodup_cons.mp nd).1 z
                · exact ina a (il a (.head _)) (hfr a z)
              obtain ⟨L2, E2⟩ := Foc.upd (c := ⟨X.K, ca⟩) (ln := ln) (l2 := a :: l3) (d2 := .obj k' (ds.set j x)) il hole (x1.trans x2) keep (fun b hb => by
                rcases List.mem_cons.mp hb with rfl | hb
                · exact .inl (.head _)
                · rcases m3 b hb with ⟨z, _⟩ | z
                  · exact .inl (.tail _ z)
                  · exact .inr z) hfr (List.nodup_cons.mpr ⟨na3, n3⟩) (.obj upd_same o3) hs2
              exact pp2 L2 σ _ E2
        · exact pp'.elim
      | _ => exact pp.elim
theorem pds_oput (hr : X.A.units + 1 < cLine) {hh : Sh} (ho : PPl X ca Γ o hh g) (hb : PDE X ca Γ b mb fb) (he : PDE X ca Γ e .s f) (hh1 : hh = .dT .s ∨ hh = .dI .s := by first | exact .inl rfl | exact .inr rfl)
    (hsw : swapsWith e (some (.Subscript o b pos')) pos.line X.env = pure false := by rfl) : PDS X ca W J Γ (.Assign [.Subscript o b pos'] e pos) Γ (dPlPut g fb f) := by
  obtain ⟨t, p, q⟩ := ho
  obtain ⟨t1, p1, q1⟩ := hb
  obtain ⟨u, p2, q2⟩ := he
  refine ⟨_, ps_dput hr p p1 p2 hsw, fun B S0 M L σ H ρ N E pp => ?_⟩
  unfold dPlPut at pp
  cases h1 : f ρ with
  | none => rw [h1] at pp; exact pp.elim
  | some x =>
    cases h2 : g ρ with
    | none => rw [h1, h2] at pp; exact pp.elim
    | some pr =>
      cases h3 : fb ρ with
      | none => obtain ⟨dd, s⟩ := pr; rw [h1, h2, h3] at pp; exact pp.elim
      | some k0 =>
        obtain ⟨dd, s⟩ := pr
        rw [h1, h2, h3] at pp
        have pp' : Post ⟨X.K, ca⟩ B S0 M J W Γ N (match putD' dd k0 x with | some a' => outO (s a') | none => .bad) := pp
        cases h4 : putD' dd k0 x with
        | none => rw [h4] at pp'; exact pp'.elim
        | some a' =>
          rw [h4] at pp'
          obtain ⟨ρ2, hs2, pp2⟩ := outO_nx pp'
          refine q2 B S0 M L σ H ρ E x h1 _ fun y H1 x1 rv => ?_
          obtain ⟨v, ⟨l, nd, il, hol, hole⟩, go⟩ := q B S0 M L σ H ρ E _ s h2
          refine go H1 x1 _ fun H2 x2 => ?_
          have E2 := (E.ext x1).ext x2
          refine q1 B S0 M L σ H2 ρ E2 k0 h3 _ fun w H3 x3 rk => ?_
          have E3 := E2.ext x3
          have ex3 := (x1.trans x2).trans x3
          have rv3 : Rep ⟨X.K, ca⟩ (hide (Msk M L) H3) y x := VR.mono (m := .s) (B := B) (M := M) (L := L) (x2.trans x3) rv
          have fin : ∀ (a : Addr) (o : HO), l = [a] → OwnT ⟨X.K, ca⟩ (hide (fun b => Msk M L b ∨ b ∈ ([] : List Addr)) (upd H3 a o)) (upd H3 a o) hh [a] v a' → N.nx σ (upd H3 a o) := fun a o el oo => by
            subst el
            obtain ⟨L2, E4⟩ := Foc.upd (c := ⟨X.K, ca⟩) (ln := []) (l2 := [a]) (d2 := a') il hole ex3 (fun b o hn z => by rw [upd_ne (by simpa using hn)]; exact z) (fun b hb => .inl hb) (fun b hb => by cases hb) nd oo hs2
            exact pp2 L2 σ _ E4
          have sub : ∀ a o, In L a → Ex (hide (Msk M L) H3) (hide (fun b => Msk M L b ∨ b ∈ ([] : List Addr)) (upd H3 a o)) := fun a o ha => hide_le fun b u z w => ⟨fun y => (by
            rcases y with y | y
            · exact z y
            · cases y), by rw [upd_ne (fun e => z (.inr (by rw [e]; exact ha)))]; exact w⟩
          rcases hh1 with rfl | rfl
          · generalize eqd : dd = dq at hol
            cases hol with
            | @dT _ a l0 ks vs ds hl hH r =>
              subst eqd
              obtain ⟨el, rr⟩ := r.flat
              subst el
              have kv : KVs ⟨X.K, ca⟩ (hide (Msk M L) H) eT ((ks.map eT).zip vs) (ks.zip ds) := KVs.of hl rr
              obtain ⟨ns, e1, h4⟩ := bind_some (show ((asT k0).bind fun k => if (ks.zip ds).length < 100000 then some (D.dT (putD (ks.zip ds) k x)) else none) = some a' from h4)
              obtain ⟨hlen, e⟩ := ite_some' h4
              cases e
              obtain ⟨bk, rfl, hkk⟩ := (rk.rep E3.eb).key e1
              refine ⟨a, _, rfl, DPut.t (ex3 _ _ hH) hkk (Nat.lt_of_lt_of_le (show ((ks.map eT).zip vs).length < 100000 from by rw [kv.length]; exact hlen) (by decide : 100000 ≤ sizeLine)), ?_⟩
              refine fin a _ rfl ?_
              have kv2 := ((kv.mono (hide_mono ex3)).put eT_inj ns rv3).mono (sub a (.dT (putK ((ks.map eT).zip vs) (eT ns) y)) (il a (.head _)))
              obtain ⟨ks2, vs2, ds2, g1, g2, g3, g4⟩ := kv2.to
              rw [g3]
              refine .dT g1 (by rw [upd_same]; exact congrArg (fun z => some (HO.dT z)) g2) (OwnU.sh g4)
            | _ => rcases h4' : h4 with _ <;> (subst eqd; cases h4)
          · generalize eqd : dd = dq at hol
            cases hol with
            | @dI _ a l0 ks vs ds hl hH r =>
              subst eqd
              obtain ⟨el, rr⟩ := r.flat
              subst el
              have kv : KVs ⟨X.K, ca⟩ (hide (Msk M L) H) eI ((ks.map eI).zip vs) (ks.zip ds) := KVs.of hl rr
              cases k0 with
              | int n =>
                obtain ⟨hlen, e⟩ := ite_some' (show (if (ks.zip ds).length < 100000 then some (D.dI (putD (ks.zip ds) n x)) else none) = some a' from h4)
                cases e
                have ew := (rk.rep E3.eb).int_inv
                subst ew
                refine ⟨a, _, rfl, DPut.k (k := eI n) (ex3 _ _ hH) (Nat.lt_of_lt_of_le (show ((ks.map eI).zip vs).length < 100000 from by rw [kv.length]; exact hlen) (by decide : 100000 ≤ sizeLine)), ?_⟩
                refine fin a _ rfl ?_
                have kv2 := ((kv.mono (hide_mono ex3)).put eI_inj n rv3).mono (sub a (.dK (putK ((ks.map eI).zip vs) (eI n) y)) (il a (.head _)))
                obtain ⟨ks2, vs2, ds2, g1, g2, g3, g4⟩ := kv2.to
                rw [g3]
                refine .dI g1 (by rw [upd_same]; exact congrArg (fun z => some (HO.dK z)) g2) (OwnU.sh g4)
              | _ => cases h4
            | _ => subst eqd; cases h4
theorem putK_new {κ : Type} [DecidableEq κ] {es : List (κ × V)} {k : κ} {v : V} (h : valV es k = none) : putK es k v = es ++ [(k, v)] := by
  unfold putK
  rw [valV_any, h]
  rfl
theorem zip_snoc {α β : Type} : ∀ {ks : List α} {vs : List β} {k : α} {v : β}, ks.length = vs.length → (ks ++ [k]).zip (vs ++ [v]) = ks.zip vs ++ [(k, v)]
  | [], [], _, _, _ => rfl
  | _ :: _, [], _, _, h => by simp at h
  | [], _ :: _, _, _, h => by simp at h
  | a :: ks, b :: vs, k, v, h => by
    show (a, b) :: (ks ++ [k]).zip (vs ++ [v]) = _
    rw [zip_snoc (by simpa using h)]
    rfl
theorem valV_none {δ κ : Type} [DecidableEq δ] [DecidableEq κ] {e : δ → κ} (he : ∀ a b, e a = e b → a = b) (k : δ) : ∀ {ks : List δ} {vs : List V} {ds : List D}, ks.length = vs.length → vs.length = ds.length → valD (ks.zip ds) k = none → valV ((ks.map e).zip vs) (e k) = none
  | [], _, _, _, _, _ => rfl
  | _ :: _, [], _, h, _, _ => by simp at h
  | _ :: _, _ :: _, [], _, h, _ => by simp at h
  | k0 :: ks, v0 :: vs, d0 :: ds, h1, h2, h => by
    by_cases q : k0 = k
    · subst q
      simp [valD] at h
    · show valV ((e k0, v0) :: (ks.map e).zip vs) (e k) = none
      rw [valV_neg (p := (e k0, v0)) (fun z => q (he _ _ z))]
      refine valV_none he k (by simpa using h1) (by simpa using h2) ?_
      rw [← h]
      simp [valD, List.find?_cons, q]
theorem pds_oputN (hr : X.A.units + 1 < cLine) {hh : Sh} (ho : PPl X ca Γ o hh g) (hb : PDE X ca Γ b mb fb) (he : PNW X ca Γ e h f) (hh1 : hh = .dT h ∨ hh = .dI h := by first | exact .inl rfl | exact .inr rfl)
    (hsw : swapsWith e (some (.Subscript o b pos')) pos.line X.env = pure false := by rfl) : PDS X ca W J Γ (.Assign [.Subscript o b pos'] e pos) Γ (dPlPutN g fb f) := by
  obtain ⟨t, p, q⟩ := ho
  obtain ⟨t1, p1, q1⟩ := hb
  obtain ⟨u, p2, q2⟩ := he
  refine ⟨_, ps_dput hr p p1 p2 hsw, fun B S0 M L σ H ρ N E pp => ?_⟩
  unfold dPlPutN at pp
  cases h1 : f ρ with
  | none => rw [h1] at pp; exact pp.elim
  | some x =>
    cases h2 : g ρ with
    | none => rw [h1, h2] at pp; exact pp.elim
    | some pr =>
      cases h3 : fb ρ with
      | none => obtain ⟨dd, s⟩ := pr; rw [h1, h2, h3] at pp; exact pp.elim
      | some k0 =>
        obtain ⟨dd, s⟩ := pr
        rw [h1, h2, h3] at pp
        have pp' : Post ⟨X.K, ca⟩ B S0 M J W Γ N (match putN dd k0 x with | some a' => outO (s a') | none => .bad) := pp
        cases h4 : putN dd k0 x with
        | none => rw [h4] at pp'; exact pp'.elim
        | some a' =>
          rw [h4] at pp'
          obtain ⟨ρ2, hs2, pp2⟩ := outO_nx pp'
          refine q2 B S0 M L σ H ρ E x h1 _ fun y ln H1 x1 ndn hfr hov => ?_
          obtain ⟨v, ⟨l, nd, il, hol, hole⟩, go⟩ := q B S0 M L σ H ρ E _ s h2
          refine go H1 x1 _ fun H2 x2 => ?_
          have E2 := (E.ext x1).ext x2
          refine q1 B S0 M L σ H2 ρ E2 k0 h3 _ fun w H3 x3 rk => ?_
          have E3 := E2.ext x3
          have ex3 := (x1.trans x2).trans x3
          have ina : ∀ b, In L b → H b ≠ none := fun b hb z => by
            have := (E.hl b hb).1
            rw [z] at this
            exact this
          have old : ∀ a o, In L a → Ex (hide (Msk M L) H) (hide (fun b => Msk M L b ∨ b ∈ ln) (upd H3 a o)) := fun a o ha => hide_le fun b u z w => ⟨fun y => (by
            rcases y with y | y
            · exact z y
            · rw [hfr b y] at w; cases w), by rw [upd_ne (fun e => z (.inr (by rw [e]; exact ha)))]; exact ex3 _ _ w⟩
          have new : ∀ a o, In L a → OwnT ⟨X.K, ca⟩ (hide (fun b => Msk M L b ∨ b ∈ ln) (upd H3 a o)) (upd H3 a o) h ln y x := fun a o ha => hov.mono (hide_le fun b u z w => ⟨z, by rw [upd_ne (fun e => z (.inl (.inr (by rw [e]; exact ha))))]; exact x3 _ _ (x2 _ _ w)⟩) fun b hb u w => by
            rw [upd_ne (fun e => ina a ha (by rw [← e]; exact hfr b hb))]
            exact x3 _ _ (x2 _ _ w)
          have fin : ∀ (a : Addr) (l0 : List Addr) (o : HO), l = a :: l0 → OwnT ⟨X.K, ca⟩ (hide (fun b => Msk M L b ∨ b ∈ ln) (upd H3 a o)) (upd H3 a o) hh (a :: (l0 ++ ln)) v a' → N.nx σ (upd H3 a o) := fun a l0 o el oo => by
            subst el
            obtain ⟨L2, E4⟩ := Foc.upd (c := ⟨X.K, ca⟩) (ln := ln) (l2 := a :: (l0 ++ ln)) (d2 := a') il hole ex3 (fun b o hn z => by rw [upd_ne (fun e => hn (by rw [e]; exact .head _))]; exact z) (fun b hb => by
              rcases List.mem_cons.mp hb with rfl | hb
              · exact .inl (.head _)
              · rcases List.mem_append.mp hb with hb | hb
                · exact .inl (.tail _ hb)
                · exact .inr hb) hfr (by
              refine List.nodup_cons.mpr ⟨fun z => ?_, List.nodup_append.mpr ⟨(List.nodup_cons.mp nd).2, ndn, fun b hb b' hb' e => ?_⟩⟩
              · rcases List.mem_append.mp z with z | z
                · exact (List.nodup_cons.mp nd).1 z
                · exact ina a (il a (.head _)) (hfr a z)
              · subst e
                exact ina b (il b (.tail _ hb)) (hfr b hb')) oo hs2
            exact pp2 L2 σ _ E4
          rcases hh1 with rfl | rfl
          · generalize eqd : dd = dq at hol
            cases hol with
            | @dT _ a l0 ks vs ds hl hH r =>
              subst eqd
              obtain ⟨ns, e1, h4⟩ := bind_some (show ((asT k0).bind fun k => if (ks.zip ds).length < 100000 ∧ valD (ks.zip ds) k = none then some (D.dT (ks.zip ds ++ [(k, x)])) else none) = some a' from h4)
              obtain ⟨⟨hlen, hno⟩, e⟩ := ite_some' h4
              cases e
              have hzl : ((ks.map eT).zip vs).length < 100000 := by
                rw [List.length_zip, List.length_map, r.length]
                rw [List.length_zip] at hlen
                exact hlen
              obtain ⟨bk, rfl, hkk⟩ := (rk.rep E3.eb).key e1
              refine ⟨a, _, rfl, DPut.t (ex3 _ _ hH) hkk (Nat.lt_of_lt_of_le hzl (by decide : 100000 ≤ sizeLine)), ?_⟩
              refine fin a l0 _ rfl ?_
              have hH2 := putK_new (v := y) (valV_none eT_inj ns hl r.length hno)
              have em : ((ks ++ [ns]).map fun k => k.map Sum.inl).zip (vs ++ [y]) = (ks.map eT).zip vs ++ [(eT ns, y)] := by
                rw [List.map_append]
                exact zip_snoc (by rw [List.length_map]; exact hl)
              rw [← zip_snoc (hl.trans r.length)]
              refine .dT (vs := vs ++ [y]) (by simp [hl]) (by rw [upd_same, em]; exact congrArg (fun z => some (HO.dT z)) hH2) ?_
              refine OwnU.snoc (r.mono (old a _ (il a (.head _))) fun b hb u w => ?_) (new a _ (il a (.head _)))
              rw [upd_ne (fun e => (List.nodup_cons.mp nd).1 (by rw [← e]; exact hb))]
              exact ex3 _ _ w
            | _ => subst eqd; cases h4
          · generalize eqd : dd = dq at hol
            cases hol with
            | @dI _ a l0 ks vs ds hl hH r =>
              subst eqd
              obtain ⟨ns, e1, h4⟩ := bind_some (show ((asI k0).bind fun k => if (ks.zip ds).length < 100000 ∧ valD (ks.zip ds) k = none then some (D.dI (ks.zip ds ++ [(k, x)])) else none) = some a' from h4)
              obtain ⟨⟨hlen, hno⟩, e⟩ := ite_some' h4
              cases e
              cases k0 with
              | int n =>
                cases e1
                have hzl : ((ks.map eI).zip vs).length < 100000 := by
                  rw [List.length_zip, List.length_map, r.length]
                  rw [List.length_zip] at hlen
                  exact hlen
                have ew := (rk.rep E3.eb).int_inv
                subst ew
                refine ⟨a, _, rfl, DPut.k (k := eI ns) (ex3 _ _ hH) (Nat.lt_of_lt_of_le hzl (by decide : 100000 ≤ sizeLine)), ?_⟩
                refine fin a l0 _ rfl ?_
                have hH2 := putK_new (v := y) (valV_none eI_inj ns hl r.length hno)
                have em : ((ks ++ [ns]).map Sum.inl).zip (vs ++ [y]) = (ks.map eI).zip vs ++ [(eI ns, y)] := by
                  rw [List.map_append]
                  exact zip_snoc (by rw [List.length_map]; exact hl)
                rw [← zip_snoc (hl.trans r.length)]
                refine .dI (vs := vs ++ [y]) (by simp [hl]) (by rw [upd_same, em]; exact congrArg (fun z => some (HO.dK z)) hH2) ?_
                refine OwnU.snoc (r.mono (old a _ (il a (.head _))) fun b hb u w => ?_) (new a _ (il a (.head _)))
                rw [upd_ne (fun e => (List.nodup_cons.mp nd).1 (by rw [← e]; exact hb))]
                exact ex3 _ _ w
              | _ => cases e1
            | _ => subst eqd; cases h4
theorem pds_oapp (ho : PPl X ca Γ o (.lst .s) g) (he : PDE X ca Γ e .s f)
    (hbase : attributeBase o "append" X.env (eval o X.env) = eval o X.env := by rfl) (hfew : ((backTo cpos (starEach (e :: []) X.env)).all (fun x => !x.1) && (backToKw cpos (keywordEach [] X.env)).all (fun x => x.1.isSome)
      && decide ((e :: []).length + ([] : List Keyword).length + (if ([] : List Keyword).isEmpty then 0 else 1) < 30)) = true := by rfl) (hline : (apos.endLine == cpos.line) = true := by rfl) (hst : starEach (e :: []) X.env = (false, eval e X.env) :: starEach [] X.env := by rfl) (hpl : (backTo cpos (starEach [] X.env)).any (·.1) = false := by rfl)
    (hs : swapsWith (.Call (.Attribute o "append" apos) [e] [] cpos) none pos.line X.env = pure false := by rfl) :
    PDS X ca W J Γ (.Expr (.Call (.Attribute o "append" apos) [e] [] cpos) pos) Γ (dPlApp g f) := by
  obtain ⟨t, p, q⟩ := ho
  obtain ⟨u, p2, q2⟩ := he
  refine ⟨_, ps_expr (pe_bm PySem.F.plainAttrs_list PySem.F.slot_list_append PySem.F.type_list_append mt_append p (pa_cons p2 pa_nil hst) hbase hfew hline hst hpl) hs, fun B S0 M L σ H ρ N E pp => ?_⟩
  unfold dPlApp at pp
  cases h1 : f ρ with
  | none => rw [h1] at pp; exact pp.elim
  | some x =>
    cases h2 : g ρ with
    | none => rw [h1, h2] at pp; exact pp.elim
    | some pr =>
      obtain ⟨dd, s⟩ := pr
      rw [h1, h2] at pp
      obtain ⟨v, ⟨l, nd, il, hol, hole⟩, go⟩ := q B S0 M L σ H ρ E _ s h2
      cases hol with
      | @lst _ a l0 xs ds hH r =>
        obtain ⟨el, rr⟩ := r.flat
        subst el
        have pp' : Post ⟨X.K, ca⟩ B S0 M J W Γ N (if ds.length < 100000 then outO (s (.lst (ds ++ [x]))) else .bad) := pp
        split at pp'
        · rename_i hlen
          obtain ⟨ρ2, hs2, pp2⟩ := outO_nx pp'
          refine go H (Ex.refl _) _ fun H1 x1 => ⟨.inl ⟨rfl, xs, SqL.of (x1 _ _ hH)⟩, ?_⟩
          refine q2 B S0 M L σ H1 ρ (E.ext x1) x h1 _ fun y H2 x2 rv => ?_
          have ex := x1.trans x2
          refine ⟨a, xs, y, rfl, rfl, ex _ _ hH, Nat.lt_of_lt_of_le (by rw [rr.length]; exact hlen) (by decide : 100000 ≤ sizeLine), ?_⟩
          have rv' : Rep ⟨X.K, ca⟩ (hide (Msk M L) H2) y x := rv
          obtain ⟨L2, E4⟩ := Foc.upd (c := ⟨X.K, ca⟩) (ln := []) (l2 := [a]) (d2 := .lst (ds ++ [x])) (H2 := upd H2 a (.lst (xs ++ [y]))) il hole ex (fun b o hn z => by rw [upd_ne (by simpa using hn)]; exact z) (fun b hb => .inl hb) (fun b hb => by cases hb) nd
            (.lst upd_same (OwnU.sh (((rr.mono (hide_mono ex)).snoc rv').mono (hide_le fun b u z w => ⟨fun y => (by
              rcases y with y | y
              · exact z y
              · cases y), by rw [upd_ne (fun e => z (.inr (by rw [e]; exact il a (.head _))))]; exact w⟩)))) hs2
          exact pp2 L2 σ _ E4
        · exact pp'.elim
end
end DL

/-! DL: defs that change their first parameter; makers of what is all one's own; expressions with effects. -/
namespace DL
open PySem PySem.Spec PyProof.Rows L2
inductive RsO where
  | ok (d d0 : D) | exc (e : Cl) (d d0 : D) | bad
/-- a def's promise: the object at z, of shape h, is changed -/
def SpO (c : Ct) (h : Sh) (Γ0 : List Md) (F : List D → RsO) : Sp := fun vs H Q E =>
  ∃ (x : Addr) (as : List V) (B S0 : Hp) (M : Mz) (l : List Addr) (L : List (List Addr)) (ds : List D), vs = .ref x :: as ∧ M.z = x ∧ EnvR c B S0 M (.o h true :: Γ0) (l :: L) (vs.map some) H ds ∧
    match F ds with
    | .ok d d0 => ∀ v l' H', Ex B H' → l'.Nodup → (∀ a ∈ l', B a = none ∧ ¬ M a) → OwnT c (hide (fun a => M a ∨ a ∈ l') H') H' h l' (.ref x) d0 → Rep c (hide (fun a => M a ∨ a ∈ l') H') v d → Q v H'
    | .exc e d d0 => ∀ dx v l' H', Ex B H' → l'.Nodup → (∀ a ∈ l', B a = none ∧ ¬ M a) → OwnT c (hide (fun a => M a ∨ a ∈ l') H') H' h l' (.ref x) d0 → H' dx = some (.xd [("at", v)]) → B dx = none → Rep c (hide (fun a => M a ∨ a ∈ l') H') v d → E (.ref (c.ca e)) (some dx) H'
    | .bad => False
def headK (ρ : List D) (f : D → RsO) : RsO := match ρ[0]? with
  | some d0 => f d0
  | none => .bad
def runO (n : Nat) (F : SFn) : List D → RsO := fun ds => match F (ds ++ List.replicate n .non) with
  | .nx ρ => headK ρ (.ok .non)
  | .reto d ρ => headK ρ (.ok d)
  | .exc e d ρ => headK ρ (.exc e d)
  | _ => .bad
def dReto (f : DFn) : SFn := fun ρ => match f ρ with
  | some d => .reto d ρ
  | none => .bad
section
variable {c : Ct} {B S0 H : Hp} {M : Mz} {L : List (List Addr)} {Γ : List Md} {σ : L2.St} {ρ : List D} {h : Sh}
theorem o_end (E : EnvR c B S0 M Γ L σ H ρ) {x : Addr} (ez : M.z = x) (hm : Γ[0]? = some (.o h true)) : ∃ d0 l', ρ[0]? = some d0 ∧ l'.Nodup ∧ (∀ a ∈ l', B a = none ∧ ¬ M a) ∧ OwnT c (hide (fun a => M a ∨ a ∈ l') H) H h l' (.ref x) d0 ∧ Ex (hide (Msk M L) H) (hide (fun a => M a ∨ a ∈ l') H) := by
  obtain ⟨l, v, d, h1, h2, h3, nd, hp, ho⟩ := slot_o E hm
  have ev := hp rfl
  rw [ez] at ev
  subst ev
  have il : ∀ a ∈ l, In L a := fun a ha => ⟨l, List.mem_of_getElem? h1, ha⟩
  have ex : Ex (hide (Msk M L) H) (hide (fun a => M a ∨ a ∈ l) H) := hide_le fun a o z q => ⟨fun y => z (by
    rcases y with y | y
    · exact .inl y
    · exact .inr (il a y)), q⟩
  exact ⟨d, l, h3, nd, fun a ha => ⟨(E.hl a (il a ha)).2, fun z => (E.hm a z).2 (il a ha)⟩, ho.mono ex fun _ _ _ h => h, ex⟩
end
section
variable {P : Program} {w : World} {K : PySem.W.Frag} {mg : Str → Option Value} {base : Heap} {x qual : Str} {params : Arguments} {body : List Stmt} {scope : Scope} {dvs : List V} {kws : List (Str × V)} {f : Addr} {fd : FuncData}
/-- THE RULE for a def that changes its first parameter -/
theorem fn_O {ca : Cl → Addr} {N ps : List Str} {k n : Nat} {h : Sh} {Γ0 Γ' Γr : List Md} {Fb : SFn} (F : FunD K x qual params body scope dvs kws f fd) (S : FnScope N ps scope) (hl : Γ0.length + 1 = ps.length) (hn : N.length = Γ0.length + 1 + n) (hΓ : Γ'[0]? = some (.o h true)) (hΓr : Γr[0]? = some (.o h true))
    (hb : ∀ (cdv : Value) (A : Around) (outer : List Env) (s : Shared) (H : Hp) (E : XK), Room k (A.deeper (envOfC qual scope s.heap.objs.size f cdv)) →
      PDSs (cxOf (L2N.CX P w) P w K mg base N qual scope f cdv A outer s H E) ca (fun cls d _ H => E cls d H) ⟨false, [], [], some Γr, some Γr, none⟩ (.o h true :: Γ0 ++ List.replicate n .n) body Γ' Fb) :
    FnOk P w K mg base (L2N.CX P w) (k + 1) f fd ps (SpO ⟨K, ca⟩ h Γ0 (runO n Fb)) := by
  refine F.ok S (fun vs H Q E h => ?_) (fun cdv A outer s H vs Q E hr h => ?_)
  · obtain ⟨x, as, B, S0, M, l, L, ds, ev, ez, E0, _⟩ := h
    have e := E0.sl.len.2.1
    rw [List.length_map, List.length_cons] at e
    rw [e, hl]
  · obtain ⟨x, as, B, S0, M, l, L, ds, ev, ez, E0, post⟩ := h
    obtain ⟨t, p, q⟩ := hb cdv A outer s H E hr
    refine ⟨t, p, ?_⟩
    have e0 := E0.sl.len.2.1
    rw [List.length_map, List.length_cons] at e0
    have es : L2.start N vs = vs.map some ++ List.replicate n none := by
      unfold L2.start
      rw [hn, e0, Nat.add_sub_cancel_left]
    rw [es]
    refine q B S0 M _ _ H _ _ (E0.more n) ?_
    cases h : Fb (ds ++ List.replicate n .non) with
    | nx ρ' =>
      intro L' σ' H' E'
      obtain ⟨d0, l', g1, g2, g3, g4, g5⟩ := o_end E' ez hΓ
      have eG : runO n Fb ds = .ok .non d0 := by
        unfold runO
        rw [h]
        show headK ρ' _ = _
        unfold headK
        rw [g1]
      rw [eG] at post
      exact post .non l' H' E'.eb g2 g3 g4 .non
    | reto d ρ' =>
      intro v L' σ' H' E' res
      obtain ⟨d0, l', g1, g2, g3, g4, g5⟩ := o_end E' ez hΓr
      have eG : runO n Fb ds = .ok d d0 := by
        unfold runO
        rw [h]
        show headK ρ' _ = _
        unfold headK
        rw [g1]
      rw [eG] at post
      have res' : Rep ⟨K, ca⟩ (hide (Msk M L') H') v d := res
      exact post v l' H' E'.eb g2 g3 g4 (res'.mono g5)
    | exc e d ρ' =>
      intro dx v L' σ' H' h1 h2 h3 h4 hE
      obtain ⟨d0, l', g1, g2, g3, g4, g5⟩ := o_end (hE Γr rfl) ez hΓr
      have eG : runO n Fb ds = .exc e d d0 := by
        unfold runO
        rw [h]
        show headK ρ' _ = _
        unfold headK
        rw [g1]
      rw [eG] at post
      exact post dx v l' H' h1 g2 g3 g4 h2 h3 (h4.mono g5)
    | ret d =>
      have eG : runO n Fb ds = .bad := by
        unfold runO
        rw [h]
      rw [eG] at post
      exact post.elim
    | rett d =>
      have eG : runO n Fb ds = .bad := by
        unfold runO
        rw [h]
      rw [eG] at post
      exact post.elim
    | brk ρ' =>
      have eG : runO n Fb ds = .bad := by
        unfold runO
        rw [h]
      rw [eG] at post
      exact post.elim
    | cont ρ' =>
      have eG : runO n Fb ds = .bad := by
        unfold runO
        rw [h]
      rw [eG] at post
      exact post.elim
    | bad =>
      have eG : runO n Fb ds = .bad := by
        unfold runO
        rw [h]
      rw [eG] at post
      exact post.elim
end
/-- return in a def that changes its first parameter -/
theorem pds_reto {X : Cx} {ca : Cl → Addr} {W : WX} {J : Jd} {Γ Γ' Γr : List Md} {e : Expr} {f : DFn} {pos : Pos} (he : PDE X ca Γ e .s f) (hr : J.Γr = some Γr := by rfl) (hw : wks Γ Γr = true := by first | decide | rfl) (hf : J.rf = false := by rfl) : PDS X ca W J Γ (.Return (some e) pos) Γ' (dReto f) := by
  obtain ⟨t, p, q⟩ := he
  refine ⟨_, ps_ret p, fun B S0 M L σ H ρ N E pp => ?_⟩
  unfold dReto at pp
  cases hd : f ρ with
  | none => rw [hd] at pp; exact pp.elim
  | some d =>
    rw [hd] at pp
    have pp' : (match J.Γr with | some Γr => ∀ v L σ H, EnvR ⟨X.K, ca⟩ B S0 M Γr L σ H ρ → ResL ⟨X.K, ca⟩ M L J.rf B H v d → N.rt v H | none => False) := pp
    rw [hr] at pp'
    refine q B S0 M L σ H ρ E d hd _ fun v H' x1 r => ?_
    obtain ⟨L', sub, E'⟩ := (E.ext x1).weak hw
    refine pp' v L' σ H' E' ?_
    unfold ResL
    rw [hf]
    have r' : Rep ⟨X.K, ca⟩ (hide (Msk M L) H') v d := r
    exact r'.mono (hide_le fun a o z y => ⟨fun w => z (by
      rcases w with w | w
      · exact .inl w
      · exact .inr (sub a w)), y⟩)
/-! ### a new instance, all its own -/
def SpIO (c : Ct) (k : Cl) (h : Sh) (Γ0 : List Md) (F : List D → Rs) : Sp := fun vs H Q E =>
  ∃ (x : Addr) (as : List V) (B S0 : Hp) (M : Mz) (L : List (List Addr)) (ds : List D), vs = .ref x :: as ∧ M.z = x ∧ EnvR c B S0 M (.o (.obj k .nil) true :: Γ0) ([x] :: L) (vs.map some) H (.obj k [] :: ds) ∧
    match F ds with
    | .ok d => ∀ l' H', Ex B H' → l'.Nodup → (∀ a ∈ l', B a = none ∧ ¬ M a) → OwnT c (hide (fun a => M a ∨ a ∈ l') H') H' h l' (.ref x) d → Q .non H'
    | .exc e d => ∀ dx v H', Ex B H' → H' dx = some (.xd [("at", v)]) → B dx = none → Rep c (hide M H') v d → E (.ref (c.ca e)) (some dx) H'
    | .bad => False
section
variable {P : Program} {w : World} {K : PySem.W.Frag} {mg : Str → Option Value} {base : Heap} {x qual : Str} {params : Arguments} {body : List Stmt} {scope : Scope} {dvs : List V} {kws : List (Str × V)} {f : Addr} {fd : FuncData}
theorem fn_IO {ca : Cl → Addr} {cl : Cl} {N ps : List Str} {k n : Nat} {h : Sh} {Γ0 Γ' : List Md} {Fb : SFn} (F : FunD K x qual params body scope dvs kws f fd) (S : FnScope N ps scope) (hl : Γ0.length + 1 = ps.length) (hn : N.length = Γ0.length + 1 + n) (hΓ : Γ'[0]? = some (.o h true))
    (hb : ∀ (cdv : Value) (A : Around) (outer : List Env) (s : Shared) (H : Hp) (E : XK), Room k (A.deeper (envOfC qual scope s.heap.objs.size f cdv)) →
      PDSs (cxOf (L2N.CX P w) P w K mg base N qual scope f cdv A outer s H E) ca (fun cls d _ H => E cls d H) ⟨false, [], [], none, none, none⟩ (.o (.obj cl .nil) true :: Γ0 ++ List.replicate n .n) body Γ' Fb) :
    FnOk P w K mg base (L2N.CX P w) (k + 1) f fd ps (SpIO ⟨K, ca⟩ cl h Γ0 (runI cl n Fb)) := by
  refine F.ok S (fun vs H Q E h => ?_) (fun cdv A outer s H vs Q E hr h => ?_)
  · obtain ⟨x, as, B, S0, M, L, ds, ev, ez, E0, _⟩ := h
    have e := E0.sl.len.2.1
    rw [List.length_map, List.length_cons] at e
    rw [e, hl]
  · obtain ⟨x, as, B, S0, M, L, ds, ev, ez, E0, post⟩ := h
    obtain ⟨t, p, q⟩ := hb cdv A outer s H E hr
    refine ⟨t, p, ?_⟩
    have e0 := E0.sl.len.2.1
    rw [List.length_map, List.length_cons] at e0
    have es : L2.start N vs = vs.map some ++ List.replicate n none := by
      unfold L2.start
      rw [hn, e0, Nat.add_sub_cancel_left]
    rw [es]
    refine q B S0 M _ _ H _ _ (E0.more n) ?_
    unfold runI at post
    have eρ : (D.obj cl [] :: ds) ++ List.replicate n D.non = .obj cl [] :: (ds ++ List.replicate n .non) := rfl
    rw [eρ]
    cases h : Fb (.obj cl [] :: (ds ++ List.replicate n .non)) with
    | nx ρ' =>
      rw [h] at post
      intro L' σ' H' E'
      obtain ⟨d0, l', g1, g2, g3, g4, g5⟩ := o_end E' ez hΓ
      have post' : (match (match ρ'[0]? with | some d => Rs.ok d | none => Rs.bad) with
        | .ok d => ∀ l' H', Ex B H' → l'.Nodup → (∀ a ∈ l', B a = none ∧ ¬ M a) → OwnT ⟨K, ca⟩ (hide (fun a => M a ∨ a ∈ l') H') H' _ l' (.ref x) d → Q .non H'
        | .exc e d => ∀ dx v H', Ex B H' → H' dx = some (.xd [("at", v)]) → B dx = none → Rep ⟨K, ca⟩ (hide M H') v d → E (.ref (ca e)) (some dx) H'
        | .bad => False) := post
      rw [g1] at post'
      exact post' l' H' E'.eb g2 g3 g4
    | exc e d ρ' =>
      rw [h] at post
      intro dx v L' σ' H' h1 h2 h3 h4 _
      exact post dx v H' h1 h2 h3 (res_s (B := B) h4)
    | reto d ρ' => rw [h] at post; exact post.elim
    | ret d => rw [h] at post; exact post.elim
    | rett d => rw [h] at post; exact post.elim
    | brk ρ' => rw [h] at post; exact post.elim
    | cont ρ' => rw [h] at post; exact post.elim
    | bad => rw [h] at post; exact post.elim
end
section
variable {X : Cx} {ca : Cl → Addr} {W : WX} {J : Jd} {Γ Γ0 Γ' : List Md} {k : Nat} {f : Addr} {fd : FuncData} {ps : List Str} {G : List D → Rs} {dvs : List V} {ds : List Value} {dfl : List D} {x m fn : Str} {p pos pos' apos : Pos} {e o : Expr} {es : List Expr} {ms : List Vm} {fs : List D → Option (List D)} {mo : Vm} {fo ff : DFn} {h hs : Sh}
/-- self.f = e, a further field, its shape behind -/
def shSnoc : Sh → Sh → Sh
  | .cons a b, h => .cons a (shSnoc b h)
  | _, h => .cons h .nil
theorem OwnF.snoc {c : Ct} {S H : Hp} : ∀ {hs : Sh} {l l' : List Addr} {vs : List V} {ds : List D} {h : Sh} {v : V} {d : D}, OwnF c S H hs l vs ds → OwnT c S H h l' v d → OwnF c S H (shSnoc hs h) (l ++ l') (vs ++ [v]) (ds ++ [d])
  | _, _, l', _, _, _, _, _, .nil, h => by
    have := OwnF.cons h (OwnF.nil (c := c) (S := S) (H := H))
    rw [List.append_nil] at this
    exact this
  | _, _, _, _, _, _, _, _, .cons h r, h' => by
    rw [List.append_assoc]
    exact .cons h (r.snoc h')
theorem pds_ofst (i : Nat) (cl : Cl) (j : Nat) (hs' : Sh) {pin : Bool} (hk : ClsOk X.K ca cl) (he : PNW X ca Γ e h ff) (hm : Γ[i]? = some (.o (.obj cl hs) pin) := by rfl) (hf : (flds cl)[j]? = some fn := by rfl) (hnd : (flds cl).Nodup := by decide +kernel) (hi : X.N[i]? = some x := by rfl) (hv : Vis X.env.scope x := by first | exact Or.inl rfl | exact Or.inr (Or.inl rfl) | exact Or.inr (Or.inr rfl)) (hd : (x == ("__debug__" : Str)) = false := by decide) (hcd : (x == ("__classdict__" : Str)) = false := by decide)
    (hsw : swapsWith e (some (.Attribute (.Name x p) fn pos')) pos.line X.env = pure false := by rfl) (hsh : shSnoc hs h = hs' := by rfl) : PDS X ca W J Γ (.Assign [.Attribute (.Name x p) fn pos'] e pos) (Γ.set i (.o (.obj cl hs') pin)) (dFst i cl j ff) := by
  subst hsh
  obtain ⟨t, pe, q⟩ := he
  refine ⟨_, ps_fld (pe_var (i := i) hi hv hd hcd) pe hsw, fun B S0 M L σ H ρ N E pp => ?_⟩
  obtain ⟨l, v0, d0, g1, g2, g3, nd, hp, ho⟩ := slot_o E hm
  unfold dFst at pp
  rw [g3] at pp
  cases hf0 : ff ρ with
  | none => rw [hf0] at pp; exact pp.elim
  | some x0 =>
    rw [hf0] at pp
    cases ho with
    | @obj _ a dx l0 vs _ fs hH r =>
      have pp' : Post ⟨X.K, ca⟩ B S0 M J W (Γ.set i (.o (.obj cl (shSnoc hs h)) pin)) N (if cl = cl ∧ fs.length = j then .nx (ρ.set i (.obj cl (fs ++ [x0]))) else .bad) := pp
      split at pp'
      · rename_i hc
        have ej := hc.2
        refine q B S0 M L σ H ρ E x0 hf0 _ fun y ln H1 x1 ndn hfr hov => ?_
        have hz : (flds cl)[vs.length]? = some fn := by rw [r.length, ej]; exact hf
        have il : ∀ b ∈ a :: l0, In L b := fun b hb => ⟨_, List.mem_of_getElem? g1, hb⟩
        have ina : ∀ b, In L b → H b ≠ none := fun b hb z => by
          have := (E.hl b hb).1
          rw [z] at this
          exact this
        refine ⟨_, g2, a, _, dx, _, rfl, x1 _ _ hH, hk.cls, hk.no fn (List.mem_of_getElem? hf), ?_, ?_⟩
        · rw [List.length_zip]
          exact Nat.lt_of_le_of_lt (Nat.min_le_left _ _) (by cases cl <;> decide)
        · rw [putF_zip hnd hz]
          have ma : Msk M L a := .inr (il a (.head _))
          have na : ∀ b ∈ ln, b ≠ a := fun b hb e => ina b (il b (by rw [e]; exact .head _)) (hfr b hb)
          have keep : ∀ b u, b ∉ a :: l0 → H b = some u → upd H1 a (.ins (ca cl) dx ((flds cl).zip (vs ++ [y]))) b = some u := fun b u hn z => by
            rw [upd_ne (fun e => hn (by rw [e]; exact .head _))]
            exact x1 _ _ z
          have own : ∀ S2, Ex (hide (fun b => Msk M L b ∨ b ∈ ln) H1) S2 → OwnT ⟨X.K, ca⟩ S2 (upd H1 a (.ins (ca cl) dx ((flds cl).zip (vs ++ [y])))) (.obj cl (shSnoc hs h)) (a :: (l0 ++ ln)) (.ref a) (.obj cl (fs ++ [x0])) := fun S2 eS => by
            refine .obj upd_same (OwnF.snoc (r.mono (Ex.trans (hide_le fun b u z w => ⟨fun w2 => (by
              rcases w2 with w2 | w2
              · exact z w2
              · rw [hfr b w2] at w; cases w), x1 _ _ w⟩) eS) fun b hb u w => ?_) (hov.mono eS fun b hb u w => by rw [upd_ne (na b hb)]; exact w))
            rw [upd_ne (fun e => (List.nodup_cons.mp nd).1 (by rw [← e]; exact hb))]
            exact x1 _ _ w
          have E2 := E.change (m' := .o (.obj cl (shSnoc hs h)) pin) (l' := a :: (l0 ++ ln)) (x' := some (.ref a)) (d' := .obj cl (fs ++ [x0])) i g1 keep (fun b hb => by
            rcases List.mem_cons.mp hb with rfl | hb
            · exact .inl (.head _)
            · rcases List.mem_append.mp hb with hb | hb
              · exact .inl (.tail _ hb)
              · exact .inr (hfr b hb)) (fun b hb => (own _ (Ex.refl _)).there b hb) ⟨by
              refine List.nodup_cons.mpr ⟨fun z => ?_, List.nodup_append.mpr ⟨(List.nodup_cons.mp nd).2, ndn, fun b hb b' hb' e => ?_⟩⟩
              · rcases List.mem_append.mp z with z | z
                · exact (List.nodup_cons.mp nd).1 z
                · exact na a z rfl
              · subst e
                exact ina b (il b (.tail _ hb)) (hfr b hb'), _, rfl, hp, own _ (hide_le fun b u z w => ⟨fun w2 => z (by
                  rcases w2 with w2 | w2
                  · exact .inl (.inl w2)
                  · rcases w2.set with w2 | w2
                    · exact .inl (.inr w2)
                    · rcases List.mem_cons.mp w2 with rfl | w2
                      · exact .inl ma
                      · rcases List.mem_append.mp w2 with w2 | w2
                        · exact .inl (.inr (il b (.tail _ w2)))
                        · exact .inr w2), by rw [upd_ne (fun e => z (.inl (by rw [e]; exact ma)))]; exact w⟩)⟩
          rw [list_set_self g2] at E2
          exact pp' _ σ _ E2
      · exact pp'.elim
/-- C(e, ..), all its own -/
theorem make_envO {c : Ct} {B S0 H : Hp} {M : Mz} {L : List (List Addr)} {Γ : List Md} {σ : L2.St} {ρ : List D} (E : EnvR c B S0 M Γ L σ H ρ) {x dx C : Addr} {k : Cl} (hx : H x = none) (hdx : H dx = none) (hne : dx ≠ x) (hC : C = c.ca k) {ms : List Vm} {Γ0 : List Md} {vs : List V} {ds : List D} (hc : cmps ms Γ0 = true) (r : VRs c B M L H ms vs ds) :
    EnvR c (upd H dx (.own x)) (fun _ => none) ⟨Msk M L, x⟩ (.o (.obj k .nil) true :: Γ0) ([x] :: noAdr Γ0) ((V.ref x :: vs).map some) (upd (upd H dx (.own x)) x (.ins C dx [])) (.obj k [] :: ds) := by
  subst hC
  have E1 := make_env (k := k) E hx hdx hne rfl hc r
  refine ⟨E1.eb, E1.hm, E1.es, E1.ap, E1.hl, ?_⟩
  cases E1.sl with
  | cons s0 s1 => exact .cons ⟨by simp, _, rfl, fun _ => rfl, .obj (dx := dx) (vs := []) (by rw [upd_same, List.zip_nil_right]) .nil⟩ s1
theorem pd_makeO (cl : Cl) (Mk0 : Mk X.K (ca cl) f) (F : FnOk X.prog X.w X.K X.mg X.base (L2N.CX X.prog X.w) k f fd ps (SpIO ⟨X.K, ca⟩ cl h Γ0 G)) (hr : Room (k + 1) X.A) (hm : X.mg x = some (.ref (ca cl))) (hb : Binds X.K fd ps ds) (hd : Vals dvs ds) (hi : Ims dvs dfl)
    (ha : PDA X ca Γ (e :: es) ms fs) (hc : cmps (ms ++ List.replicate dfl.length .s) Γ0 = true := by decide) (hg : Gl X x := by rfl) (hdb : (x == ("__debug__" : Str)) = false := by decide) (he : starEach (e :: es) X.env = (false, eval e X.env) :: starEach es X.env := by rfl) (hpl : (backTo pos (starEach es X.env)).any (·.1) = false := by rfl) :
    PNW X ca Γ (.Call (.Name x p) (e :: es) [] pos) h (dFun G fs dfl) := by
  obtain ⟨t, pa, q⟩ := ha
  refine ⟨_, pe_make Mk0 F hr hg hm hb hd passLN pa hdb he hpl, fun B S0 M L σ H ρ E d hd Q kk => ?_⟩
  obtain ⟨as, e1, hd⟩ := bind_some hd
  refine q B S0 M L σ H ρ E as e1 _ fun vs H1 x1 r => fun a dx ha hdx hne => ?_
  have E1 := E.ext x1
  refine ⟨a, _, _, _, ⟨Msk M L, a⟩, _, _, rfl, rfl, make_envO (k := cl) E1 ha hdx hne rfl hc (r.app hi.vrs), ?_⟩
  cases hG : G (as ++ dfl) with
  | ok d' =>
    rw [hG] at hd
    cases hd
    exact fun l' H' x2 nd hn ho => ⟨rfl, kk _ l' H' ((x1.trans (Ex.new hdx)).trans x2) nd (fun b hb => (x1.trans (Ex.new hdx)).free (hn b hb).1) ho⟩
  | exc e d' => rw [hG] at hd; cases hd
  | bad => rw [hG] at hd; cases hd
end
end DL

/-! DL: expressions with effects; calls of defs that change their first parameter. -/
namespace DL
open PySem PySem.Spec PyProof.Rows L2
inductive XO where
  | val (d : D) (ρ : List D) | exc (e : Cl) (d : D) (ρ : List D) | bad
def PostX (c : Ct) (W : WX) (Γ : List Md) (B S0 : Hp) (M : Mz) (L : List (List Addr)) (σ : L2.St) (H : Hp) (K : D → List D → Prop) : XO → Prop
  | .val d ρ' => K d ρ'
  | .exc e d ρ' => ∀ dx v L' H', EnvR c B S0 M Γ L' σ H' ρ' → H' dx = some (.xd [("at", v)]) → B dx = none → Rep c (hide (Msk M L') H') v d → W (.ref (c.ca e)) (some dx) σ H'
  | .bad => False
/-- t gives F's data, and the frame changed -/
def DXE (c : Ct) (W : WX) (Γ : List Md) (t : TE) (F : List D → XO) : Prop :=
  ∀ (B S0 : Hp) (M : Mz) (L : List (List Addr)) (σ : L2.St) (H : Hp) (ρ : List D), EnvR c B S0 M Γ L σ H ρ → ∀ Q : VK,
    PostX c W Γ B S0 M L σ H (fun d ρ' => ∀ v L' H', EnvR c B (hide (Msk M L) H) M Γ L' σ H' ρ' → Rep c (hide (Msk M L') H') v d → Q v H') (F ρ) → t σ H Q
def DXT (c : Ct) (W : WX) (Γ : List Md) (t : TT) (F : List D → XO) : Prop :=
  ∀ (B S0 : Hp) (M : Mz) (L : List (List Addr)) (σ : L2.St) (H : Hp) (ρ : List D), EnvR c B S0 M Γ L σ H ρ → ∀ Q : Bool → Hp → Prop,
    PostX c W Γ B S0 M L σ H (fun d ρ' => ∃ b, d = .bl b ∧ ∀ L' H', EnvR c B (hide (Msk M L) H) M Γ L' σ H' ρ' → Q b H') (F ρ) → t σ H Q
def PXE (X : Cx) (ca : Cl → Addr) (W : WX) (Γ : List Md) (e : Expr) (F : List D → XO) : Prop := ∃ t, PE X e t ∧ DXE ⟨X.K, ca⟩ W Γ t F
def PXT (X : Cx) (ca : Cl → Addr) (W : WX) (Γ : List Md) (e : Expr) (F : List D → XO) : Prop := ∃ t, PT X e t ∧ DXT ⟨X.K, ca⟩ W Γ t F
def PXW (X : Cx) (ca : Cl → Addr) (W : WX) (Γ : List Md) (e : Expr) (F : List D → XO) : Prop := ∃ t, PW X e t ∧ DXT ⟨X.K, ca⟩ W Γ t F
/-- what comes behind a value -/
def xoB (o : XO) (K : D → List D → XO) : XO := match o with
  | .val d ρ => K d ρ
  | .exc e d ρ => .exc e d ρ
  | .bad => .bad
def xoV (o : Option D) (ρ : List D) : XO := match o with
  | some d => .val d ρ
  | none => .bad
section
variable {c : Ct} {W : WX} {Γ : List Md} {B S0 : Hp} {M : Mz} {L : List (List Addr)} {σ : L2.St} {H : Hp} {ρ : List D}
theorem PostX.imp {K K' : D → List D → Prop} (h : ∀ d ρ, K d ρ → K' d ρ) {o : XO} (p : PostX c W Γ B S0 M L σ H K o) : PostX c W Γ B S0 M L σ H K' o := by
  cases o with
  | val d ρ => exact h d ρ p
  | exc e d ρ => exact p
  | bad => exact p
/-- the post of a chain, at its first part -/
theorem PostX.chain {K : D → List D → Prop} {f : D → List D → XO} {o : XO} (p : PostX c W Γ B S0 M L σ H K (xoB o f)) : PostX c W Γ B S0 M L σ H (fun d ρ => PostX c W Γ B S0 M L σ H K (f d ρ)) o := by
  cases o with
  | val d ρ => exact p
  | exc e d ρ => exact p
  | bad => exact p
/-- .. over more that is shared -/
theorem PostX.base {S1 : Hp} {L1 : List (List Addr)} {H1 : Hp} {K K' : D → List D → Prop} (eS : Ex S0 S1) (h : ∀ d ρ, K d ρ → K' d ρ) {o : XO} (p : PostX c W Γ B S0 M L σ H K o) : PostX c W Γ B S1 M L1 σ H1 K' o := by
  cases o with
  | val d ρ => exact h d ρ p
  | exc e d ρ => exact fun dx v L' H' E h1 h2 h3 => p dx v L' H' (E.base eS) h1 h2 h3
  | bad => exact p
theorem xoV_some {o : Option D} {K : D → List D → Prop} (p : PostX c W Γ B S0 M L σ H K (xoV o ρ)) : ∃ d, o = some d ∧ K d ρ := by
  cases o with
  | none => exact p.elim
  | some d => exact ⟨d, rfl, p⟩
end
section
variable {X : Cx} {ca : Cl → Addr} {W : WX} {J : Jd} {Γ Γ' : List Md} {a b e : Expr} {F G : List D → XO} {fa fb : DFn} {ma mb : Vm} {pos pos' p : Pos} {x : Str}
/-- an expression without effects -/
theorem px_pure (h : PDE X ca Γ e .s fa) : PXE X ca W Γ e (fun ρ => xoV (fa ρ) ρ) := by
  obtain ⟨t, p, q⟩ := h
  refine ⟨t, p, fun B S0 M L σ H ρ E Q pp => ?_⟩
  obtain ⟨d, hd, k⟩ := xoV_some pp
  exact q B S0 M L σ H ρ E d hd Q fun v H' x r => k v L H' (E.now.ext x) r
def xCmp1 (g : D → D → Option D) (F : List D → XO) (fb : DFn) : List D → XO := fun ρ => xoB (F ρ) fun d ρ' => xoV ((fb ρ').bind fun b => g d b) ρ'
/-- a op b, a with effects -/
theorem px_op1 {r : R2} {g : D → D → Option D} {t : TE} {u : TE} (q : DXE ⟨X.K, ca⟩ W Γ t F) (q2 : DE ⟨X.K, ca⟩ Γ u mb fb) (hr : ∀ H x y a b d, Rep ⟨X.K, ca⟩ H x a → Rep ⟨X.K, ca⟩ H y b → g a b = some d → ∃ v, Im v d ∧ ∀ Q : VK, Q v H → r x y H Q) :
    DXE ⟨X.K, ca⟩ W Γ (tOp r t u) (xCmp1 g F fb) := fun B S0 M L σ H ρ E Q pp => by
  refine q B S0 M L σ H ρ E _ (PostX.imp (fun d ρ' k v L' H' E' rv => ?_) (PostX.chain pp))
  obtain ⟨d2, hd, kk⟩ := xoV_some k
  obtain ⟨b', e1, e2⟩ := bind_some hd
  refine q2 B _ M L' σ H' ρ' E' b' e1 _ fun y H2 x2 ry => ?_
  have E2 := E'.ext x2
  obtain ⟨v2, iv, go⟩ := hr H2 v y d b' d2 (Rep.mono x2 (rv.mono hide_ex)) (ry.rep E2.eb) e2
  exact go Q (kk v2 L' H2 E2 (iv _ _))
theorem px_cmp1 {op : CmpOp} {g : D → D → Option D} (h : OG X ca op g) (ha : PXE X ca W Γ a F) (hb : PDE X ca Γ b mb fb) (hm : behindInMarks op b = false := by first | exact nomark _ | rfl) : PXE X ca W Γ (.Compare a [op] [b] pos) (xCmp1 g F fb) := by
  obtain ⟨r, h1, h2⟩ := h
  obtain ⟨t, p, q⟩ := ha
  obtain ⟨u, p2, q2⟩ := hb
  exact ⟨_, pe_cmpR h1 p p2 hm, px_op1 q q2 h2⟩
theorem DXE.tt {c : Ct} {t : TE} (q : DXE c W Γ t F) : DXT c W Γ (tTest t) (fun ρ => xoB (F ρ) fun d ρ' => match d with | .bl b => .val (.bl b) ρ' | _ => .bad) := fun B S0 M L σ H ρ E Q pp => by
  refine q B S0 M L σ H ρ E _ (PostX.imp (fun d ρ' k v L' H' E' rv => ?_) (PostX.chain pp))
  cases d with
  | bl z =>
    obtain ⟨b, eb, kk⟩ := (show ∃ b, D.bl z = .bl b ∧ ∀ L' H', EnvR c B (hide (Msk M L) H) M Γ L' σ H' ρ' → Q b H' from k)
    cases eb
    cases rv
    exact ⟨_, rfl, kk L' H' E'⟩
  | _ => exact k.elim
def xTst (F : List D → XO) : List D → XO := fun ρ => xoB (F ρ) fun d ρ' => match d with
  | .bl b => .val (.bl b) ρ'
  | _ => .bad
theorem pxt_cmp1 {op : CmpOp} {g : D → D → Option D} (h : OG X ca op g) (ha : PXE X ca W Γ a F) (hb : PDE X ca Γ b mb fb) (hm : behindInMarks op b = false := by first | exact nomark _ | rfl) : PXT X ca W Γ (.Compare a [op] [b] pos) (xTst (xCmp1 g F fb)) := by
  obtain ⟨r, h1, h2⟩ := h
  obtain ⟨t, p, q⟩ := ha
  obtain ⟨u, p2, q2⟩ := hb
  exact ⟨_, pt_cmpR h1 p p2 hm, (px_op1 q q2 h2).tt⟩
theorem pxt_val (ha : PXE X ca W Γ a F) (he : ∀ whole, isTrue a X.env whole = (do let v ← whole; standAt a.pos; holding [v] (truthy v)) := by intro _; rfl) : PXT X ca W Γ a (xTst F) := by
  obtain ⟨t, p, q⟩ := ha
  exact ⟨_, pt_val p he, q.tt⟩
def xPure (f : List D → Option Bool) : List D → XO := fun ρ => xoV ((f ρ).map .bl) ρ
theorem pxt_pure {f : List D → Option Bool} (h : PDT X ca Γ e f) : PXT X ca W Γ e (xPure f) := by
  obtain ⟨t, p, q⟩ := h
  refine ⟨t, p, fun B S0 M L σ H ρ E Q pp => ?_⟩
  obtain ⟨d, hd, b, eb, k⟩ := xoV_some pp
  obtain ⟨b', e1, e2⟩ := Option.map_eq_some_iff.mp hd
  subst eb
  cases e2
  exact q B S0 M L σ H ρ E b e1 Q fun H' x => k L H' (E.now.ext x)
def xNot (F : List D → XO) : List D → XO := fun ρ => xoB (F ρ) fun d ρ' => match d with
  | .bl b => .val (.bl (!b)) ρ'
  | _ => .bad
theorem pxt_not (h : PXT X ca W Γ a F) : PXT X ca W Γ (.UnaryOp .Not a pos) (xNot F) := by
  obtain ⟨t, p, q⟩ := h
  refine ⟨_, pt_not p, fun B S0 M L σ H ρ E Q pp => ?_⟩
  refine q B S0 M L σ H ρ E _ (PostX.imp (fun d ρ' k => ?_) (PostX.chain pp))
  cases d with
  | bl z =>
    obtain ⟨b, eb, kk⟩ := (show ∃ b, D.bl (!z) = .bl b ∧ ∀ L' H', EnvR ⟨X.K, ca⟩ B (hide (Msk M L) H) M Γ L' σ H' ρ' → Q b H' from k)
    cases eb
    exact ⟨z, rfl, kk⟩
  | _ => exact k.elim
theorem pxt_w (h : PXW X ca W Γ a F) : PXT X ca W Γ a F := let ⟨t, p, q⟩ := h; ⟨t, p.pt, q⟩
theorem pxw_and1 {op} (h : PXT X ca W Γ a F) (ho : op = .And := by rfl) : PXW X ca W Γ (.BoolOp op [a] pos) F := by
  subst ho
  obtain ⟨t, p, q⟩ := h
  exact ⟨t, pw_and1 p, q⟩
theorem pxw_or1 {op} (h : PXT X ca W Γ a F) (ho : op = .Or := by rfl) : PXW X ca W Γ (.BoolOp op [a] pos) F := by
  subst ho
  obtain ⟨t, p, q⟩ := h
  exact ⟨t, pw_or1 p, q⟩
def xAnd (F G : List D → XO) : List D → XO := fun ρ => xoB (F ρ) fun d ρ' => match d with
  | .bl b => if b = true then G ρ' else .val (.bl false) ρ'
  | _ => .bad
def xOr (F G : List D → XO) : List D → XO := fun ρ => xoB (F ρ) fun d ρ' => match d with
  | .bl b => if b = true then .val (.bl true) ρ' else G ρ'
  | _ => .bad
theorem EnvR.now_le {c : Ct} {B S0 H H' : Hp} {M : Mz} {L L' : List (List Addr)} {σ : L2.St} {ρ : List D} (E : EnvR c B (hide (Msk M L) H) M Γ L' σ H' ρ) : Ex (hide (Msk M L) H) (hide (Msk M L') H') := E.es
theorem pxw_and {rest : List Expr} (ha : PXT X ca W Γ a F) (hb : PXW X ca W Γ (.BoolOp .And (b :: rest) pos) G) : PXW X ca W Γ (.BoolOp .And (a :: b :: rest) pos) (xAnd F G) := by
  obtain ⟨t, p, q⟩ := ha
  obtain ⟨u, p2, q2⟩ := hb
  refine ⟨_, pw_and p p2, fun B S0 M L σ H ρ E Q pp => ?_⟩
  refine q B S0 M L σ H ρ E _ (PostX.imp (fun d ρ' k => ?_) (PostX.chain pp))
  cases d with
  | bl z =>
    refine ⟨z, rfl, fun L' H' E' => ?_⟩
    cases z with
    | true =>
      rw [if_pos rfl]
      refine q2 B _ M L' σ H' ρ' E' Q (PostX.base E.es (fun d ρ2 ⟨b, eb, kk⟩ => ⟨b, eb, fun L2 H2 E2 => kk L2 H2 (E2.base E'.es)⟩) (show PostX ⟨X.K, ca⟩ W Γ B S0 M L σ H _ (G ρ') from k))
    | false =>
      rw [if_neg (by decide)]
      obtain ⟨b, eb, kk⟩ := (show ∃ b, D.bl false = .bl b ∧ ∀ L' H', EnvR ⟨X.K, ca⟩ B (hide (Msk M L) H) M Γ L' σ H' ρ' → Q b H' from k)
      cases eb
      exact kk L' H' E'
  | _ => exact k.elim
theorem pxw_or {rest : List Expr} (ha : PXT X ca W Γ a F) (hb : PXW X ca W Γ (.BoolOp .Or (b :: rest) pos) G) : PXW X ca W Γ (.BoolOp .Or (a :: b :: rest) pos) (xOr F G) := by
  obtain ⟨t, p, q⟩ := ha
  obtain ⟨u, p2, q2⟩ := hb
  refine ⟨_, pw_or p p2, fun B S0 M L σ H ρ E Q pp => ?_⟩
  refine q B S0 M L σ H ρ E _ (PostX.imp (fun d ρ' k => ?_) (PostX.chain pp))
  cases d with
  | bl z =>
    refine ⟨z, rfl, fun L' H' E' => ?_⟩
    cases z with
    | false =>
      rw [if_neg (by decide)]
      refine q2 B _ M L' σ H' ρ' E' Q (PostX.base E.es (fun d ρ2 ⟨b, eb, kk⟩ => ⟨b, eb, fun L2 H2 E2 => kk L2 H2 (E2.base E'.es)⟩) (show PostX ⟨X.K, ca⟩ W Γ B S0 M L σ H _ (G ρ') from k))
    | true =>
      rw [if_pos rfl]
      obtain ⟨b, eb, kk⟩ := (show ∃ b, D.bl true = .bl b ∧ ∀ L' H', EnvR ⟨X.K, ca⟩ B (hide (Msk M L) H) M Γ L' σ H' ρ' → Q b H' from k)
      cases eb
      exact kk L' H' E'
  | _ => exact k.elim
def xIx (f : DFn) (F : List D → XO) : List D → XO := fun ρ => match f ρ with
  | some a => xoB (F ρ) fun d ρ' => xoV (gIx a d) ρ'
  | none => .bad
/-- a[b], b with effects -/
theorem px_ix (ha : PDE X ca Γ a .s fa) (hb : PXE X ca W Γ b F) (hs : PlainIx b := by exact fun _ _ => rfl) : PXE X ca W Γ (.Subscript a b pos) (xIx fa F) := by
  obtain ⟨t, p, q⟩ := ha
  obtain ⟨u, p2, q2⟩ := hb
  refine ⟨_, pe_ix ix_seq p p2 hs, fun B S0 M L σ H ρ E Q pp => ?_⟩
  unfold xIx at pp
  cases h1 : fa ρ with
  | none => rw [h1] at pp; exact pp.elim
  | some x =>
    rw [h1] at pp
    refine q B S0 M L σ H ρ E x h1 _ fun v H1 x1 rv => ?_
    have rv' : Rep ⟨X.K, ca⟩ (hide (Msk M L) H1) v x := rv
    refine q2 B S0 M L σ H1 ρ (E.ext x1) _ (PostX.base (Ex.refl _) (fun d ρ' k w L' H' E' rw' => ?_) (PostX.chain (show PostX ⟨X.K, ca⟩ W Γ B S0 M L σ H _ (xoB (F ρ) fun d ρ' => xoV (gIx x d) ρ') from pp)))
    obtain ⟨d2, hd, kk⟩ := xoV_some k
    unfold gIx at hd
    split at hd
    · obtain ⟨ds, g1, g2⟩ := bind_some hd
      have rv2 := rv'.mono E'.es
      obtain ⟨pp', xs, rfl, hq, r⟩ := seq_rep (c := ⟨X.K, ca⟩) hide_ex (.inl rv2) g1
      obtain ⟨z, hz, rz⟩ := atI_reps r g2
      have ew := rw'.int_inv
      subst ew
      have E3 := E'.base (hide_mono x1 (m := Msk M L))
      rcases hq with hq | hq
      · exact .inl ⟨pp', xs, _, z, rfl, rfl, hq, hz, kk z L' H' E3 rz⟩
      · exact .inr (.inl ⟨pp', xs, _, z, rfl, rfl, hq, hz, kk z L' H' E3 rz⟩)
    · cases hd
def xCall1 (g : List D → Option D) (F : List D → XO) : List D → XO := fun ρ => xoB (F ρ) fun d ρ' => xoV (g [d]) ρ'
/-- f(e), f a built-in type, e with effects -/
theorem px_callTy1 {g : List D → Option D} {T : String} (h : CG X ca (.type T) g) (ha : PXE X ca W Γ e F) (hm : X.mg x = none) (hv : bootBuiltins x = some (.type T) := by decide +kernel) (hg : Gl X x := by rfl) (hn : x ≠ "__name__" := by decide) (hdb : (x == ("__debug__" : Str)) = false := by decide)
    (he : starEach (e :: []) X.env = (false, eval e X.env) :: starEach [] X.env := by rfl) (hpl : (backTo pos (starEach [] X.env)).any (·.1) = false := by rfl) : PXE X ca W Γ (.Call (.Name x p) (e :: []) [] pos) (xCall1 g F) := by
  obtain ⟨r, h1, h2⟩ := h
  obtain ⟨t, pa, q⟩ := ha
  refine ⟨_, pe_callTy h1 hg hm hv (pa_cons pa pa_nil he) hn hdb he hpl, fun B S0 M L σ H ρ E Q pp => ?_⟩
  refine q B S0 M L σ H ρ E _ (PostX.imp (fun d ρ' k v L' H' E' rv => ?_) (PostX.chain pp))
  obtain ⟨d2, hd, kk⟩ := xoV_some k
  obtain ⟨v2, iv, go⟩ := h2 H' [v] [d] d2 (.cons (rv.mono hide_ex) .nil) hd
  exact go Q (kk v2 L' H' E' (iv _ _))
/-! statements -/
def dDropE (F : List D → XO) : SFn := fun ρ => match F ρ with
  | .val _ ρ' => .nx ρ'
  | .exc e d ρ' => .exc e d ρ'
  | .bad => .bad
def dAsgE (i : Nat) (F : List D → XO) : SFn := fun ρ => match F ρ with
  | .val d ρ' => .nx (ρ'.set i d)
  | .exc e d ρ' => .exc e d ρ'
  | .bad => .bad
def dIfE (T : List D → XO) (F G : SFn) : SFn := fun ρ => match T ρ with
  | .val (.bl true) ρ' => F ρ'
  | .val (.bl false) ρ' => G ρ'
  | .exc e d ρ' => .exc e d ρ'
  | _ => .bad
theorem exc_postE {c : Ct} {B S0 H : Hp} {M : Mz} {L : List (List Addr)} {σ : L2.St} {ρ : List D} {N : Ends} {Γ' : List Md} (hx : ∀ Γx, J.Γx = some Γx → wks Γ Γx = true) (E : EnvR c B S0 M Γ L σ H ρ) {ec : Cl} {d : D} {dx : Addr} {v : V} (pp : Post c B S0 M J W Γ' N (.exc ec d ρ))
    (h1 : H dx = some (.xd [("at", v)])) (h2 : B dx = none) (h3 : Rep c (hide (Msk M L) H) v d) : W (.ref (c.ca ec)) (some dx) σ H := exc_post hx E pp h1 h2 h3
theorem pds_exprE (he : PXE X ca W Γ e F) (hx : ∀ Γx, J.Γx = some Γx → wks Γ Γx = true := by intro _ h; first | (cases h; done) | (cases h; first | decide | rfl)) (hs : swapsWith e none pos.line X.env = pure false := by rfl) : PDS X ca W J Γ (.Expr e pos) Γ (dDropE F) := by
  obtain ⟨t, p, q⟩ := he
  refine ⟨_, ps_expr p hs, fun B S0 M L σ H ρ N E pp => ?_⟩
  refine q B S0 M L σ H ρ E _ ?_
  unfold dDropE at pp
  cases h : F ρ with
  | val d ρ' =>
    rw [h] at pp
    exact fun v L' H' E' _ => pp L' σ H' (E'.base E.es)
  | exc e d ρ' =>
    rw [h] at pp
    exact fun dx v L' H' E' h1 h2 h3 => exc_post hx E' pp h1 h2 h3
  | bad => rw [h] at pp; exact pp.elim
theorem pds_setE (i : Nat) (he : PXE X ca W Γ e F) (hN : X.N.Nodup) (hx : ∀ Γx, J.Γx = some Γx → wks Γ Γx = true := by intro _ h; first | (cases h; done) | (cases h; first | decide | rfl)) (hi : X.N[i]? = some x := by rfl) (hxx : Loc X.env.scope x := by first | exact Or.inl rfl | exact Or.inr rfl) (hs : swapsWith e (some (.Name x pos')) pos.line X.env = pure false := by rfl) (hf : X.fn x = true ∨ X.env.scope.names.lookup x = some .local := by first | exact .inl rfl | exact .inr rfl) :
    PDS X ca W J Γ (.Assign [.Name x pos'] e pos) (Γ.set i .s) (dAsgE i F) := by
  obtain ⟨t, p, q⟩ := he
  refine ⟨_, ps_set hN hi hxx p hs hf, fun B S0 M L σ H ρ N E pp => ?_⟩
  refine q B S0 M L σ H ρ E _ ?_
  unfold dAsgE at pp
  cases h : F ρ with
  | val d ρ' =>
    rw [h] at pp
    exact fun v L' H' E' rv => pp _ _ _ (set_s (E'.base E.es) (Ex.refl _) i rv)
  | exc e d ρ' =>
    rw [h] at pp
    exact fun dx v L' H' E' h1 h2 h3 => exc_post hx E' pp h1 h2 h3
  | bad => rw [h] at pp; exact pp.elim
theorem pds_ifE {A C : List Stmt} {FA FC : SFn} {T : List D → XO} (ht : PXT X ca W Γ e T) (ha : PDSs X ca W J Γ A Γ' FA) (hb : PDSs X ca W J Γ C Γ' FC) (hx : ∀ Γx, J.Γx = some Γx → wks Γ Γx = true := by intro _ h; first | (cases h; done) | (cases h; first | decide | rfl)) : PDS X ca W J Γ (.If e A C pos) Γ' (dIfE T FA FC) := by
  obtain ⟨t, p, q⟩ := ht
  obtain ⟨u, p2, q2⟩ := ha
  obtain ⟨w, p3, q3⟩ := hb
  refine ⟨_, ps_if p p2 p3, fun B S0 M L σ H ρ N E pp => ?_⟩
  refine q B S0 M L σ H ρ E _ ?_
  unfold dIfE at pp
  cases h : T ρ with
  | val d ρ' =>
    rw [h] at pp
    cases d with
    | bl z =>
      refine ⟨z, rfl, fun L' H' E' => ?_⟩
      cases z with
      | true => exact iteT (q2 B S0 M L' σ H' ρ' N (E'.base E.es) pp)
      | false => exact iteF (q3 B S0 M L' σ H' ρ' N (E'.base E.es) pp)
    | _ => exact pp.elim
  | exc e d ρ' =>
    rw [h] at pp
    exact fun dx v L' H' E' h1 h2 h3 => exc_post hx E' pp h1 h2 h3
  | bad => rw [h] at pp; exact pp.elim
end
/-! ### calls -/
def refSh : Sh → Bool
  | .s => false
  | .nil => false
  | .cons _ _ => false
  | _ => true
theorem OwnT.isRef {c : Ct} {S H : Hp} {h : Sh} {l : List Addr} {v : V} {d : D} (o : OwnT c S H h l v d) (hr : refSh h = true) : ∃ a, v = .ref a := by
  cases o with
  | s _ => cases hr
  | lst _ _ => exact ⟨_, rfl⟩
  | dI _ _ _ => exact ⟨_, rfl⟩
  | dT _ _ _ => exact ⟨_, rfl⟩
  | dS _ _ _ => exact ⟨_, rfl⟩
  | obj _ _ => exact ⟨_, rfl⟩
  | tup _ _ => exact ⟨_, rfl⟩
def cmpo1 : Vm → Md → Bool
  | .s, .s => true
  | .s, .b => true
  | .b, .b => true
  | _, _ => false
def cmpo : List Vm → List Md → Bool
  | [], [] => true
  | m :: ms, g :: gs => cmpo1 m g && cmpo ms gs
  | _, _ => false
section
variable {c : Ct} {z : Addr} {B S0 H : Hp} {M : Mz} {L : List (List Addr)}
theorem VRs.slotsO {S T H2 : Hp} (eT : Ex (hide (Msk M L) H) T) (eB : Ex B T) (eS : Ex (hide (Msk M L) H) S) : ∀ {ms : List Vm} {Γ0 : List Md} {vs : List V} {ds : List D}, cmpo ms Γ0 = true → VRs c B M L H ms vs ds → Slots c T z S H2 Γ0 (noAdr Γ0) (vs.map some) ds
  | [], [], _, _, _, .nil => .nil
  | [], _ :: _, _, _, h, _ => nomatch h
  | _ :: _, [], _, _, h, _ => nomatch h
  | m :: ms, g :: Γ0, _, _, h, .cons r rs => by
    obtain ⟨h1, h2⟩ := Bool.and_eq_true_iff.mp (show (cmpo1 m g && cmpo ms Γ0) = true from h)
    refine .cons ?_ (rs.slotsO eT eB eS h2)
    cases m with
    | s =>
      have r' : Rep c (hide (Msk M L) H) _ _ := r
      cases g with
      | s => exact ⟨rfl, _, rfl, r'.mono eS⟩
      | b => exact ⟨rfl, _, rfl, r'.mono eT⟩
      | n => exact nomatch h1
      | f => exact nomatch h1
      | x => exact nomatch h1
      | o => exact nomatch h1
      | e => exact nomatch h1
    | b =>
      have r' : Rep c B _ _ := r
      cases g with
      | b => exact ⟨rfl, _, rfl, r'.mono eB⟩
      | s => exact nomatch h1
      | n => exact nomatch h1
      | f => exact nomatch h1
      | x => exact nomatch h1
      | o => exact nomatch h1
      | e => exact nomatch h1
    | t => exact nomatch h1
    | f => exact nomatch h1
theorem inout_env {Γ : List Md} {σ : L2.St} {ρ : List D} {l : List Addr} {x : Addr} {d0 : D} {h : Sh} (E : EnvR c B S0 M Γ L σ H ρ) (nd : l.Nodup) (il : ∀ a ∈ l, In L a) (ho : OwnT c (hide (Msk M L) H) H h l (.ref x) d0) {ms : List Vm} {Γ0 : List Md} {vs : List V} {ds : List D} (hc : cmpo ms Γ0 = true) (r : VRs c B M L H ms vs ds) :
    EnvR c (hide (fun a => a ∈ l) H) (fun _ => none) ⟨fun a => Msk M L a ∧ a ∉ l, x⟩ (.o h true :: Γ0) (l :: noAdr Γ0) ((V.ref x :: vs).map some) H (d0 :: ds) := by
  have inl : ∀ a, In (l :: noAdr Γ0) a → a ∈ l := fun a h => by
    rcases h.inv with h | h
    · exact h
    · exact (noAdr_in h).elim
  have e1 : Ex (hide (Msk M L) H) (hide (Msk ⟨fun a => Msk M L a ∧ a ∉ l, x⟩ (l :: noAdr Γ0)) H) := hide_le fun a o z q => ⟨fun y => z (by
    rcases y with ⟨y, _⟩ | y
    · exact y
    · exact .inr (il a (inl a y))), q⟩
  refine ⟨hide_ex, fun a hm => ⟨?_, fun y => hm.2 (inl a y)⟩, fun _ _ h => (nomatch h), ⟨fun a _ h => (noAdr_in h).elim, noAdr_apart _⟩, fun a hi => ?_, ?_⟩
  · rcases hm.1 with y | y
    · exact (E.hm a y).1
    · exact (E.hl a y).1
  · have ha := inl a hi
    refine ⟨(E.hl a (il a ha)).1, ?_⟩
    unfold hide
    rw [if_pos ha]
  · refine .cons ⟨nd, _, rfl, fun _ => rfl, ho.mono e1 fun _ _ _ h => h⟩ (r.slotsO ?_ ?_ e1 hc)
    · exact hide_le fun a o z q => ⟨fun y => z (.inr (il a y)), q⟩
    · exact fun a o q => hide_in (fun y => by
        rw [(E.hl a (il a y)).2] at q
        cases q) (E.eb a o q)
end
def xOut (s : D → Option (List D)) : RsO → XO
  | .ok d d1 => (match s d1 with
    | some ρ2 => .val d ρ2
    | none => .bad)
  | .exc e d d1 => (match s d1 with
    | some ρ2 => .exc e d ρ2
    | none => .bad)
  | .bad => .bad
def xFunK (G : List D → RsO) (dfl : List D) : Option (D × (D → Option (List D))) → Option (List D) → XO
  | some (d0, s), some as => xOut s (G (d0 :: (as ++ dfl)))
  | _, _ => .bad
/-- f(place, e, ..), f changes what stands there -/
def xFun (g : Lens) (G : List D → RsO) (fs : List D → Option (List D)) (dfl : List D) : List D → XO := fun ρ => xFunK G dfl (g ρ) (fs ρ)
section
variable {X : Cx} {ca : Cl → Addr} {W : WX} {Γ Γ0 : List Md} {k : Nat} {f : Addr} {fd : FuncData} {ps : List Str} {G : List D → RsO} {dvs : List V} {ds : List Value} {dfl : List D} {x m : Str} {p pos apos : Pos} {e o : Expr} {es : List Expr} {ms : List Vm} {fs : List D → Option (List D)} {g : Lens} {h : Sh}
/-- the callee's end is the caller's -/
theorem inout_run {B S0 : Hp} {M : Mz} {L : List (List Addr)} {σ : L2.St} {H H2 : Hp} {ρ : List D} (E : EnvR ⟨X.K, ca⟩ B S0 M Γ L σ H ρ) {xa : Addr} {d0 : D} {s : D → Option (List D)} (Fc : Foc ⟨X.K, ca⟩ B (hide (Msk M L) H) M Γ L σ H h (.ref xa) d0 s) (x2 : Ex H H2) {as : List D} {vs : List V} (hc : cmpo (ms ++ List.replicate dfl.length .s) Γ0 = true) (hi : Ims dvs dfl)
    (r : VRs ⟨X.K, ca⟩ B M L H2 ms vs as) {Q : VK} (pp : PostX ⟨X.K, ca⟩ W Γ B S0 M L σ H (fun d ρ' => ∀ v L' H', EnvR ⟨X.K, ca⟩ B (hide (Msk M L) H) M Γ L' σ H' ρ' → Rep ⟨X.K, ca⟩ (hide (Msk M L') H') v d → Q v H') (xOut s (G (d0 :: (as ++ dfl))))) :
    SpO ⟨X.K, ca⟩ h Γ0 G (.ref xa :: (vs ++ dvs)) H2 Q (WE W σ) := by
  obtain ⟨l, nd, il, ho, hole⟩ := Fc
  have E2 := E.ext x2
  refine ⟨xa, _, _, _, ⟨fun a => Msk M L a ∧ a ∉ l, xa⟩, l, _, _, rfl, rfl, inout_env E2 nd il (ho.mono (hide_mono x2) fun a _ o q => x2 a o q) hc (r.app hi.vrs), ?_⟩
  have back : ∀ {d1 : D} {ρ2 : List D} {l' : List Addr} {H' : Hp}, Ex (hide (fun a => a ∈ l) H2) H' → l'.Nodup → (∀ a ∈ l', hide (fun a => a ∈ l) H2 a = none ∧ ¬ (Msk M L a ∧ a ∉ l)) → OwnT ⟨X.K, ca⟩ (hide (fun a => (Msk M L a ∧ a ∉ l) ∨ a ∈ l') H') H' h l' (.ref xa) d1 → s d1 = some ρ2 →
      ∃ L2, EnvR ⟨X.K, ca⟩ B (hide (Msk M L) H) M Γ L2 σ H' ρ2 ∧ Ex (hide (fun a => (Msk M L a ∧ a ∉ l) ∨ a ∈ l') H') (hide (Msk M L2) H') := fun {d1 ρ2 l' H'} eB nd' hn o' hs => by
    obtain ⟨L2, E3, mk⟩ := hole H' l' d1 ρ2 (fun a o hna q => eB a o (hide_in hna (x2 a o q))) (fun a ha => by
      rcases hide_none (hn a ha).1 with y | y
      · exact .inl y
      · exact .inr (x2.free y)) nd' o' hs
    exact ⟨L2, E3, hide_le fun a o z q => ⟨fun y => z (mk a y), q⟩⟩
  cases hG : G (d0 :: (as ++ dfl)) with
  | ok d d1 =>
    rw [hG] at pp
    intro v l' H' eB nd' hn o' rv
    cases hs : s d1 with
    | none =>
      have ex : xOut s (.ok d d1) = .bad := by
        show (match s d1 with | some ρ2 => XO.val d ρ2 | none => XO.bad) = _
        rw [hs]
      rw [ex] at pp
      exact pp.elim
    | some ρ2 =>
      have ex : xOut s (.ok d d1) = .val d ρ2 := by
        show (match s d1 with | some ρ2 => XO.val d ρ2 | none => XO.bad) = _
        rw [hs]
      rw [ex] at pp
      obtain ⟨L2, E3, eS⟩ := back eB nd' hn o' hs
      exact pp v L2 H' E3 (rv.mono eS)
  | exc ec d d1 =>
    rw [hG] at pp
    intro dx v l' H' eB nd' hn o' h1 h2 rv
    cases hs : s d1 with
    | none =>
      have ex : xOut s (.exc ec d d1) = .bad := by
        show (match s d1 with | some ρ2 => XO.exc ec d ρ2 | none => XO.bad) = _
        rw [hs]
      rw [ex] at pp
      exact pp.elim
    | some ρ2 =>
      have ex : xOut s (.exc ec d d1) = .exc ec d ρ2 := by
        show (match s d1 with | some ρ2 => XO.exc ec d ρ2 | none => XO.bad) = _
        rw [hs]
      rw [ex] at pp
      obtain ⟨L2, E3, eS⟩ := back eB nd' hn o' hs
      have hB : B dx = none := by
        cases q : B dx with
        | none => rfl
        | some u =>
          rcases hide_none h2 with y | y
          · rw [(E.hl dx (il dx y)).2] at q
            cases q
          · rw [E2.eb dx u q] at y
            cases y
      exact pp dx v L2 H' (E3.base E.es) h1 hB (rv.mono eS)
  | bad =>
    rw [hG] at pp
    exact pp.elim
theorem px_callO (tk : L2N.Takes X W) (F : FnOk X.prog X.w X.K X.mg X.base (L2N.CX X.prog X.w) k f fd ps (SpO ⟨X.K, ca⟩ h Γ0 G)) (hr : Room k X.A) (hm : X.mg x = some (.ref f)) (hk : PySem.W.keepIn X.K (.ref f) = true) (hb : Binds X.K fd ps ds) (hd : Vals dvs ds) (hi : Ims dvs dfl)
    (ho : PPl X ca Γ o h g) (ha : PDA X ca Γ es ms fs) (hc : cmpo (ms ++ List.replicate dfl.length .s) Γ0 = true := by decide) (hrf : refSh h = true := by rfl) (hg : Gl X x := by rfl) (hdb : (x == ("__debug__" : Str)) = false := by decide) (he : starEach (o :: es) X.env = (false, eval o X.env) :: starEach es X.env := by rfl) (hpl : (backTo pos (starEach es X.env)).any (·.1) = false := by rfl) :
    PXE X ca W Γ (.Call (.Name x p) (o :: es) [] pos) (xFun g G fs dfl) := by
  obtain ⟨t, pt, q⟩ := ho
  obtain ⟨u, pa, qa⟩ := ha
  refine ⟨_, pe_callSD F hr hg hm hk hb hd (E := WE W) (L2N.passAt tk) (pa_cons pt pa he) hdb he hpl, fun B S0 M L σ H ρ E Q pp => ?_⟩
  unfold xFun at pp
  cases h1 : g ρ with
  | none => rw [h1] at pp; cases h2 : fs ρ <;> (rw [h2] at pp; exact pp.elim)
  | some pr =>
    obtain ⟨d0, s⟩ := pr
    cases h2 : fs ρ with
    | none => rw [h1, h2] at pp; exact pp.elim
    | some as =>
      rw [h1, h2] at pp
      obtain ⟨v, Fc, go⟩ := q B _ M L σ H ρ E.now d0 s h1
      obtain ⟨xa, ev⟩ : ∃ a, v = .ref a := by
        obtain ⟨l, _, _, ho, _⟩ := Fc
        exact ho.isRef hrf
      subst ev
      refine go H (Ex.refl _) _ fun H1 x1 => ?_
      refine qa B S0 M L σ H1 ρ (E.ext x1) as h2 _ fun vs H2 x2 r => ?_
      exact inout_run E Fc (x1.trans x2) hc hi r pp
/-! methods -/
def tMethS (C : Addr) (m : Str) (sp : Sp) (dvs : List V) (E : L2.St → XK) (ta : TE) (t : TA) : TE := fun σ H Q => ta σ H fun x H1 => ∃ a dx fs, x = .ref a ∧ H1 a = some (.ins C dx fs) ∧ fs.lookup m = none ∧ t σ H1 fun vs H2 => sp (x :: (vs ++ dvs)) H2 Q (E σ)
/-- how the text calls a method: the receiver, its attribute, the arguments -/
def MethTree (X : Cx) (o : Expr) (m : Str) (apos pos : Pos) (as : List Expr) (pl : Sem Bool) : Prop :=
  eval (.Call (.Attribute o m apos) as [] pos) X.env = (eval o X.env >>= fun ov => standAt apos.atName >>= fun _ => holding [ov] (getMethod ov m pl) >>= fun fr => callWith pos fr.1 fr.2 (backTo pos (starEach as X.env)) (backToKw pos (keywordEach [] X.env)))
section
variable {pl : Sem Bool} {CX : CXT} {C : Addr} {sp : Sp} {E : L2.St → XK} {ta : TE} {t : TA}
theorem pe_methS (ho : PE X o ta) (hc : Cls X.K C) (hmt : Meth X.K C m f) (Fn : FnOk X.prog X.w X.K X.mg X.base CX k f fd ps sp) (room : Room k X.A) (bd : Binds X.K fd ps ds) (dv : Vals dvs ds) (wish : ∀ σ, PassesAt CX X σ (E σ)) (hargs : PA X (e :: es) t) (tree : MethTree X o m apos pos (e :: es) pl)
    (first : starEach (e :: es) X.env = (false, eval e X.env) :: starEach es X.env) (plain : (backTo pos (starEach es X.env)).any (·.1) = false) :
    PE X (.Call (.Attribute o m apos) (e :: es) [] pos) (tMethS C m sp dvs E ta t) := by
  constructor
  intro pins st slots H Q inv want
  refine PySem.W.methodCall_KW (pl := pl) ?_ tree
  refine thn (ho.run pins st slots H _ inv want) ?_
  rintro u st1 ⟨v, H1, inv1, rel, addr, dct, fields, rfl, at_, none_, args⟩
  cases (show u = Value.ref addr from rel)
  apply getmeth_ok inv1 at_ hc hmt none_
  apply PySem.W.callWith_K (first := [.ref addr]) (h₀ := X.base) inv1.ok.mod.kin hmt.kp ?_ first plain
  refine thn (hargs.run pos pins st1 slots H1 _ inv1 args) ?_
  rintro us st2 ⟨vs, H2, inv2, rels, go⟩
  exact ⟨inv2.kIn, run_fnSD (us := .ref addr :: us) (vs := .ref addr :: vs) Fn room bd dv (wish slots) inv2 (.cons rfl rels) go⟩
theorem pe_methS0 (ho : PE X o ta) (hc : Cls X.K C) (hmt : Meth X.K C m f) (Fn : FnOk X.prog X.w X.K X.mg X.base CX k f fd ps sp) (room : Room k X.A) (bd : Binds X.K fd ps ds) (dv : Vals dvs ds) (wish : ∀ σ, PassesAt CX X σ (E σ)) (tree : MethTree X o m apos pos [] pl) :
    PE X (.Call (.Attribute o m apos) [] [] pos) (tMethS C m sp dvs E ta tNil) := by
  constructor
  intro pins st slots H Q inv want
  refine PySem.W.methodCall_KW (pl := pl) ?_ tree
  refine thn (ho.run pins st slots H _ inv want) ?_
  rintro u st1 ⟨v, H1, inv1, rel, addr, dct, fields, rfl, at_, none_, go⟩
  cases (show u = Value.ref addr from rel)
  apply getmeth_ok inv1 at_ hc hmt none_
  exact PySem.W.callWith_K0 (first := [.ref addr]) inv1.kIn hmt.kp (run_fnSD (us := [.ref addr]) (vs := [.ref addr]) Fn room bd dv (wish slots) inv1 (.cons rfl .nil) go)
end
theorem DXE.meth {t : TE} {u : TA} {cl : Cl} {hs : Sh} (q : DPl ⟨X.K, ca⟩ Γ t (.obj cl hs) g) (qa : DA ⟨X.K, ca⟩ Γ u ms fs) (hno : m ∉ flds cl) (hi : Ims dvs dfl) (hc : cmpo (ms ++ List.replicate dfl.length .s) Γ0 = true) :
    DXE ⟨X.K, ca⟩ W Γ (tMethS (ca cl) m (SpO ⟨X.K, ca⟩ (.obj cl hs) Γ0 G) dvs (WE W) t u) (xFun g G fs dfl) := fun B S0 M L σ H ρ E Q pp => by
  unfold xFun at pp
  cases h1 : g ρ with
  | none => rw [h1] at pp; cases h2 : fs ρ <;> (rw [h2] at pp; exact pp.elim)
  | some pr =>
    obtain ⟨d0, s⟩ := pr
    cases h2 : fs ρ with
    | none => rw [h1, h2] at pp; exact pp.elim
    | some as =>
      rw [h1, h2] at pp
      obtain ⟨v, Fc, go⟩ := q B _ M L σ H ρ E.now d0 s h1
      obtain ⟨xa, dx, vs0, ev, hH⟩ : ∃ a dx vs, v = .ref a ∧ H a = some (.ins (ca cl) dx ((flds cl).zip vs)) := by
        obtain ⟨l, _, _, ho, _⟩ := Fc
        cases ho with
        | obj hH r => exact ⟨_, _, _, rfl, hH⟩
      subst ev
      refine go H (Ex.refl _) _ fun H1 x1 => ⟨xa, dx, _, rfl, x1 _ _ hH, zip_lookup_none hno, ?_⟩
      refine qa B S0 M L σ H1 ρ (E.ext x1) as h2 _ fun vs H2 x2 r => ?_
      exact inout_run E Fc (x1.trans x2) hc hi r pp
/-- place.m(e, ..), m changes what stands there -/
theorem px_methO {pl : Sem Bool} (cl : Cl) {hs : Sh} (tk : L2N.Takes X W) (F : FnOk X.prog X.w X.K X.mg X.base (L2N.CX X.prog X.w) k f fd ps (SpO ⟨X.K, ca⟩ (.obj cl hs) Γ0 G)) (hk : ClsOk X.K ca cl) (hmt : Meth X.K (ca cl) m f) (hr : Room k X.A) (hb : Binds X.K fd ps ds) (hd : Vals dvs ds) (hi : Ims dvs dfl)
    (ho : PPl X ca Γ o (.obj cl hs) g) (ha : PDA X ca Γ (e :: es) ms fs) (hc : cmpo (ms ++ List.replicate dfl.length .s) Γ0 = true := by decide) (hno : m ∉ flds cl := by decide +kernel)
    (first : starEach (e :: es) X.env = (false, eval e X.env) :: starEach es X.env := by rfl) (plain : (backTo pos (starEach es X.env)).any (·.1) = false := by rfl) (tree : MethTree X o m apos pos (e :: es) pl := by rfl) :
    PXE X ca W Γ (.Call (.Attribute o m apos) (e :: es) [] pos) (xFun g G fs dfl) := by
  obtain ⟨t, pt, q⟩ := ho
  obtain ⟨u, pa, qa⟩ := ha
  exact ⟨_, pe_methS pt hk.cls hmt F hr hb hd (E := WE W) (L2N.passAt tk) pa tree first plain, DXE.meth q qa hno hi hc⟩
theorem px_methO0 {pl : Sem Bool} (cl : Cl) {hs : Sh} (tk : L2N.Takes X W) (F : FnOk X.prog X.w X.K X.mg X.base (L2N.CX X.prog X.w) k f fd ps (SpO ⟨X.K, ca⟩ (.obj cl hs) Γ0 G)) (hk : ClsOk X.K ca cl) (hmt : Meth X.K (ca cl) m f) (hr : Room k X.A) (hb : Binds X.K fd ps ds) (hd : Vals dvs ds) (hi : Ims dvs dfl)
    (ho : PPl X ca Γ o (.obj cl hs) g) (hc : cmpo ([] ++ List.replicate dfl.length .s) Γ0 = true := by decide) (hno : m ∉ flds cl := by decide +kernel) (tree : MethTree X o m apos pos [] pl := by rfl) :
    PXE X ca W Γ (.Call (.Attribute o m apos) [] [] pos) (xFun g G dNilA dfl) := by
  obtain ⟨t, pt, q⟩ := ho
  exact ⟨_, pe_methS0 pt hk.cls hmt F hr hb hd (E := WE W) (L2N.passAt tk) tree, DXE.meth (ms := []) q (fun B S0 M L σ H ρ E ds hd Q q => by cases hd; exact q [] H (Ex.refl _) .nil) hno hi hc⟩
end
end DL

/-! DL: d.setdefault with tuple keys, sorted(d) of them; get of what is lent; methods that may raise, methods by the receiver's class. -/
namespace DL
open PySem PySem.Spec PyProof.Rows L2
/-! ### setdefault -/
def rSetT : V → List V → Hp → VK → Prop := fun x as H Q => ∃ (a b : Addr) (es : List (List Key × V)) (k : List Key) (y : V), x = .ref a ∧ as = [.ref b, y] ∧ H a = some (.dT es) ∧ H b = some (.tup (k.map kV)) ∧ es.length < sizeLine ∧
  (∀ z, valV es k = some z → Q z H) ∧ (valV es k = none → Q y (upd H a (.dT (putK es k y))))
theorem mt_setT {X : Cx} (room : X.A.units + 1 < cLine) : MtR X "dict.setdefault" rSetT := by
  intro pins st slots H x as v us Q inv rel rels want
  obtain ⟨a, b, es, k, y, rfl, rfl, atA, atB, small, old, new⟩ := want
  cases (show v = Value.ref a from rel)
  match us, rels with
  | [u1, u2], .cons relB (.cons relY .nil) =>
    cases (show u1 = Value.ref b from relB)
    obtain ⟨len, noMods, xs, pairs, held⟩ := dt_of inv.hok atA
    have fits : xs.length ≤ sizeLine := by rw [← Paired.length pairs]; exact len
    refine call_setdefault_heap (hsz := fits) (knd := tupleKind (mixKind X.prog X.w)) (tupleKind_room_in1 room) (key_of inv.hok atB) noMods held (fun p found => ?_) fun none_ h' held' same => ?_
    · have r := pairs.val k
      rw [found] at r
      cases e : valV es k with
      | none => rw [e] at r; exact r.elim
      | some z => rw [e] at r; exact ⟨z, H, inv.tok _, r, old z e⟩
    · have r := pairs.val k
      rw [none_] at r
      have e : valV es k = none := by
        cases e : valV es k with
        | none => rfl
        | some z => rw [e] at r; exact r.elim
      have big : (putK es k y).length ≤ sizeLine := Nat.le_trans (length_putK es k y) small
      obtain ⟨q, ents, ep, g1, g2, g3, g4, _, g5⟩ := held'
      refine ⟨y, _, d_write (ob := .dT (putK es k y)) inv (by rw [atA]; exact True.intro) same ⟨q, g1⟩ ⟨big, noMods, _, (pairs.put k atB relY).keeps fun c ys ec => ?_, q, ents, ep, g1, g2, g3, g4, g5⟩, relY, new e⟩
      rw [upd_ne fun z => by subst z; rw [atA] at ec; cases ec]
      exact ec
def plSetdK : Option D → Option (D × (D → Option (List D))) → Option D → Out
  | some x, some (.dT kvs, s), some b => (match asT b with
    | some k => if kvs.length < 100000 then (match valD kvs k with
      | some _ => outO (s (.dT kvs))
      | none => outO (s (.dT (kvs ++ [(k, x)])))) else .bad
    | none => .bad)
  | _, _, _ => .bad
/-- d.setdefault(k, e) -/
def dPlSetd (g : Lens) (fk fv : DFn) : SFn := fun ρ => plSetdK (fv ρ) (g ρ) (fk ρ)
theorem putD_new {δ : Type} [DecidableEq δ] {kvs : List (δ × D)} {k : δ} {d : D} (h : valD kvs k = none) : putD kvs k d = kvs ++ [(k, d)] := by
  unfold putD
  rw [if_neg]
  intro z
  obtain ⟨p, hp, e⟩ := List.any_eq_true.mp z
  have := List.find?_eq_none.mp (Option.map_eq_none_iff.mp h) p hp
  exact this e
section
variable {X : Cx} {ca : Cl → Addr} {W : WX} {J : Jd} {Γ Γ0 : List Md} {e o b : Expr} {f fb : DFn} {g : Lens} {mb : Vm} {pos pos' apos cpos : Pos}
theorem pds_osetd {k : Nat} (hr : Room k X.A) (ho : PPl X ca Γ o (.dT .s) g) (hb : PDE X ca Γ b .s fb) (he : PDE X ca Γ e .s f)
    (base_ : attributeBase o "setdefault" X.env (eval o X.env) = eval o X.env := by rfl) (few : ((backTo cpos (starEach (b :: e :: []) X.env)).all (fun x => !x.1) && (backToKw cpos (keywordEach [] X.env)).all (fun x => x.1.isSome)
      && decide ((b :: e :: []).length + ([] : List Keyword).length + (if ([] : List Keyword).isEmpty then 0 else 1) < 30)) = true := by rfl) (line : (apos.endLine == cpos.line) = true := by rfl) (st1 : starEach (b :: e :: []) X.env = (false, eval b X.env) :: starEach (e :: []) X.env := by rfl) (st2 : starEach (e :: []) X.env = (false, eval e X.env) :: starEach [] X.env := by rfl) (plain : (backTo cpos (starEach (e :: []) X.env)).any (·.1) = false := by rfl)
    (sw : swapsWith (.Call (.Attribute o "setdefault" apos) [b, e] [] cpos) none pos.line X.env = pure false := by rfl) :
    PDS X ca W J Γ (.Expr (.Call (.Attribute o "setdefault" apos) [b, e] [] cpos) pos) Γ (dPlSetd g fb f) := by
  obtain ⟨t, p, q⟩ := ho
  obtain ⟨t1, p1, q1⟩ := hb
  obtain ⟨t2, p2, q2⟩ := he
  refine ⟨_, ps_expr (pe_bm PySem.F.plainAttrs_dict PySem.F.slot_dict_setdefault PySem.F.type_dict_setdefault (mt_setT hr.units1) p (pa_cons p1 (pa_cons p2 pa_nil st2) st1) base_ few line st1 plain) sw, fun B S0 M L σ H ρ N E pp => ?_⟩
  unfold dPlSetd at pp
  cases h1 : f ρ with
  | none => rw [h1] at pp; exact pp.elim
  | some x =>
    cases h2 : g ρ with
    | none => rw [h1, h2] at pp; exact pp.elim
    | some pr =>
      obtain ⟨dd, s⟩ := pr
      obtain ⟨v, ⟨l, nd, il, hol, hole⟩, go⟩ := q B S0 M L σ H ρ E _ s h2
      generalize eqd : dd = dq at hol
      cases hol with
      | @dT _ a l0 ks vs ds hl hH r =>
        subst eqd
        obtain ⟨el, rr⟩ := r.flat
        subst el
        have kv : KVs ⟨X.K, ca⟩ (hide (Msk M L) H) eT ((ks.map eT).zip vs) (ks.zip ds) := KVs.of hl rr
        cases h3 : fb ρ with
        | none => rw [h1, h2, h3] at pp; exact pp.elim
        | some k0 =>
          rw [h1, h2, h3] at pp
          have pp1 : Post ⟨X.K, ca⟩ B S0 M J W Γ N (match asT k0 with
            | some k => if (ks.zip ds).length < 100000 then (match valD (ks.zip ds) k with
              | some _ => outO (s (.dT (ks.zip ds)))
              | none => outO (s (.dT (ks.zip ds ++ [(k, x)])))) else .bad
            | none => .bad) := pp
          cases h4 : asT k0 with
          | none => rw [h4] at pp1; exact pp1.elim
          | some ns =>
            rw [h4] at pp1
            have pp2 : Post ⟨X.K, ca⟩ B S0 M J W Γ N (if (ks.zip ds).length < 100000 then (match valD (ks.zip ds) ns with
              | some _ => outO (s (.dT (ks.zip ds)))
              | none => outO (s (.dT (ks.zip ds ++ [(ns, x)])))) else .bad) := pp1
            split at pp2
            · rename_i hlen
              refine go H (Ex.refl _) _ fun H1 x1 => ⟨.inr (.inr (.inl ⟨rfl, .inr ⟨_, x1 _ _ hH⟩⟩)), ?_⟩
              refine q1 B S0 M L σ H1 ρ (E.ext x1) k0 h3 _ fun w H2 x2 rk => ?_
              have E2 := (E.ext x1).ext x2
              refine q2 B S0 M L σ H2 ρ E2 x h1 _ fun y H3 x3 rv => ?_
              have ex := (x1.trans x2).trans x3
              have rk' : Rep ⟨X.K, ca⟩ (hide (Msk M L) H2) w k0 := rk
              have rv' : Rep ⟨X.K, ca⟩ (hide (Msk M L) H3) y x := rv
              obtain ⟨bk, rfl, hkk⟩ := rk'.key h4
              have atA : H3 a = some (.dT ((ks.map eT).zip vs)) := ex _ _ hH
              have kv3 := kv.mono (hide_mono ex)
              have same : upd H3 a (.dT ((ks.map eT).zip vs)) = H3 := by
                funext z
                by_cases hz : z = a
                · subst hz; rw [upd_same, atA]
                · rw [upd_ne hz]
              have fin : ∀ (es : List (List Key × V)) (kvs : List (List Int × D)) (ρ2 : List D), KVs ⟨X.K, ca⟩ (hide (Msk M L) H3) eT es kvs → s (.dT kvs) = some ρ2 → ∃ L2, EnvR ⟨X.K, ca⟩ B S0 M Γ L2 σ (upd H3 a (.dT es)) ρ2 := fun es kvs ρ2 kk hs2 => by
                have kk2 := kk.mono (S' := hide (fun b => Msk M L b ∨ b ∈ ([] : List Addr)) (upd H3 a (.dT es))) (hide_le fun b u z w => ⟨fun y => (by
                  rcases y with y | y
                  · exact z y
                  · cases y), by rw [upd_ne (fun e => z (.inr (by rw [e]; exact il a (.head _))))]; exact w⟩)
                obtain ⟨ks2, vs2, ds2, g1, g2, g3, g4⟩ := kk2.to
                exact Foc.upd (c := ⟨X.K, ca⟩) (ln := []) (l2 := [a]) (d2 := .dT kvs) il hole ex (fun b o hn z => by rw [upd_ne (by simpa using hn)]; exact z) (fun b hb => .inl hb) (fun b hb => by cases hb) nd (by
                  rw [g3]
                  exact .dT g1 (by rw [upd_same, g2]; rfl) (OwnU.sh g4)) hs2
              refine ⟨a, bk, _, eT ns, y, rfl, rfl, atA, x3 _ _ (hide_of hkk).2, Nat.lt_of_lt_of_le (show ((ks.map eT).zip vs).length < 100000 from by rw [kv.length]; exact hlen) (by decide : 100000 ≤ sizeLine), fun z hz => ?_, fun hz => ?_⟩
              · rcases kv.val eT_inj ns with ⟨g1, _⟩ | ⟨z', d', g1, g2, _⟩
                · rw [hz] at g1; cases g1
                · rw [g2] at pp2
                  obtain ⟨ρ2, hs2, pp3⟩ := outO_nx pp2
                  obtain ⟨L2, E4⟩ := fin _ _ ρ2 kv3 hs2
                  rw [same] at E4
                  exact pp3 L2 σ _ E4
              · rcases kv.val eT_inj ns with ⟨_, g2⟩ | ⟨z', d', g1, g2, _⟩
                · rw [g2] at pp2
                  obtain ⟨ρ2, hs2, pp3⟩ := outO_nx pp2
                  have kk := kv3.put eT_inj ns rv'
                  rw [putD_new g2] at kk
                  obtain ⟨L2, E4⟩ := fin _ _ ρ2 kk hs2
                  exact pp3 L2 σ _ E4
                · rw [hz] at g1; cases g1
            · exact pp2.elim
      | _ =>
        rw [h1, h2] at pp
        subst eqd
        exact pp.elim
/-! ### get of what is lent or known for now -/
theorem VR.weakT {c : Ct} {B S0 H : Hp} {M : Mz} {L : List (List Addr)} {σ : L2.St} {ρ : List D} {m : Vm} {v : V} {d : D} (E : EnvR c B S0 M Γ L σ H ρ) (r : VR c m B M L H v d) : VR c .t B M L H v d := r.rep E.eb
variable {a k2 : Expr} {ma mk : Vm} {fa fk fe : DFn}
theorem pd_get1T (room : X.A.units + 1 < cLine) (ha : PDE X ca Γ a ma fa) (hb : PDE X ca Γ b mb fb) (m : M1 X a "get" apos b cpos := by exact ⟨rfl, rfl, rfl, rfl⟩) : PDE X ca Γ (.Call (.Attribute a "get" apos) [b] [] cpos) .t (d2 gDGet1 fa fb) := by
  obtain ⟨t, p, qa⟩ := ha
  obtain ⟨u, p2, qb⟩ := hb
  refine ⟨_, pe_dget1 room p p2 m, fun B S0 M L σ H ρ E d hd Q want => ?_⟩
  obtain ⟨x, e1, hd⟩ := bind_some hd
  obtain ⟨y, e2, hd⟩ := bind_some hd
  obtain ⟨o, e3, rfl⟩ := Option.map_eq_some_iff.mp hd
  refine qa B S0 M L σ H ρ E x e1 _ fun v H1 x1 r1 => ?_
  have r1' : Rep ⟨X.K, ca⟩ H1 v x := r1.rep (E.ext x1).eb
  obtain ⟨p0, ep, isD⟩ := (r1'.dictR (Ex.refl _) (getD'_is e3)).isD
  refine ⟨p0, ep, isD, ?_⟩
  refine qb B S0 M L σ H1 ρ (E.ext x1) y e2 _ fun w H2 x2 r2 => ?_
  have E2 := (E.ext x1).ext x2
  obtain ⟨p', r, h1, got, alt⟩ := ((r1'.mono x2).dictR (Ex.refl _) (getD'_is e3)).get (r2.rep E2.eb) e3
  rw [ep] at h1
  cases h1
  refine ⟨r, got, ?_⟩
  rcases alt with ⟨rfl, rfl⟩ | ⟨x', y', rfl, rfl, h4⟩
  · exact want _ H2 (x1.trans x2) .non
  · exact want x' H2 (x1.trans x2) h4
theorem pd_get2T (room : X.A.units + 1 < cLine) (ha : PDE X ca Γ a ma fa) (hb : PDE X ca Γ b mb fb) (he : PDE X ca Γ e mk fe) (m : M2 X a "get" apos b e cpos := by exact ⟨rfl, rfl, rfl, rfl⟩) : PDE X ca Γ (.Call (.Attribute a "get" apos) [b, e] [] cpos) .t (dDGet2 fa fb fe) := by
  obtain ⟨t, p, qa⟩ := ha
  obtain ⟨u, p2, qb⟩ := hb
  obtain ⟨w, p3, qe⟩ := he
  refine ⟨_, pe_dget2 room p p2 p3 m, fun B S0 M L σ H ρ E d hd Q want => ?_⟩
  obtain ⟨x, e1, hd⟩ := bind_some hd
  obtain ⟨y, e2, hd⟩ := bind_some hd
  obtain ⟨z, e4, hd⟩ := bind_some hd
  obtain ⟨o, e3, rfl⟩ := Option.map_eq_some_iff.mp hd
  refine qa B S0 M L σ H ρ E x e1 _ fun v H1 x1 r1 => ?_
  have r1' : Rep ⟨X.K, ca⟩ H1 v x := r1.rep (E.ext x1).eb
  obtain ⟨p0, ep, isD⟩ := (r1'.dictR (Ex.refl _) (getD'_is e3)).isD
  refine ⟨p0, ep, isD, ?_⟩
  refine qb B S0 M L σ H1 ρ (E.ext x1) y e2 _ fun w H2 x2 r2 => ?_
  refine qe B S0 M L σ H2 ρ ((E.ext x1).ext x2) z e4 _ fun w3 H3 x3 r3 => ?_
  have E3 := ((E.ext x1).ext x2).ext x3
  obtain ⟨p', r, h1, got, alt⟩ := ((r1'.mono (x2.trans x3)).dictR (Ex.refl _) (getD'_is e3)).get ((r2.mono x3).rep E3.eb) e3
  rw [ep] at h1
  cases h1
  refine ⟨r, got, ?_⟩
  rcases alt with ⟨rfl, rfl⟩ | ⟨x', y', rfl, rfl, h4⟩
  · exact want _ H3 ((x1.trans x2).trans x3) (r3.rep E3.eb)
  · exact want x' H3 ((x1.trans x2).trans x3) h4
/-! ### a method that may raise, nothing changed -/
variable {k : Nat} {fA : Addr} {fd : FuncData} {ps : List Str} {G : List D → Rs} {dvs : List V} {ds : List Value} {dfl : List D} {m : Str} {es : List Expr} {ms : List Vm} {fs : List D → Option (List D)} {mo : Vm} {fo : DFn}
def methXK (cl : Cl) (G : List D → Rs) (dfl : List D) : Option D → Option (List D) → Rs
  | some od, some as => if isObj cl od = true then G (od :: (as ++ dfl)) else .bad
  | _, _ => .bad
def dMethX (cl : Cl) (G : List D → Rs) (fo : DFn) (fs : List D → Option (List D)) (dfl : List D) : List D → Rs := fun ρ => methXK cl G dfl (fo ρ) (fs ρ)
theorem pd_methX {pl : Sem Bool} (cl : Cl) (tk : L2N.Takes X W) (F : FnOk X.prog X.w X.K X.mg X.base (L2N.CX X.prog X.w) k fA fd ps (SpD ⟨X.K, ca⟩ Γ0 false G)) (hk : ClsOk X.K ca cl) (hmt : Meth X.K (ca cl) m fA) (hr : Room k X.A) (hb : Binds X.K fd ps ds) (hd : Vals dvs ds) (hi : Ims dvs dfl)
    (ho : PDE X ca Γ o mo fo) (ha : PDA X ca Γ (e :: es) ms fs) (hc : cmps (mo :: (ms ++ List.replicate dfl.length .s)) Γ0 = true := by decide) (hno : m ∉ flds cl := by decide +kernel)
    (first : starEach (e :: es) X.env = (false, eval e X.env) :: starEach es X.env := by rfl) (plain : (backTo pos (starEach es X.env)).any (·.1) = false := by rfl) (tree : MethTree X o m apos pos (e :: es) pl := by rfl) :
    PDEX X ca W Γ (.Call (.Attribute o m apos) (e :: es) [] pos) .s (dMethX cl G fo fs dfl) := by
  obtain ⟨t0, p0, q0⟩ := ho
  obtain ⟨t, pa, q⟩ := ha
  refine ⟨_, pe_methS p0 hk.cls hmt F hr hb hd (E := WE W) (L2N.passAt tk) pa tree first plain, fun B S0 M L σ H ρ E Q want => ?_⟩
  unfold dMethX at want
  cases h1 : fo ρ with
  | none => rw [h1] at want; exact want.elim
  | some od =>
    cases h2 : fs ρ with
    | none => rw [h1, h2] at want; exact want.elim
    | some as =>
      rw [h1, h2] at want
      have eM : methXK cl G dfl (some od) (some as) = if isObj cl od = true then G (od :: (as ++ dfl)) else .bad := rfl
      rw [eM] at want
      cases hob : isObj cl od with
      | false =>
        rw [hob, if_neg (by decide)] at want
        exact want.elim
      | true =>
        rw [hob, if_pos rfl] at want
        have want' : (match G (od :: (as ++ dfl)) with
          | .ok d => ∀ v H', Ex H H' → VR ⟨X.K, ca⟩ .s B M L H' v d → Q v H'
          | .exc e d => ∀ dx v H', Ex H H' → H' dx = some (.xd [("at", v)]) → H dx = none → Rep ⟨X.K, ca⟩ (hide (Msk M L) H') v d → W (.ref (ca e)) (some dx) σ H'
          | .bad => False) := want
        refine q0 B S0 M L σ H ρ E od h1 _ fun x H1 x1 r0 => ?_
        obtain ⟨a, dx, vs0, ex, at_⟩ := isObj_rep (r0.rep (E.eb.trans x1)) hob
        refine ⟨a, dx, _, ex, at_, zip_lookup_none hno, ?_⟩
        refine q B S0 M L σ H1 ρ (E.ext x1) as h2 _ fun vs H2 x2 r => ?_
        have xx := x1.trans x2
        refine ⟨H2, _, ⟨Msk M L, M.z⟩, _, _, VRs.env ((E.ext x1).ext x2) hc (.cons (r0.mono x2) (r.app hi.vrs)), ?_⟩
        cases hG : G (od :: (as ++ dfl)) with
        | ok d =>
          rw [hG] at want'
          exact fun v H' x3 res => want' v H' (xx.trans x3) (res_back res)
        | exc e d =>
          rw [hG] at want'
          exact fun dx v H' x3 h1 h2 h3 => want' dx v H' (xx.trans x3) h1 (xx.free h2) h3
        | bad =>
          rw [hG] at want'
          exact want'.elim
/-! ### a method by the receiver's class -/
/-- one class's way: its own def, what that def gives -/
structure Way where
  cl : Cl
  rf : Bool
  G : List D → Rs
/-- what the text says of one way -/
def WayOk (X : Cx) (ca : Cl → Addr) (m : Str) (Γ0 : List Md) (w : Way) : Prop := ∃ (k : Nat) (f : Addr) (fd : FuncData) (ps : List Str), Cls X.K (ca w.cl) ∧ Meth X.K (ca w.cl) m f ∧ FnOk X.prog X.w X.K X.mg X.base (L2N.CX X.prog X.w) k f fd ps (SpD ⟨X.K, ca⟩ Γ0 w.rf w.G) ∧ Room k X.A ∧ Binds X.K fd ps [] ∧ m ∉ flds w.cl
def tWays (T : Addr → Sp → Prop) (m : Str) (ta : TE) (t : TA) : TE := fun σ H Q => ta σ H fun x H1 => ∃ a C sp dx fs, x = .ref a ∧ T C sp ∧ H1 a = some (.ins C dx fs) ∧ fs.lookup m = none ∧ t σ H1 fun vs H2 => sp (x :: vs) H2 Q fun _ _ _ => False
theorem pe_ways {pl : Sem Bool} {T : Addr → Sp → Prop} {ta : TE} {t : TA} (ho : PE X o ta) (hT : ∀ C sp, T C sp → Cls X.K C ∧ ∃ (k : Nat) (f : Addr) (fd : FuncData) (ps : List Str), Meth X.K C m f ∧ FnOk X.prog X.w X.K X.mg X.base (L2N.CX X.prog X.w) k f fd ps sp ∧ Room k X.A ∧ Binds X.K fd ps [])
    (hargs : PA X (e :: es) t) (tree : MethTree X o m apos pos (e :: es) pl) (first : starEach (e :: es) X.env = (false, eval e X.env) :: starEach es X.env) (plain : (backTo pos (starEach es X.env)).any (·.1) = false) :
    PE X (.Call (.Attribute o m apos) (e :: es) [] pos) (tWays T m ta t) := by
  constructor
  intro pins st slots H Q inv want
  refine PySem.W.methodCall_KW (pl := pl) ?_ tree
  refine thn (ho.run pins st slots H _ inv want) ?_
  rintro u st1 ⟨v, H1, inv1, rel, addr, C, sp, dct, fields, rfl, way, at_, none_, args⟩
  cases (show u = Value.ref addr from rel)
  obtain ⟨hc, k, f, fd, ps, hmt, Fn, room, bd⟩ := hT C sp way
  apply getmeth_ok inv1 at_ hc hmt none_
  apply PySem.W.callWith_K (first := [.ref addr]) (h₀ := X.base) inv1.ok.mod.kin hmt.kp ?_ first plain
  refine thn (hargs.run pos pins st1 slots H1 _ inv1 args) ?_
  rintro us st2 ⟨vs, H2, inv2, rels, go⟩
  have go' : sp (V.ref addr :: (vs ++ [])) H2 Q fun _ _ _ => False := by
    rw [List.append_nil]
    exact go
  exact ⟨inv2.kIn, run_fn (us := .ref addr :: us) (vs := .ref addr :: vs) Fn room bd .nil passLN inv2 (.cons rfl rels) go'⟩
def wayOf (ws : List Way) : D → Option Way
  | .obj k _ => ws.find? fun w => decide (w.cl = k)
  | _ => none
def waysK (ws : List Way) : Option D → Option (List D) → Option D
  | some od, some as => (wayOf ws od).bind fun w => okR (w.G (od :: as))
  | _, _ => none
def dWays (ws : List Way) (fo : DFn) (fs : List D → Option (List D)) : DFn := fun ρ => waysK ws (fo ρ) (fs ρ)
theorem wayOf_some {ws : List Way} {od : D} {w : Way} (h : wayOf ws od = some w) : w ∈ ws ∧ isObj w.cl od = true := by
  cases od with
  | obj k fs =>
    obtain h : ws.find? (fun w => decide (w.cl = k)) = some w := h
    refine ⟨List.mem_of_find?_eq_some h, ?_⟩
    have := List.find?_some h
    have e : w.cl = k := of_decide_eq_true this
    exact decide_eq_true e.symm
  | _ => cases h
/-- o.m(e, ..) by the class of o -/
theorem pd_ways {pl : Sem Bool} (ws : List Way) (hw : ∀ w ∈ ws, WayOk X ca m Γ0 w) (hrf : ∀ w ∈ ws, w.rf = false) (ho : PDE X ca Γ o mo fo) (ha : PDA X ca Γ (e :: es) ms fs) (hc : cmps (mo :: ms) Γ0 = true := by decide)
    (first : starEach (e :: es) X.env = (false, eval e X.env) :: starEach es X.env := by rfl) (plain : (backTo pos (starEach es X.env)).any (·.1) = false := by rfl) (tree : MethTree X o m apos pos (e :: es) pl := by rfl) :
    PDE X ca Γ (.Call (.Attribute o m apos) (e :: es) [] pos) .s (dWays ws fo fs) := by
  obtain ⟨t0, p0, q0⟩ := ho
  obtain ⟨t, pa, q⟩ := ha
  refine ⟨_, pe_ways (T := fun C sp => ∃ w ∈ ws, C = ca w.cl ∧ sp = SpD ⟨X.K, ca⟩ Γ0 w.rf w.G) p0 (fun C sp ⟨w, hmem, eC, esp⟩ => ?_) pa tree first plain, fun B S0 M L σ H ρ E d hd Q want => ?_⟩
  · subst eC esp
    obtain ⟨k, f, fd, ps, g1, g2, g3, g4, g5, _⟩ := hw w hmem
    exact ⟨g1, k, f, fd, ps, g2, g3, g4, g5⟩
  · unfold dWays at hd
    cases h1 : fo ρ with
    | none => rw [h1] at hd; cases hd
    | some od =>
      cases h2 : fs ρ with
      | none => rw [h1, h2] at hd; cases hd
      | some as =>
        rw [h1, h2] at hd
        obtain ⟨w, hw1, hd⟩ := bind_some (show ((wayOf ws od).bind fun w => okR (w.G (od :: as))) = some d from hd)
        obtain ⟨hmem, hob⟩ := wayOf_some hw1
        refine q0 B S0 M L σ H ρ E od h1 _ fun x H1 x1 r0 => ?_
        obtain ⟨a, dx, vs0, ex, at_⟩ := isObj_rep (r0.rep (E.eb.trans x1)) hob
        obtain ⟨_, _, _, _, _, _, _, _, _, hno⟩ := hw w hmem
        refine ⟨a, _, _, dx, _, ex, ⟨w, hmem, rfl, rfl⟩, at_, zip_lookup_none hno, ?_⟩
        refine q B S0 M L σ H1 ρ (E.ext x1) as h2 _ fun vs H2 x2 r => ?_
        rw [hrf w hmem]
        exact sp_ok ((E.ext x1).ext x2) hc (.cons (r0.mono x2) r) hd fun v H' x3 res => want v H' ((x1.trans x2).trans x3) (res_back res)
end
/-! ### sorted(d), the keys tuples -/
def keyTups (kvs : List (List Int × D)) : List D := kvs.map fun kv => .tup (kv.1.map .int)
def gSortKeysT : D → Option D
  | .dT kvs => if okSort (keyTups kvs) = true then some (.lst (sortD (keyTups kvs))) else none
  | _ => none
end DL

/-! DL: sorted(d) where the keys are tuples of ints. -/
namespace DL
open PySem PySem.Spec PyProof.Rows L2
/-- sorted of what can be collected -/
theorem sorted_of_collect {prog : Program} {w : World} {A : Around} {E : Value → Shared → Prop} {s : Shared} {x : Value} {Q : Value → Shared → Prop} {P : List Value → Heap → Nat → Prop}
    (gathers : ∀ R : List Value → Shared → Prop, (∀ its h' tk, P its h' tk → R its { s with heap := h', toks := tk }) → wpAny (model prog w) A.in1 (collect x) R E s)
    (rest : ∀ its h' tk, P its h' tk → its.length ≤ sizeLine ∧ wpAny (model prog w) A.in1 (call (.builtin "list.sort") [.ref h'.objs.size]) (fun _ s' => Q (.ref h'.objs.size) s') E { s with heap := h'.push { cls := .type "list", data := .seq its.toArray }, toks := tk }) :
    wpAny (model prog w) A (call (.builtin "sorted") [x]) Q E s := by
  refine PySem.Calls.call_function_entry kind_sorted plain_sorted entry_sorted (args_sorted1 _) ?_
  show wpAny _ A.in1 (checkCount "sorted" 1 1 _ >>= _) _ _ _
  apply wpAny_bind
  apply wpAny_pure
  apply wpAny_bind
  apply gathers
  intro its h' tk got
  obtain ⟨few, sorts⟩ := rest its h' tk got
  apply wpAny_bind
  apply wpAny_newList _ few
  apply wpAny_bind
  apply wpAny_holding
  refine wpAny_mono sorts (fun _ s' fine => ?_) fun _ _ bad => bad
  exact wpAny_pure ⟨_, rfl, fine⟩
/-- the keys of a dict, each at its address, with what it stands for -/
def keyZ (xs : List (List Key × Addr × Value)) (kvs : List (List Int × D)) : List (V × D) := (xs.map fun x => V.ref x.2.1).zip (kvs.map fun kv => D.tup (kv.1.map .int))
theorem vals_refs' : ∀ xs : List (List Key × Addr × Value), Vals (xs.map fun x => V.ref x.2.1) (xs.map fun x => Value.ref x.2.1)
  | [] => .nil
  | _ :: xs => .cons rfl (vals_refs' xs)
theorem unz : ∀ zs : List (V × D), (zs.map (·.1)).zip (zs.map (·.2)) = zs
  | [] => rfl
  | z :: zs => congrArg (z :: ·) (unz zs)
theorem keyZ_reps {c : Ct} {H : Hp} {S : Hp} : ∀ {es : List (List Key × V)} {xs : List (List Key × Addr × Value)} {kvs : List (List Int × D)}, KT H es xs → KVs c S eT es kvs → Reps c H ((keyZ xs kvs).map (·.1)) ((keyZ xs kvs).map (·.2)) ∧ (keyZ xs kvs).map (·.1) = xs.map (fun x => V.ref x.2.1) ∧ (keyZ xs kvs).map (·.2) = keyTups kvs
  | _, _, _, .nil, .nil => ⟨.nil, rfl, rfl⟩
  | (_, _) :: _, _, _, .cons (a := _) (b := q) h r, kv => by
    cases kv with
    | @cons k _ _ _ _ _ t =>
    obtain ⟨i1, i2, i3⟩ := keyZ_reps r t
    refine ⟨.cons (.tup (xs := (eT k).map kV) h.2.1 ?_) i1, congrArg (V.ref _ :: ·) i2, congrArg (D.tup (k.map .int) :: ·) i3⟩
    have e : (eT k).map kV = k.map V.int := by
      unfold eT
      rw [List.map_map]
      rfl
    rw [e]
    exact Reps.of_ints k
def rSortKT (c : Ct) : List V → Hp → VK → Prop := fun vs H Q => ∃ (a : Addr) (es : List (List Key × V)) (kvs : List (List Int × D)) (S : Hp), vs = [.ref a] ∧ H a = some (.dT es) ∧ KVs c S eT es kvs ∧ okSort (keyTups kvs) = true ∧
  ∀ p us, H p = none → Reps c H us (sortD (keyTups kvs)) → Q (.ref p) (upd H p (.lst us))
theorem cr_sortKT {X : Cx} {ca : Cl → Addr} {k : Nat} (hr : Room k X.A) (hc : X.calm = true) : CallR X (.builtin "sorted") (rSortKT ⟨X.K, ca⟩) := by
  intro pins st slots H vs us Q inv rel want
  obtain ⟨a, es, kvs, S, rfl, atA, kv, ok, go⟩ := want
  rw [Vals.ref1 rel]
  obtain ⟨h1, h2, h3, h4, h5⟩ := okSort_inv ok
  obtain ⟨len, noMods, xs, pairs, o, ents, ep, held, exact_, data_, each, _⟩ := dt_of inv.hok atA
  obtain ⟨z1, z2, z3⟩ := keyZ_reps (c := ⟨X.K, ca⟩) pairs kv
  have sizes : ents.size = xs.length := size_of_entries each
  have lenX : xs.length ≤ sizeLine := by rw [← Paired.length pairs]; exact len
  have lenZ : (keyZ xs kvs).length = xs.length := by
    have := congrArg List.length z2
    rwa [List.length_map, List.length_map] at this
  refine sorted_of_collect (P := fun its h' tk => (∀ b ob, st.heap.get? b = some ob → h'.get? b = some ob) ∧ its = xs.map fun x => Value.ref x.2.1) (fun R ready => ?_) ?_
  · refine PySem.W.kdu_collect (kdl_raw noMods exact_ data_) (inv.ok.hd hc) held (by omega) fun h' tk acc old got => ready _ _ _ ⟨old, ?_⟩
    apply List.ext_getElem?
    intro j
    rw [List.getElem?_map]
    cases hj : acc.toList[j]? with
    | none =>
      have l1 := List.getElem?_eq_none_iff.mp hj
      have l2 := got.1
      rw [Array.length_toList] at l1
      rw [List.getElem?_eq_none (by omega)]
      rfl
    | some v =>
      obtain ⟨en, at_, rfl⟩ := got.2 j v (by rw [← Array.getElem?_toList]; exact hj)
      rw [entry_at each j] at at_
      cases hx : xs[j]? with
      | none => rw [hx] at at_; cases at_
      | some y => rw [hx] at at_; cases at_; rfl
  · rintro its h' tk ⟨old, rfl⟩
    refine ⟨by rw [List.length_map]; exact lenX, ?_⟩
    have inv2 : Inv X pins slots H { st with heap := h', toks := tk } := inv.kept (t' := tk) old
    have there : ∀ b ob, h'.get? b = some ob → (h'.push { cls := .type "list", data := .seq (xs.map fun x => Value.ref x.2.1).toArray }).get? b = some ob := fun b ob e => Heap.get?_push_of_some _ e
    have each1 : PySem.W.EachIs (fun (v : Value) (z : V × D) => RelV z.1 v) (xs.map fun x => Value.ref x.2.1) (keyZ xs kvs) ∧ PySem.W.EachIs (fun (v : Value) (z : V × D) => ∃ as, Reads h' v (toP z.2) as) (xs.map fun x => Value.ref x.2.1) (keyZ xs kvs) := by
      refine each_of_vals ?_ fun z hz u ru => ?_
      · rw [z2]
        exact vals_refs' xs
      · obtain ⟨i, hi, e⟩ := List.mem_iff_getElem.mp hz
        obtain ⟨d, e1, e2⟩ := z1.get (i := i) (v := z.1) (by rw [List.getElem?_map, List.getElem?_eq_getElem hi, e]; rfl)
        rw [List.getElem?_map, List.getElem?_eq_getElem hi, e] at e1
        cases e1
        exact e2.reads inv2 rfl (h4 _ (by rw [← z3]; exact List.mem_map.mpr ⟨z, hz, rfl⟩)) ru
    -- a tuple of ints is read off no list
    have each2 : PySem.W.EachIs (fun (v : Value) (z : V × D) => ∃ as, Reads (h'.push { cls := .type "list", data := .seq (xs.map fun x => Value.ref x.2.1).toArray }) v (toP z.2) as ∧ h'.objs.size ∉ as) (xs.map fun x => Value.ref x.2.1) (keyZ xs kvs) := by
      refine PySem.W.EachIs.mono (fun v z ⟨⟨as, rd⟩, hz⟩ => ?_) (PySem.W.each_mem each1.2)
      refine ⟨as, PyProof.Rows.Reads.keeps there rd, ?_⟩
      have hz2 : z.2 ∈ keyTups kvs := by rw [← z3]; exact List.mem_map.mpr ⟨z, hz, rfl⟩
      obtain ⟨kk, _, ek⟩ := List.mem_map.mp hz2
      rw [← ek, toP, toPs_map, List.map_map] at rd
      cases rd with
      | tuple _ _ _ all =>
        have none_ : ∀ {ns : List Int} {vs : List Value} {as : List Addr}, ReadsAll h' vs (ns.map (toP ∘ D.int)) as → as = [] := by
          intro ns
          induction ns with
          | nil => intro vs as r; cases r; rfl
          | cons n ns ih =>
            intro vs as r
            cases r with
            | cons h t =>
              have h' : Reads _ _ (toP (D.int n)) _ := h
              rw [toP] at h'
              cases h'
              rw [ih t]
              rfl
        rw [none_ all]
        exact List.not_mem_nil
    have em : (keyZ xs kvs).map (fun z => toP z.2) = (keyTups kvs).map toP := by rw [← z3, List.map_map]; rfl
    refine PySem.W.list_sort_data (bs := keyZ xs kvs) (enc := fun z => toP z.2) (n := 0) (Heap.get?_push_size _ rfl) each1.1 each2 (by rw [em]; exact h1) (by rw [em]; exact h2) (by rw [lenZ]; exact lenX) (fun z hz => ?_) fun out lo eo => ?_
    · have := h3 z.2 (by rw [← z3]; exact List.mem_map.mpr ⟨z, hz, rfl⟩)
      have := hr.units
      show X.A.units + 1 + 1 + _ < cLine
      omega
    · obtain ⟨c, new⟩ := sortedHeap_at (h := h'.push { cls := .type "list", data := .seq (xs.map fun x => Value.ref x.2.1).toArray }) (a := h'.objs.size) (n := 0) (out := out.toArray) (vs := xs.map fun x => Value.ref x.2.1) (Heap.get?_push_size _ rfl)
      have us := vals_of_each eo
      have fresh : H h'.objs.size = none := inv2.hok.fresh (Nat.le_refl _)
      refine ⟨.ref h'.objs.size, upd H h'.objs.size (.lst (((keyZ xs kvs).mergeSort fun a b => leD a.2 b.2).map (·.1))), inv2.laid (t' := tk) (fun b ob e => ?_) (Nat.le_refl _) ⟨?_, out, c, us, new⟩, rfl, go _ _ fresh ?_⟩
      · have lt : b < h'.objs.size := Heap.lt_size e
        rw [sortedHeap_old (Nat.ne_of_lt lt) (Heap.lt_size (there b ob e))]
        exact there b ob e
      · rw [List.length_map, List.length_mergeSort, lenZ]
        exact lenX
      · have r := reps_sort (c := ⟨X.K, ca⟩) z1
        rw [unz, z3] at r
        exact r
section
variable {X : Cx} {ca : Cl → Addr} {Γ : List Md} {a : Expr} {fa : DFn} {ma : Vm} {pos p : Pos}
theorem flats_keyTups : ∀ kvs : List (List Int × D), flats (keyTups kvs) = true := flats_keys
theorem flats_mem : ∀ {ds : List D}, (∀ d ∈ ds, flat d = true) → flats ds = true
  | [], _ => by rw [flats]
  | d :: ds, h => by
    rw [flats, h d (.head _), flats_mem fun e he => h e (.tail _ he)]
    rfl
theorem mem_flats {ds : List D} (h : flats ds = true) {d : D} (hd : d ∈ ds) : flat d = true := by
  obtain ⟨i, hi, e⟩ := List.mem_iff_getElem.mp hd
  exact flats_get h (by rw [List.getElem?_eq_getElem hi, e])
/-- sorted(d) -/
theorem pd_sortKT {k : Nat} (hr : Room k X.A) (ha : PDE X ca Γ a ma fa) (h1 : X.mg "sorted" = none) (hg : Gl X "sorted" := by rfl) (hc : X.calm = true := by rfl)
    (hs : starEach [a] X.env = (false, eval a X.env) :: starEach [] X.env := by rfl) (hpl : (backTo pos (starEach [] X.env)).any (·.1) = false := by rfl) :
    PDN X ca Γ (.Call (.Name "sorted" p) [a] [] pos) (d1 gSortKeysT fa) := by
  obtain ⟨t, pa, qa⟩ := ha
  refine ⟨_, pe_callB (cr_sortKT (ca := ca) hr hc) hg h1 (by decide +kernel) (pa_cons pa pa_nil hs) (by decide) (by decide) hs hpl, fun B S0 M L σ H ρ E d hd Q want => ?_⟩
  obtain ⟨x, e1, hd⟩ := bind_some hd
  cases x with
  | dT kvs =>
    obtain ⟨ok, hd⟩ := ite_some' (show (if okSort (keyTups kvs) = true then some (D.lst (sortD (keyTups kvs))) else none) = some d from hd)
    cases hd
    refine qa B S0 M L σ H ρ E _ e1 _ fun v H1 x1 r1 => ?_
    have E1 := E.ext x1
    have r1' : Rep ⟨X.K, ca⟩ H1 v (.dT kvs) := r1.rep E1.eb
    obtain ⟨b, es, rfl, at_, kv⟩ := r1'.dT_inv
    refine ⟨b, es, kvs, H1, rfl, at_, kv, ok, fun pp us fresh rs => want pp _ (x1.trans (Ex.new fresh)) (x1.free fresh) (.lst upd_same (Owns.sh (reps_updN fresh (Reps.flat E1 rs ?_))))⟩
    exact flats_mem fun d hd => mem_flats (flats_keyTups kvs) ((List.mergeSort_perm _ _).mem_iff.mp hd)
  | _ => cases hd
end
end DL

/-! DL: defs that hand back what is all their caller's own. -/
namespace DL
open PySem PySem.Spec PyProof.Rows L2
def SpR (c : Ct) (Γ0 : List Md) (h : Sh) (F : List D → Rs) : Sp := fun vs H Q E =>
  ∃ (B S0 : Hp) (M : Mz) (L : List (List Addr)) (ds : List D), EnvR c B S0 M Γ0 L (vs.map some) H ds ∧
    match F ds with
    | .ok d => ∀ v H', Ex B H' → ResH c B M h H' v d → Q v H'
    | .exc e d => ∀ dx v H', Ex B H' → H' dx = some (.xd [("at", v)]) → B dx = none → Rep c (hide M H') v d → E (.ref (c.ca e)) (some dx) H'
    | .bad => False
def outR : Out → Rs
  | .rett d => .ok d
  | .exc e d _ => .exc e d
  | _ => .bad
def runR (n : Nat) (F : SFn) : List D → Rs := fun ds => outR (F (ds ++ List.replicate n .non))
section
variable {P : Program} {w : World} {K : PySem.W.Frag} {mg : Str → Option Value} {base : Heap} {x qual : Str} {params : Arguments} {body : List Stmt} {scope : Scope} {dvs : List V} {kws : List (Str × V)} {f : Addr} {fd : FuncData}
theorem fn_R {ca : Cl → Addr} {N ps : List Str} {k n : Nat} {h : Sh} {Γ0 Γ' : List Md} {Fb : SFn} (F : FunD K x qual params body scope dvs kws f fd) (S : FnScope N ps scope) (hl : Γ0.length = ps.length) (hn : N.length = Γ0.length + n)
    (hb : ∀ (cdv : Value) (A : Around) (outer : List Env) (s : Shared) (H : Hp) (E : XK), Room k (A.deeper (envOfC qual scope s.heap.objs.size f cdv)) →
      PDSs (cxOf (L2N.CX P w) P w K mg base N qual scope f cdv A outer s H E) ca (fun cls d _ H => E cls d H) ⟨false, [], [], none, none, some h⟩ (Γ0 ++ List.replicate n .n) body Γ' Fb) :
    FnOk P w K mg base (L2N.CX P w) (k + 1) f fd ps (SpR ⟨K, ca⟩ Γ0 h (runR n Fb)) := by
  refine F.ok S (fun vs H Q E want => ?_) (fun cdv A outer s H vs Q E hr want => ?_)
  · obtain ⟨B, S0, M, L, ds, E0, _⟩ := want
    have e := E0.sl.len.2.1
    rw [List.length_map] at e
    rw [e, hl]
  · obtain ⟨B, S0, M, L, ds, E0, post⟩ := want
    obtain ⟨t, p, q⟩ := hb cdv A outer s H E hr
    refine ⟨t, p, ?_⟩
    have e0 := E0.sl.len.2.1
    rw [List.length_map] at e0
    have es : L2.start N vs = vs.map some ++ List.replicate n none := by
      unfold L2.start
      rw [hn, e0, Nat.add_sub_cancel_left]
    rw [es]
    refine q B S0 M _ _ H _ _ (E0.more n) ?_
    unfold runR at post
    cases ho : Fb (ds ++ List.replicate n .non) with
    | rett d => rw [ho] at post; exact post
    | exc e d ρ' =>
      rw [ho] at post
      exact fun dx v L' σ' H' h1 h2 h3 h4 _ => post dx v H' h1 h2 h3 (res_s (B := B) h4)
    | nx ρ' => rw [ho] at post; exact post.elim
    | ret d => rw [ho] at post; exact post.elim
    | reto d ρ' => rw [ho] at post; exact post.elim
    | brk ρ' => rw [ho] at post; exact post.elim
    | cont ρ' => rw [ho] at post; exact post.elim
    | bad => rw [ho] at post; exact post.elim
end
section
variable {X : Cx} {ca : Cl → Addr} {W : WX} {J : Jd} {Γ Γ0 : List Md} {k : Nat} {f : Addr} {fd : FuncData} {ps : List Str} {G : List D → Rs} {dvs : List V} {ds : List Value} {dfl : List D} {x : Str} {p pos : Pos} {e : Expr} {es : List Expr} {ms : List Vm} {fs : List D → Option (List D)} {h : Sh} {ff : DFn}
/-- f(e, ..), the answer all one's own -/
theorem pd_callR (F : FnOk X.prog X.w X.K X.mg X.base (L2N.CX X.prog X.w) k f fd ps (SpR ⟨X.K, ca⟩ Γ0 h G)) (hr : Room k X.A) (hm : X.mg x = some (.ref f)) (hk : PySem.W.keepIn X.K (.ref f) = true) (hb : Binds X.K fd ps ds) (hd : Vals dvs ds) (hi : Ims dvs dfl)
    (ha : PDA X ca Γ (e :: es) ms fs) (hc : cmps (ms ++ List.replicate dfl.length .s) Γ0 = true := by decide) (hg : Gl X x := by rfl) (hdb : (x == ("__debug__" : Str)) = false := by decide) (he : starEach (e :: es) X.env = (false, eval e X.env) :: starEach es X.env := by rfl) (hpl : (backTo pos (starEach es X.env)).any (·.1) = false := by rfl) :
    PNW X ca Γ (.Call (.Name x p) (e :: es) [] pos) h (dFunN G fs dfl) := by
  obtain ⟨t, pa, q⟩ := ha
  refine ⟨_, pe_call F hr hg hm hk hb hd passLN pa hdb he hpl, fun B S0 M L σ H ρ E d hd Q want => ?_⟩
  obtain ⟨as, e1, hd⟩ := bind_some hd
  obtain ⟨hd1, hd2⟩ := okRN_ok hd
  refine q B S0 M L σ H ρ E as e1 _ fun vs H1 x1 r => ?_
  refine ⟨H1, _, ⟨Msk M L, M.z⟩, _, _, VRs.env (E.ext x1) hc (r.app hi.vrs), ?_⟩
  cases hG : G (as ++ dfl) with
  | ok d' =>
    rw [hG] at hd1
    cases hd1
    rintro v H' x2 (⟨_, e⟩ | ⟨l, nd, hn, ho⟩)
    · rw [e] at hd2
      cases hd2
    · exact want v l H' (x1.trans x2) nd (fun a ha => x1.free (hn a ha).1) ho
  | exc e d' => rw [hG] at hd1; cases hd1
  | bad => rw [hG] at hd1; cases hd1
/-- what is new, let go as shared -/
theorem pd_nws (he : PNW X ca Γ e h ff) : PDE X ca Γ e .s ff := by
  obtain ⟨t, p, q⟩ := he
  refine ⟨t, p, fun B S0 M L σ H ρ E d hd Q want => ?_⟩
  refine q B S0 M L σ H ρ E d hd Q fun v l H' x1 nd fresh ho => want v H' x1 ?_
  refine ho.rep (hide_le fun a o z q => ⟨fun y => z (.inl y), q⟩) fun a ha o q => hide_in (fun y => ?_) q
  rcases y with y | y
  · exact E.noM (fresh a ha) y
  · exact E.noL (fresh a ha) y
/-- a place's part in a tuple -/
def plTK (j : Nat) : Option (D × (D → Option (List D))) → Option (D × (D → Option (List D)))
  | some (.tup ds, s) => (ds[j]?).map fun d => (d, fun d2 => s (.tup (ds.set j d2)))
  | _ => none
def plT (j : Nat) (g : Lens) : Lens := fun ρ => plTK j (g ρ)
theorem pl_tix {g : Lens} {hs h' : Sh} {j : Nat} {jj} {p2 : Pos} (he : PPl X ca Γ e (.tup hs) g) (hj : shN hs j = some h' := by rfl) : PPl X ca Γ (.Subscript e (.Constant (.int j) jj p2) pos) h' (plT j g) := by
  obtain ⟨t, p, q⟩ := he
  refine ⟨_, pe_ix ix_seq p pe_int (fun _ _ => rfl), fun B S0 M L σ H ρ E d s hg => ?_⟩
  unfold plT at hg
  cases hgr : g ρ with
  | none => rw [hgr] at hg; cases hg
  | some pr =>
    obtain ⟨dd, ss⟩ := pr
    rw [hgr] at hg
    cases dd with
    | tup dss =>
      obtain ⟨d', e2, e3⟩ := Option.map_eq_some_iff.mp (show (dss[j]?).map (fun d => (d, fun d2 => ss (.tup (dss.set j d2)))) = some (d, s) from hg)
      cases e3
      obtain ⟨v, F, go⟩ := q B S0 M L σ H ρ E _ ss hgr
      obtain ⟨a, vs, v', ev, hH, hv, hl, F'⟩ := F.tup hj e2
      subst ev
      refine ⟨v', F', fun H1 x1 Q want => go H1 x1 _ fun H2 x2 => ?_⟩
      refine .inr (.inl ⟨a, vs, (j : Int), v', rfl, rfl, SqT.of (x2 _ _ (x1 _ _ hH)), ?_, want H2 x2⟩)
      have lt : j < vs.length := (List.getElem?_eq_some_iff.mp hv).1
      unfold atI ixN
      rw [if_pos (Int.natCast_nonneg j), if_pos (by omega)]
      exact hv
    | _ => cases hg
end
end DL

/-! DL: comprehensions over enumerate. -/
namespace DL
open PySem PySem.Spec PyProof.Rows L2
section
variable {c : Ct} {Γ Γ1 : List Md} {is vs : List Nat} {u : D → List D → Option (List D)} {t : List D → Option Bool} {f : DFn} {fi : List D → Option (List D)}
theorem DN.lcN {wi : TI} (hw : okW Γ vs = true) (his : ∀ i ∈ is, i ∈ vs)
    (q1 : ∀ (B S0 : Hp) (M : Mz) (L : List (List Addr)) (σ : L2.St) (H : Hp) (ρ : List D), EnvR c B S0 M Γ L σ H ρ → ∀ ds, fi ρ = some ds → ∀ R : It → Hp → Prop, (∀ J H', Ex H H' → WalksN c B (hide (Msk M L) H') J ds → R J H') → wi σ H R) :
    DN c Γ (tLc wi (rdG c true (wipeM Γ vs) Γ1 is u) (rdT c Γ1 t) (rdE c Γ1 .s f) vs) (dLc fi u t f) := by
  intro B S0 M L σ H ρ E d hd Q kk
  obtain ⟨ds, e1, hd⟩ := bind_some hd
  obtain ⟨hl, hd⟩ := ite_some hd
  obtain ⟨ys, e2, hd⟩ := Option.map_eq_some_iff.mp hd
  subst hd
  refine q1 B S0 M L σ H ρ E ds e1 _ fun J H1 x1 ⟨n, G, Y, hn, wk, hG, hY⟩ p hp => ?_
  have E1 := E.ext x1
  have hB1 : B p = none := E1.eb.free hp
  refine lc_it (Qd := fun H' => Q (.ref p) H') wk (fun i H' => ∃ acc zs rest, H' p = some (.lst acc) ∧ Reps c (hide (Msk ⟨fun a => M a ∨ a = p, M.z⟩ L) H') acc zs ∧ zs.length ≤ i ∧ lcD u t f ρ (ds.drop i) = some rest ∧ zs ++ rest = ys ∧
      Ex H1 H' ∧ EnvR c B (hide (Msk M L) H1) ⟨fun a => M a ∨ a = p, M.z⟩ Γ L σ H' ρ) ⟨[], [], ys, upd_same, .nil, Nat.zero_le _, e2, rfl, Ex.new hp, E1.now.guard hp (Ex.new hp) (by rw [upd_same]; exact True.intro)⟩ (fun i H' _ ⟨_, _, _, _, _, _, _, _, x, E'⟩ => hG H' E'.eb (E'.es.trans hide_ex)) ?_ ?_
  · rintro i v H' H'' hi ⟨acc, zs, rest, h1, h2, h3, h4, h5, x, E'⟩ y
    obtain ⟨x2, d, g1, g2⟩ := hY i H' v H'' hi E'.eb (E'.es.trans hide_ex) y
    have hdr : ds.drop i = d :: ds.drop (i + 1) := by
      obtain ⟨hlt, e⟩ := List.getElem?_eq_some_iff.mp g1
      rw [List.drop_eq_getElem_cons hlt, e]
    rw [hdr, lcD] at h4
    obtain ⟨ρ1, u1, h4⟩ := bind_some h4
    obtain ⟨b, u2, h4⟩ := bind_some h4
    have g3 := g2 (Msk ⟨fun a => M a ∨ a = p, M.z⟩ L) (fun a z => by
      rcases z with z | z
      · exact (E'.hm a z).1
      · exact (E'.hl a z).1) E'.es
    have Ew := (E'.ext x2).wipe hw
    refine ⟨B, _, _, L, ρ, d, ρ1, Ew, g3, u1, fun σ' on E2 => ⟨on.wipe his, B, _, _, L, ρ1, b, E2, u2, fun H3 x3 => ?_⟩⟩
    have x23 := x2.trans x3
    have h13 : H3 p = some (.lst acc) := x23 _ _ h1
    cases b with
    | false =>
      refine iteF ?_
      exact ⟨acc, zs, rest, h13, h2.mono (hide_mono x23), Nat.le_succ_of_le h3, h4, h5, x.trans x23, E'.ext x23⟩
    | true =>
      refine iteT ?_
      obtain ⟨y, u3, h4⟩ := bind_some h4
      obtain ⟨rest', u4, h4⟩ := Option.map_eq_some_iff.mp h4
      refine ⟨B, _, _, L, ρ1, y, E2.ext x3, u3, fun w H4 x4 rw' => ⟨acc, x4 _ _ h13, ?_, ?_⟩⟩
      · rw [h2.length]
        exact Nat.lt_of_le_of_lt (Nat.le_trans h3 (Nat.le_of_lt hi)) (by rw [hn]; exact Nat.lt_of_le_of_lt hl (by decide))
      · have rw2 : Rep c (hide (Msk ⟨fun a => M a ∨ a = p, M.z⟩ L) H4) w y := rw'
        refine ⟨acc ++ [w], zs ++ [y], rest', upd_same, ?_, ?_, u4, ?_, ?_, ?_⟩
        · exact ((h2.mono (hide_mono (x23.trans x4))).snoc rw2).mono (hide_le fun a o h q => ⟨h, by rw [upd_ne (fun z => h (.inl (.inr z)))]; exact q⟩)
        · rw [List.length_append]
          exact Nat.succ_le_succ h3
        · rw [← h5, ← h4, List.append_assoc]
          rfl
        · exact fun a o q => by
            rw [upd_ne (ne_of_none q hp)]
            exact x4 _ _ (x23 _ _ (x _ _ q))
        · exact ((E'.ext x23).ext x4).shift hB1 True.intro
  · rintro H' ⟨acc, zs, rest, h1, h2, _, h4, h5, x, E'⟩
    rw [hn, List.drop_length, lcD] at h4
    cases h4
    rw [List.append_nil] at h5
    subst h5
    exact kk p H' (x1.trans x) (x1.free hp) (.lst h1 (Owns.sh (h2.mono (hide_le fun a o h q => ⟨fun z => (by
      rcases z with (z | z) | z
      · exact h (.inl (.inl z))
      · exact h (.inr z)
      · exact h (.inl (.inr z))), q⟩))))
end
section
variable {X : Cx} {ca : Cl → Addr} {Γ Γ1 : List Md} {f : DFn} {pos : Pos} {is : List Nat} {elt tg iter : Expr} {ifs : List Expr} {scope : Scope} {fi : List D → Option (List D)} {u : D → List D → Option (List D)} {t : List D → Option Bool}
/-- [elt for i, x in enumerate(..) if ..] -/
theorem pd_lcN (own : List (Str × Nat)) (hi : PDIN X ca Γ tg iter fi) (hN : X.N.Nodup) (ok : BlkOk X.N X.env.scope scope own)
    (hg : ∀ (s : Shared) (H : Hp) (C : Addr) (cl : List (Str × Addr)) (fp : List Addr), PDG (X.blk s H scope (compEnvC scope cl C X.env) fp) ca true (wipeM Γ (own.map (·.2))) tg Γ1 is u)
    (ht : ∀ (s : Shared) (H : Hp) (C : Addr) (cl : List (Str × Addr)) (fp : List Addr), PDTs (X.blk s H scope (compEnvC scope cl C X.env) fp) ca Γ1 ifs t)
    (he : ∀ (s : Shared) (H : Hp) (C : Addr) (cl : List (Str × Addr)) (fp : List Addr), PDE (X.blk s H scope (compEnvC scope cl C X.env) fp) ca Γ1 elt .s f)
    (hc : X.calm = true := by rfl) (hw : okW Γ (own.map (·.2)) = true := by decide) (his : ∀ i ∈ is, i ∈ own.map (·.2) := by decide) (hs : ∀ x, foldedSetIterable iter X.env x = pure x := by intro _; rfl) :
    PDN X ca Γ (.ListComp elt [⟨tg, iter, ifs, 0⟩] scope pos) (dLc fi u t f) := by
  obtain ⟨wi, p1, q1⟩ := hi
  exact ⟨_, pe_lc (tt := rdT ⟨X.K, ca⟩ Γ1 t) hc hN p1 ok (fun s H C cl fp => (hg s H C cl fp).rd) (fun s H C cl fp => ht s H C cl fp) (fun s H C cl fp => (he s H C cl fp).rd) hs, DN.lcN (c := ⟨X.K, ca⟩) hw his q1⟩
end
end DL

/-! DL: how many tuples of ints a list holds, each counted once. -/
namespace DL
open PySem PySem.Spec PyProof.Rows L2
/-- every item a tuple of ints -/
def asTl : List D → Option (List (List Int))
  | [] => some []
  | d :: ds => (asT d).bind fun k => (asTl ds).map (k :: ·)
theorem asTl_rep {c : Ct} {S : Hp} : ∀ {ds : List D} {vs : List V} {ks : List (List Int)}, Reps c S vs ds → asTl ds = some ks → ∃ zs : List (Addr × List Int), vs = zs.map (fun p => V.ref p.1) ∧ zs.map (·.2) = ks ∧ ∀ p ∈ zs, S p.1 = some (.tup (p.2.map V.int))
  | [], _, _, .nil, e => by
    cases e
    exact ⟨[], rfl, rfl, fun p h => by cases h⟩
  | d :: ds, _, _, .cons r rs, e => by
    obtain ⟨k, e1, e⟩ := bind_some e
    obtain ⟨ks, e2, e⟩ := Option.map_eq_some_iff.mp e
    subst e
    obtain ⟨zs, z1, z2, z3⟩ := asTl_rep rs e2
    obtain ⟨b, rfl, hb⟩ := r.key e1
    refine ⟨(b, k) :: zs, by rw [z1]; rfl, by rw [List.map_cons, z2], fun p hp => ?_⟩
    rcases List.mem_cons.mp hp with rfl | hp
    · show S b = _
      rw [hb]
      unfold eT
      rw [List.map_map]
      rfl
    · exact z3 p hp
/-- the tuples of a list, few -/
def tupsOf : D → Option (List (List Int))
  | .lst ds => (asTl ds).bind fun ks => if ks.length < 64 then some ks else none
  | _ => none
def gLenSetT (d : D) : Option D := (tupsOf d).map fun ks => .int (ded ks).length
theorem ded_count {ks ls : List (List Int)} (h1 : ls.Nodup) (h2 : ∀ k, k ∈ ls ↔ k ∈ ks) : ls.length = (ded ks).length :=
  ((List.perm_ext_iff_of_nodup h1 (nodup_ded ks)).mpr fun k => by rw [h2, mem_ded]).length_eq
/-- len(s) of a set of tuples -/
def rLenTS (K : PySem.W.Frag) (P : Program) (w : World) : List V → Hp → VK → Prop := fun xs H Q => ∃ (a : Addr) (L : List (Addr × List Int)), xs = [.ref a] ∧ H a = some (SetTO P w a L) ∧ (∀ p ∈ L, SqT K H p.1 (p.2.map V.int)) ∧ ((L.map (·.2)).Nodup → Q (.int L.length) H)
theorem cr_lenTS {X : Cx} : CallR X (.builtin "len") (rLenTS X.K X.prog X.w) := by
  intro pins s σ H xs us Q inv rel want
  obtain ⟨a, L, rfl, at_, each, q⟩ := want
  rw [Vals.ref1 rel]
  have R0 : SetT0 X.prog X.w s.heap a L := (inv.hok _ _ at_).1
  obtain ⟨es, ep, t, R⟩ := R0.full fun p hp => inv.isT (each p hp)
  obtain ⟨o, ho, hex, hd⟩ := R.ob
  have sz := R.size
  have few := R.few
  refine call_len_set ho hex hd R.fits (by omega) ⟨.int L.length, H, inv.tok _, ⟨_, by rw [sz]⟩, q R.nd⟩
section
variable {X : Cx} {ca : Cl → Addr} {Γ : List Md} {pos p p2 q : Pos} {a : Expr} {ma : Vm} {fa : DFn}
/-- len(set(xs)), xs a list of tuples of ints -/
theorem pd_lenSetT {k : Nat} (hr : Room k X.A) (ha : PDE X ca Γ a ma fa) (h1 : X.mg "len" = none) (h2 : X.mg "set" = none) (hg : Gl X "len" := by rfl) (hg2 : Gl X "set" := by rfl) (hc : X.calm = true := by rfl)
    (hs : starEach [a] X.env = (false, eval a X.env) :: starEach [] X.env := by rfl) (hs2 : starEach [.Call (.Name "set" p2) [a] [] q] X.env = (false, eval (.Call (.Name "set" p2) [a] [] q) X.env) :: starEach [] X.env := by rfl) (hpl : (backTo q (starEach [] X.env)).any (·.1) = false := by rfl) (hpl2 : (backTo pos (starEach [] X.env)).any (·.1) = false := by rfl) :
    PDE X ca Γ (.Call (.Name "len" p) [.Call (.Name "set" p2) [a] [] q] [] pos) .s (d1 gLenSetT fa) := by
  obtain ⟨t, runs, says⟩ := ha
  have units := hr.units
  refine ⟨_, pe_callB cr_lenTS hg h1 (by decide +kernel) (pa_cons (pe_callTy (cr_setOfT hc (by omega)) hg2 h2 (by decide +kernel) (pa_cons runs pa_nil hs) (by decide) (by decide) hs hpl) pa_nil hs2) (by decide) (by decide) hs2 hpl2, fun B S0 M L σ H ρ E d hd Q kk => ?_⟩
  obtain ⟨x, e1, hd⟩ := bind_some hd
  obtain ⟨ks, e2, hd⟩ := Option.map_eq_some_iff.mp hd
  subst hd
  refine says B S0 M L σ H ρ E x e1 _ fun v H1 x1 r1 => ?_
  have rep := r1.rep (E.eb.trans x1)
  cases x with
  | lst ds =>
    obtain ⟨ks', e3, e2⟩ := bind_some e2
    obtain ⟨h64, e2⟩ := ite_some' e2
    cases e2
    generalize qq : D.lst ds = d at rep
    cases rep with
    | lst h r =>
      cases qq
      obtain ⟨zs, rfl, z2, z3⟩ := asTl_rep r e3
      subst z2
      rw [List.length_map] at h64
      refine ⟨_, zs, rfl, SqL.of h, fun p hp => SqT.of (z3 p hp), h64, fun a L' ha h5 h6 => ?_⟩
      have new := Ex.new (o := SetTO X.prog X.w a L') ha
      refine ⟨a, L', rfl, upd_same, fun p hp => SqT.of (new _ _ (z3 p (h5 p hp))), fun nd => ?_⟩
      have cnt : (L'.map (·.2)).length = (ded (zs.map (·.2))).length := ded_count nd fun k => ⟨fun m => by
        obtain ⟨p, hp, rfl⟩ := List.mem_map.mp m
        exact List.mem_map.mpr ⟨p, h5 p hp, rfl⟩, fun m => by
        obtain ⟨p, hp, rfl⟩ := List.mem_map.mp m
        exact h6 p hp⟩
      rw [List.length_map] at cnt
      rw [cnt]
      exact kk _ _ (x1.trans new) (.int _)
    | _ => cases qq
  | _ => cases e2
end
end DL

/-! DL: several clauses 'except C as e'. -/
namespace DL
open PySem PySem.Spec PyProof.Rows L2
/-! ### an error that has come down to its frame -/
structure Down (X : Cx) (pins : List (Addr × Obj)) (σ : L2.St) (H : Hp) (cls : Value) (d : Option Addr) (a : Addr) (B : Heap) (sI s : Shared) : Prop where
  inv : Inv X pins σ H sI
  nb : ∀ b o, sI.heap.get? b = some o → b ∉ frs X.stack → B.get? b = some o
  up : sI.heap.UpToSlots s.heap
  fly : HandSPX.FlyingZ B X.stack a (L2N.Zn cls d) s.heap
  na : H a = none
  os : s.os = sI.os
  bare : AllBare s.gens
section
variable {X : Cx} {pins : List (Addr × Obj)} {σ : L2.St} {H : Hp} {cls : Value} {d : Option Addr} {a : Addr} {B : Heap} {sI s : Shared}
theorem Down.now (z : Down X pins σ H cls d a B sI s) : Inv X pins σ H s := z.inv.landed z.nb z.fly.1 z.up z.os z.bare
theorem Down.there (z : Down X pins σ H cls d a B sI s) : ∃ oe vs, s.heap.get? a = some oe ∧ L2N.Zn cls d oe ∧ oe.data = .fields vs := by
  obtain ⟨_, _, _, oe, vs, _, _, _, at_, zc, data_, _⟩ := z.fly
  exact ⟨oe, vs, at_, zc, data_⟩
/-- a frame is no error -/
theorem Down.apart (z : Down X pins σ H cls d a B sI s) : a ∉ frs X.stack := fun mem => by
  obtain ⟨oe, vs, at_, _, data_⟩ := z.there
  obtain ⟨_, o, held, no⟩ := z.fly.2.2.1.mem mem
  rw [at_] at held
  cases held
  exact no _ data_
theorem Down.notLoc (z : Down X pins σ H cls d a B sI s) (hs : X.stack = X.env :: X.outer) (hf : X.env.frame = some X.env.locals) : a ≠ X.env.locals := fun e => z.apart (by
  rw [hs]
  exact List.mem_filterMap.mpr ⟨X.env, .head _, by rw [hf, e]⟩)
theorem Down.notFs (z : Down X pins σ H cls d a B sI s) (hs : X.stack = X.env :: X.outer) : a ∉ X.fs := fun mem => z.apart (by
  obtain ⟨env, here, fr⟩ := List.mem_filterMap.mp mem
  rw [hs]
  exact List.mem_filterMap.mpr ⟨env, .tail _ here, fr⟩)
theorem Down.suite (z : Down X pins σ H cls d a B sI s) (hs : X.stack = X.env :: X.outer) (hf : X.env.frame = some X.env.locals) : ∃ oe, L2N.Zn cls d oe ∧ (∃ vs, oe.data = .fields vs) ∧ Inv (X.suite a ((a, oe) :: (X.pn ++ pins))) [] σ H s := by
  obtain ⟨oe, vs, at_, zc, data_⟩ := z.there
  exact ⟨oe, zc, ⟨vs, data_⟩, z.now.suite at_ data_ z.na (z.notLoc hs hf) (z.notFs hs)⟩
/-- on the ground once more -/
theorem Down.again {M : Model} {A : Around} {E : Value → Shared → Prop} {Q : Unit → Shared → Prop} (z : Down X pins σ H cls d a B sI s) (q : ∀ s', Down X pins σ H cls d a B sI s' → Q () s') : wpAny M A (setFlight (.ref a) none) Q E s :=
  HandSPX.lands_againZ z.fly fun _ fly up => q _ ⟨z.inv, z.nb, z.up.trans up, fly, z.na, z.os, z.bare⟩
/-- is it of the class that a clause names? -/
theorem Down.asked {x : Str} {c : Value} {np : Pos} {b : Bool} {Q : Bool → Shared → Prop} {E E' : Value → Shared → Prop} (z : Down X pins σ H cls d a B sI s) (hs : X.stack = X.env :: X.outer) (hf : X.env.frame = some X.env.locals) (nm : Names X x c) (is : PySem.W.exmOne X.K cls c = some b) (q : Q b s) :
    wpAny (model X.prog X.w) (X.A.mark (some (.ref a))) (eval (.Name x np) X.env) (fun v s1 => wpAny (model X.prog X.w) (X.A.mark (some (.ref a))) (excMatches (.ref a) v) Q E s1) E' s := by
  obtain ⟨oe, vs, at_, zc, data_⟩ := z.there
  obtain ⟨oe2, _, _, inside⟩ := z.suite hs hf
  have type_ : PySem.W.Looks (model X.prog X.w) s.heap (typeOf (.ref a)) cls := fun A Q E s1 old want => wpAny_typeOf_ref (old _ _ at_) (by rw [zc.1]; exact want)
  have says : wpAny (model X.prog X.w) (X.A.mark (some (.ref a))) (excMatches (.ref a) c) Q E s := (PySem.W.exm_one (M := model X.prog X.w) z.now.kIn type_ is).here q
  obtain ⟨gl, nd, named | ⟨none_, boot, nn⟩⟩ := nm
  · exact ld_glob (X := X.suite a ((a, oe2) :: (X.pn ++ pins))) inside gl named says nd
  · exact ld_blt (X := X.suite a ((a, oe2) :: (X.pn ++ pins))) inside gl none_ boot says nn nd
/-- nobody takes it: it flies on -/
theorem Down.on {W : WX} {Q : Flow → Shared → Prop} (z : Down X pins σ H cls d a B sI s) (hf : X.env.frame = some X.env.locals) (tk : L2N.Takes X W) (w : W cls d σ H) : wpAny (model X.prog X.w) X.A (handleBy (.ref a) X.env []) Q X.xe s := by
  have away : wpAny (model X.prog X.w) X.A (setFlight (.ref a) X.env.frame) (fun _ s1 => wpAny (model X.prog X.w) X.A (throw (.ref a) : Sem Flow) Q X.xe s1) X.xe s := by
    rw [hf]
    exact HandSPX.setFlight_upZ z.fly fun h1 held up => wpAny_throw (tk _ _ ⟨a, B, sI, pins, σ, H, cls, d, rfl, z.inv, z.nb, z.up.trans up, .inr (.inr held), z.na, z.os, z.bare, w⟩)
  obtain ⟨_, _, _, oe, vs, T, _, _, at_, _, data_, one, _⟩ := z.fly
  apply wpAny_handleBy_nil
  unfold PySem.passOn
  apply wpAny_bind
  apply wpAny_field at_ data_ one
  rw [if_neg (show ¬ ((Value.ref T == Value.none) = true) by simp)]
  first
    | exact wpAny_bind away
    | exact wpAny_bind (wpAny_pure (wpAny_bind away))
end
/-! ### the clauses -/
abbrev Suite := Addr → Value → Option Addr → TS
/-- how a suite with a name ends: the name is gone -/
def goneEnds (i : Nat) (N : Ends) : Ends := { nx := fun σ H => N.nx (σ.set i none) H, rt := N.rt, bk := fun σ H => N.bk (σ.set i none) H, ct := fun σ H => N.ct (σ.set i none) H }
def wArms (K : PySem.W.Frag) (i : Nat) (W : WX) (N : Ends) : List (Value × Suite) → WX
  | [] => W
  | r :: rs => fun cls d σ H => ∃ b, PySem.W.exmOne K cls r.1 = some b ∧ (b = true → ∀ a, H a = none → r.2 a cls d (goneEnds i N) (σ.set i (some (.ref a))) H) ∧ (b = false → wArms K i W N rs cls d σ H)
inductive Arms (X : Cx) (n : Str) : List ExceptHandler → List (Value × Suite) → Prop
  | none : Arms X n [] []
  | more {x : Str} {c : Value} {ts : Suite} {b0 : Stmt} {bs : List Stmt} {np hp : Pos} {hds : List ExceptHandler} {rs : List (Value × Suite)} : Names X x c →
      (∀ (a : Addr) (oe : Obj) (cls : Value) (d : Option Addr) (pn : List (Addr × Obj)), L2N.Zn cls d oe → (∃ vs, oe.data = .fields vs) → PSs (X.suite a ((a, oe) :: pn)) (b0 :: bs) (ts a cls d)) →
      Arms X n hds rs → Arms X n (.ExceptHandler (some (.Name x np)) (some n) (b0 :: bs) hp :: hds) ((c, ts) :: rs)
section
variable {X : Cx} {pins : List (Addr × Obj)} {σ : L2.St} {H : Hp} {cls : Value} {d : Option Addr} {a : Addr} {B : Heap} {sI s : Shared} {n : Str} {i : Nat} {W : WX} {N : Ends}
theorem Down.arms (hs : X.stack = X.env :: X.outer) (hf : X.env.frame = some X.env.locals) (hN : X.N.Nodup) (hi : X.N[i]? = some n) (hl : X.env.kindOf n = some .local) (tk : L2N.Takes X W) {hds : List ExceptHandler} {rs : List (Value × Suite)} (all : Arms X n hds rs)
    (z : Down X pins σ H cls d a B sI s) (w : wArms X.K i W N rs cls d σ H) : wpAny (model X.prog X.w) X.A (handleBy (.ref a) X.env hds) (SP X pins N) X.xe s := by
  induction all with
  | none => exact z.on hf tk w
  | more nm runs _ next =>
    obtain ⟨b, is, yes, no⟩ := w
    apply wpAny_handleBy_cons
    · apply codeAny_handlers_test
      refine z.asked hs hf nm is ?_
      cases b with
      | false => exact next (no rfl)
      | true =>
        apply codeAny_handlers_suite_as
        refine z.again fun s1 z1 => ?_
        obtain ⟨oe, zc, flds, inside⟩ := z1.suite hs hf
        refine store_ok (X := X.suite a ((a, oe) :: (X.pn ++ pins))) (v := .ref a) inside hN hi (.inl hl) rfl (fun s2 in2 => ?_) (.inr hl)
        refine wpAny_mono ((runs a oe cls d (X.pn ++ pins) zc flds).run [] s2 _ H _ in2 (yes rfl a z.na)) (fun f s3 ends => ?_) (fun _ _ bad => False.elim bad)
        have out : ∀ {σ3 : L2.St} {H3 : Hp} {P : Shared → Prop} {at_ : Pos}, Inv (X.suite a ((a, oe) :: (X.pn ++ pins))) [] σ3 H3 s3 → (∀ s4, Inv X pins (σ3.set i Option.none) H3 s4 → P s4) →
            wpAny (model X.prog X.w) X.A (do bindName X.env n .none; unbindBehindTheSuite X.env n at_) (fun _ s4 => P s4) X.xe s3 := fun in3 go => gone_ok (in3.unsuite z.inv.ok) hN hi hl go
        cases f with
        | ret u =>
          obtain ⟨v, _, _, in3, rel, q⟩ := ends
          exact out in3 fun s4 in4 => ⟨v, _, _, in4, rel, q⟩
        | _ =>
          obtain ⟨_, _, in3, q⟩ := ends
          exact out in3 fun s4 in4 => ⟨_, _, in4, q⟩
    · intro e
      cases e
theorem ps_tryArms {body : List Stmt} {h0 : ExceptHandler} {hds : List ExceptHandler} {rs : List (Value × Suite)} {pos : Pos} {tb : WX → TS} (hs : X.stack = X.env :: X.outer) (hf : X.env.frame = some X.env.locals) (hN : X.N.Nodup) (hi : X.N[i]? = some n) (hl : X.env.kindOf n = some .local) (tk : L2N.Takes X W)
    (inside : ∀ (W' : WX) (pn : List (Addr × Obj)) (xe : Value → Shared → Prop), L2N.Takes (X.tr pn xe) W' → PassesOwn (model X.prog X.w) X.A X.env xe → PSs (X.tr pn xe) body (tb W')) (all : Arms X n (h0 :: hds) rs) :
    PS X (.Try body (h0 :: hds) [] [] pos) (fun N σ H => tb (wArms X.K i W N rs) N σ H) := by
  constructor
  intro pins s σ H N inv want
  have frames : X.A.frames = some (X.env :: X.outer) := by rw [inv.ok.frames, hs]
  apply wpAny_Try_except
  refine wpAny_mono ((inside (wArms X.K i W N rs) (X.pn ++ pins) _ ?_ PassesOwn.looking).run [] s σ H N (inv.toTry _) want) ?_ (fun _ _ bad => bad)
  · rintro u s1 ⟨a, B, sI, pins1, σ1, H1, cls, d, rfl, inv1, nb, up, sky, na, os, bare, w⟩
    have sky' : Sky B (X.env :: X.outer) a (L2N.Zn cls d) X.env.locals s1.heap := by
      rw [← hs]
      exact sky
    refine L2N.Sky.land L2N.Zn.steady frames hf sky' fun h2 fly up2 => ?_
    exact Down.arms hs hf hN hi hl tk all (s := { s1 with heap := h2 }) ⟨inv1.ofTry inv.ok, nb, up.trans up2, by rw [hs]; exact fly, na, os, bare⟩ w
  · intro f s1 ends
    cases f with
    | next =>
      obtain ⟨σ1, H1, inv1, q⟩ := ends
      exact wpAny_execs_nil ⟨σ1, H1, inv1.ofTry inv.ok, q⟩
    | ret u =>
      obtain ⟨v, σ1, H1, inv1, rel, q⟩ := ends
      exact ⟨v, σ1, H1, inv1.ofTry inv.ok, rel, q⟩
    | _ =>
      obtain ⟨σ1, H1, inv1, q⟩ := ends
      exact ⟨σ1, H1, inv1.ofTry inv.ok, q⟩
end
/-! ### by data -/
def armEnd (i : Nat) : Out → Out
  | .nx ρ' => .nx (ρ'.set i .non)
  | .ret d => .ret d
  | _ => .bad
/-- the first clause that takes e -/
def armK (i : Nat) (e : Cl) (d : D) (ρx : List D) : List (Cl × SFn) → Out
  | [] => .exc e d ρx
  | r :: rs => if subX e r.1 = true then armEnd i (r.2 (ρx.set i (.obj e [d]))) else armK i e d ρx rs
def dTryArms (ks : List Cl) (i : Nat) (Fb : SFn) (rs : List (Cl × SFn)) : SFn := fun ρ => match Fb ρ with
  | .exc e d ρx => if e ∈ ks then armK i e d ρx rs else .bad
  | o => o
section
variable {X : Cx} {ca : Cl → Addr} {W : WX} {J : Jd} {Γ Γx Γs : List Md} {ks : List Cl} {i : Nat} {n : Str}
/-- what each clause does -/
inductive DArms (X : Cx) (ca : Cl → Addr) (J : Jd) (ks : List Cl) (i : Nat) (n : Str) (Γx Γs : List Md) : List ExceptHandler → List (Cl × SFn) → Prop
  | none : DArms X ca J ks i n Γx Γs [] []
  | more {x : Str} {b0 : Stmt} {bs : List Stmt} {np hp : Pos} {hds : List ExceptHandler} {rs : List (Cl × SFn)} {F : SFn} (h : Cl) : X.mg x = some (.ref (ca h)) → (∀ k ∈ ks, PySem.W.exmOne X.K (.ref (ca k)) (.ref (ca h)) = some (subX k h)) →
      (∀ (a : Addr) (oe : Obj) (dx : Addr) (k : Cl) (pn : List (Addr × Obj)), k ∈ ks → L2N.Zn (.ref (ca k)) (some dx) oe → (∃ vs, oe.data = .fields vs) → PDSs (X.suite a ((a, oe) :: pn)) ca (fun _ _ _ _ => False) ⟨J.rf, [], [], Option.none, J.Γr, J.rh⟩ (Γx.set i (.e a dx k)) (b0 :: bs) Γs F) →
      DArms X ca J ks i n Γx Γs hds rs → Gl X x → (x == ("__debug__" : Str)) = false → DArms X ca J ks i n Γx Γs (.ExceptHandler (some (.Name x np)) (some n) (b0 :: bs) hp :: hds) ((h, F) :: rs)
/-- the suites' wishes -/
def armTs (c : Ct) (J : Jd) (ks : List Cl) (i : Nat) (Γx Γs : List Md) (F : SFn) : Suite := fun a cls d N σ H => ∃ (k : Cl) (dx : Addr), k ∈ ks ∧ cls = .ref (c.ca k) ∧ d = some dx ∧ rdS c (fun _ _ _ _ => False) ⟨J.rf, [], [], Option.none, J.Γr, J.rh⟩ (Γx.set i (.e a dx k)) Γs F N σ H
def armVs (c : Ct) (J : Jd) (ks : List Cl) (i : Nat) (Γx Γs : List Md) (rs : List (Cl × SFn)) : List (Value × Suite) := rs.map fun r => (.ref (c.ca r.1), armTs c J ks i Γx Γs r.2)
theorem DArms.arms {hds : List ExceptHandler} {rs : List (Cl × SFn)} (h : DArms X ca J ks i n Γx Γs hds rs) : Arms X n hds (armVs ⟨X.K, ca⟩ J ks i Γx Γs rs) := by
  induction h with
  | none => exact .none
  | more h named _ runs _ gl nd more =>
    refine .more ⟨gl, nd, .inl named⟩ (fun a oe cls d pn zc flds => ⟨fun pins s σ H N inv ⟨k, dx, kk, ec, ed, r⟩ => ?_⟩) more
    subst ec
    subst ed
    exact (runs a oe dx k pn kk zc flds).rd.run pins s σ H N inv r
theorem armK_run {hds : List ExceptHandler} {rs : List (Cl × SFn)} (all : DArms X ca J ks i n Γx Γs hds rs) (hx : ∀ Γy, J.Γx = some Γy → wks Γx Γy = true) {B S0 : Hp} {M : Mz} {L : List (List Addr)} {σ : L2.St} {H : Hp} {ρ : List D} {e : Cl} {d : D} {dx : Addr} {v : V} {N : Ends} (he : e ∈ ks)
    (E : EnvR ⟨X.K, ca⟩ B S0 M Γx L σ H ρ) (h1 : H dx = some (.xd [("at", v)])) (h2 : B dx = none) (h3 : Rep ⟨X.K, ca⟩ (hide (Msk M L) H) v d) (pp : Post ⟨X.K, ca⟩ B S0 M J W (Γs.set i .n) N (armK i e d ρ rs)) :
    wArms X.K i W N (armVs ⟨X.K, ca⟩ J ks i Γx Γs rs) (.ref (ca e)) (some dx) σ H := by
  induction all with
  | none => exact exc_post hx E pp h1 h2 h3
  | @more x b0 bs np hp hds rs F h named knows runs rest gl nd more =>
    refine ⟨subX e h, knows e he, fun is a fresh => ?_, fun is => more ?_⟩
    · have E2 : EnvR ⟨X.K, ca⟩ B S0 M (Γx.set i (.e a dx e)) (L.set i []) (σ.set i (some (.ref a))) H (ρ.set i (.obj e [d])) :=
        E.put0 (Ex.refl _) i ⟨rfl, rfl, v, d, rfl, hide_set0 _ _ (xd_free E h1), h3.mono hide_set0⟩
      have pp' : Post ⟨X.K, ca⟩ B S0 M J W (Γs.set i .n) N (armEnd i (F (ρ.set i (.obj e [d])))) := by
        have q : armK i e d ρ ((h, F) :: rs) = armEnd i (F (ρ.set i (.obj e [d]))) := if_pos is
        rw [← q]
        exact pp
      refine ⟨e, dx, he, rfl, rfl, B, S0, M, _, _, E2, ?_⟩
      show Post ⟨X.K, ca⟩ B S0 M ⟨J.rf, [], [], Option.none, J.Γr, J.rh⟩ (fun _ _ _ _ => False) Γs (goneEnds i N) (F (ρ.set i (.obj e [d])))
      cases hF : F (ρ.set i (.obj e [d])) with
      | nx ρ' =>
        rw [hF] at pp'
        intro L3 σ3 H3 E3
        exact pp' _ _ _ (E3.put0 (Ex.refl _) i (m' := .n) (x' := none) (d' := .non) rfl)
      | ret d' => rw [hF] at pp'; exact pp'
      | _ => rw [hF] at pp'; exact pp'.elim
    · have q : armK i e d ρ ((h, F) :: rs) = armK i e d ρ rs := if_neg (by rw [is]; decide)
      rw [← q]
      exact pp
theorem pds_tryArms {body : List Stmt} {h0 : ExceptHandler} {hds : List ExceptHandler} {rs : List (Cl × SFn)} {pos : Pos} {Fb : SFn} {Γ' : List Md} (i : Nat) (ks : List Cl) (tk : L2N.Takes X W) (hN : X.N.Nodup)
    (inside : ∀ (W' : WX) (pn : List (Addr × Obj)) (xe : Value → Shared → Prop), L2N.Takes (X.tr pn xe) W' → PassesOwn (model X.prog X.w) X.A X.env xe → PDSs (X.tr pn xe) ca W' ⟨J.rf, J.Γb, J.Γc, some Γx, J.Γr, J.rh⟩ Γ body Γ' Fb)
    (all : DArms X ca J ks i n Γx Γs (h0 :: hds) rs) (hΓ : Γs.set i .n = Γ' := by rfl) (hx : ∀ Γy, J.Γx = some Γy → wks Γx Γy = true := by intro _ h; first | (cases h; done) | (cases h; first | decide | rfl)) (hs : X.stack = X.env :: X.outer := by rfl) (hf : X.env.frame = some X.env.locals := by rfl) (hi : X.N[i]? = some n := by rfl) (hl : X.env.kindOf n = some .local := by rfl) :
    PDS X ca W J Γ (.Try body (h0 :: hds) [] [] pos) Γ' (dTryArms ks i Fb rs) := by
  subst hΓ
  refine ⟨_, ps_tryArms (tb := fun W' => rdS ⟨X.K, ca⟩ W' ⟨J.rf, J.Γb, J.Γc, some Γx, J.Γr, J.rh⟩ Γ (Γs.set i .n) Fb) hs hf hN hi hl tk (fun W' pn xe tk' po => (inside W' pn xe tk' po).rd) all.arms, fun B S0 M L σ H ρ N E pp => ⟨B, S0, M, L, ρ, E, ?_⟩⟩
  unfold dTryArms at pp
  cases hF : Fb ρ with
  | exc e d ρx =>
    rw [hF] at pp
    have pp' : Post ⟨X.K, ca⟩ B S0 M J W (Γs.set i .n) N (if e ∈ ks then armK i e d ρx rs else .bad) := pp
    by_cases he : e ∈ ks
    · rw [if_pos he] at pp'
      intro dx v L1 σ1 H1 _ h1 h2 h3 up
      exact armK_run all hx he (up Γx rfl) h1 h2 h3 pp'
    · rw [if_neg he] at pp'
      exact pp'.elim
  | bad => rw [hF] at pp; exact pp.elim
  | _ => rw [hF] at pp; exact pp
end
end DL

/-! DL: three names bound at once within a suite. -/
namespace DL
open PySem PySem.Spec PyProof.Rows L2
section
variable {prog : Program} {w : World} {A : Around} {E : Value → Shared → Prop} {s : Shared} {err : Addr}
/-- a tuple's iterator at its end, while an error is held -/
theorem tup_done_hot {it t : Addr} {i : Nat} {items : Array Value} {Q : Option Value → Shared → Prop} (hot : HotX.HotAt A err s.heap) (iter : IsTupIter s.heap it t i) (tup : IsTup s.heap t items) (past : items[i]? = none) (ne : err ≠ it)
    (q : ∀ h', Heap.ExtBut it s.heap h' → Q none { s with heap := h' }) : wpAny (model prog w) A (pyNext (.ref it)) Q E s := by
  obtain ⟨io, itAt, itCls, itData⟩ := id iter
  obtain ⟨to, tupAt, _, cnt, tupData⟩ := tup
  obtain ⟨held, eo, evs, errAt, errData, noCtx⟩ := hot
  unfold pyNext
  apply wpAny_bind
  apply wpAny_attempt
  refine wpAny_callSpecial?_slot (name := Str.ofString "__next__") iter.typeIs slot_tupleiter_next (wpAny_call_entry slot_tupleiter_next iter.typeIs entry_tupleiter_next ?_ (args_tupleiter_next _))
  show wpAny _ _ (field (.ref it) 0 >>= _) _ _ s
  apply wpAny_bind
  refine wpAny_field itAt itData (x := .ref t) rfl ?_
  show wpAny _ _ (if (Value.ref t == Value.none) = true then _ else _) _ _ s
  rw [if_neg (show ¬ ((Value.ref t == Value.none) = true) from Bool.false_ne_true)]
  show wpAny _ _ (field (.ref it) 1 >>= _) _ _ s
  apply wpAny_bind
  refine wpAny_field itAt itData (x := .int i 0) rfl ?_
  show wpAny _ _ (seqItems? (.ref t) >>= _) _ _ s
  apply wpAny_bind
  refine wpAny_seqItems tupAt tupData ?_
  simp only [Int.toNat_natCast, past]
  apply wpAny_bind
  apply wpAny_rule
  apply wpAny_bind
  refine wpAny_setField itAt itData (by simp) ?_
  show wpAny _ _ (newExc (.type "StopIteration") [] >>= _) _ _ _
  apply wpAny_bind
  simp only [newExc, newTuple]
  apply wpAny_bind
  refine wpAny_newObj_type ?_ (by size_fits)
  apply wpAny_bind (m := firstArgMember _ _)
  refine wpAny_of_eq (a := Value.none) (by first | rfl | (simp only [firstArgMember]; rfl)) ?_
  refine wpAny_newObj_type ?_ (by size_fits)
  have still : (s.heap.update it (Obj.mapFields (·.setIfInBounds 0 .none))).get? err = some eo := by
    rw [Heap.get?_update_other _ _ (Ne.symm ne)]
    exact errAt
  refine HotX.raiseNew_hot ⟨held, eo, evs, Heap.get?_push_of_some _ (Heap.get?_push_of_some _ still), errData, noCtx⟩ (Nat.ne_of_lt (Heap.lt_size (Heap.get?_push_of_some _ still))) (Heap.get?_push_size _ rfl) rfl (by first | (simp; done) | (simp; omega) | (simp only [Array.size_append]; simp; omega)) ?_
  apply wpAny_bind
  refine wpAny_isInstance (T := "StopIteration") (b := true) ⟨_, Heap.get?_update_self _ (Heap.get?_push_size _ rfl) rfl, rfl⟩ isSubtype_stop ?_
  refine wpAny_pure (q _ fun b o nb e => ?_)
  have there : (s.heap.update it (Obj.mapFields (·.setIfInBounds 0 .none))).get? b = some o := by
    rw [Heap.get?_update_other _ _ (Ne.symm nb)]
    exact e
  rw [Heap.get?_update_other _ _ (Nat.ne_of_gt (Heap.lt_size (Heap.get?_push_of_some _ there)))]
  exact Heap.get?_push_of_some _ (Heap.get?_push_of_some _ there)
/-- all items of a tuple, while an error is held -/
theorem tup_items_hot {t : Addr} {items : Array Value} {Q : List Value → Shared → Prop} (hot : HotX.HotAt A err s.heap) (tup : IsTup s.heap t items) (q : ∀ h', Heap.ExtBut s.heap.objs.size s.heap h' → Q items.toList { s with heap := h' }) :
    wpAny (model prog w) A (unpackItems (.ref t) items.size none) Q E s := by
  have lt : t ≠ s.heap.objs.size := by
    obtain ⟨_, at_, _⟩ := tup
    exact Nat.ne_of_lt (Heap.lt_size at_)
  obtain ⟨held, eo, evs, errAt, rest⟩ := hot
  have ne : err ≠ s.heap.objs.size := Nat.ne_of_lt (Heap.lt_size errAt)
  have all : List.take items.size (List.drop 0 items.toList) = items.toList := by
    rw [List.drop_zero]
    exact List.take_of_length_le (by simp)
  unfold unpackItems
  apply wpAny_bind
  unfold notIterableAtAll
  apply wpAny_bind
  refine wpAny_specialOf tup.typeIs slot_tuple_iter.lookup ?_
  apply wpAny_pure
  simp only [Bool.false_eq_true, if_false]
  apply wpAny_bind
  apply wpAny_holding
  refine iter_tuple tup ?_
  apply wpAny_bind
  apply wpAny_holding
  refine draw_tuple lt items.size 0 _ _ ⟨_, Heap.get?_push_size _ rfl, rfl, rfl⟩ (tup.push _) (by omega) fun h1 iter same => ?_
  rw [all, if_neg (by simp)]
  have tup1 : IsTup h1 t items := (tup.push _).extBut same.extBut lt
  have err1 : h1.get? err = some eo := same.extBut err eo ne (Heap.get?_push_of_some _ errAt)
  apply wpAny_bind
  apply wpAny_holding
  refine tup_done_hot ⟨held, eo, evs, err1, rest⟩ iter tup1 (by simp) ne fun h2 ext => ?_
  simp only [Option.isSome_none, Bool.false_eq_true, if_false]
  exact wpAny_pure (q h2 fun b o nb e => ext b o nb (same.extBut b o nb (Heap.get?_push_of_some _ e)))
end
section
variable {X : Cx} {a : Addr} {oe : Obj} {cls : Value} {d : Option Addr} {pn : List (Addr × Obj)}
theorem hot_suite {pins : List (Addr × Obj)} {σ : L2.St} {H : Hp} {s : Shared} (inv : Inv (X.suite a ((a, oe) :: pn)) pins σ H s) (zn : L2N.Zn cls d oe) (flds : ∃ vs, oe.data = .fields vs) : HotX.HotAt (X.suite a ((a, oe) :: pn)).A a s.heap := by
  obtain ⟨vs, data_⟩ := flds
  exact ⟨rfl, oe, vs, (inv.pin (a, oe) (List.mem_append.mpr (.inl (.head _)))).1, data_, zn.2.2 vs data_⟩
/-- x, y, z = e1, e2, e3 within a suite -/
theorem ps_par3S {i j l : Nat} {x y z : Str} {e1 e2 e3 : Expr} {ta : TA} {px py pz pt pos : Pos} {kt k2 pt2} (zn : L2N.Zn cls d oe) (flds : ∃ vs, oe.data = .fields vs) (hN : X.N.Nodup) (hi : X.N[i]? = some x) (hj : X.N[j]? = some y) (hl : X.N[l]? = some z) (ij : i ≠ j) (il : i ≠ l) (jl : j ≠ l)
    (hx : X.env.scope.names.lookup x = some .local) (hy : X.env.scope.names.lookup y = some .local) (hz : X.env.scope.names.lookup z = some .local) (args : PA (X.suite a ((a, oe) :: pn)) [e1, e2, e3] ta)
    (swap : swappedStores [.Tuple [.Name x px, .Name y py, .Name z pz] kt pt] (.Tuple [e1, e2, e3] k2 pt2) X.env = pure (some [x, y, z])) (sole : swapsWithSole [.Tuple [.Name x px, .Name y py, .Name z pz] kt pt] (.Tuple [e1, e2, e3] k2 pt2) pos.line X.env = pure false) :
    PS (X.suite a ((a, oe) :: pn)) (.Assign [.Tuple [.Name x px, .Name y py, .Name z pz] kt pt] (.Tuple [e1, e2, e3] k2 pt2) pos) (tPar3 i j l ta) := by
  constructor
  intro pins s σ H N inv want
  rw [exec_Assign_arm]
  apply wpAny_bind
  apply wpAny_standAt
  show wpAny _ _ (swapsWithSole _ _ _ X.env >>= _) _ _ _
  rw [sole]
  apply wpAny_bind
  apply wpAny_pure
  rw [if_neg (by decide)]
  apply wpAny_bind
  refine Tuple_ (thn (args.run _ pins s σ H _ inv want) fun us s1 ⟨vs, H1, inv1, rel, u, v, r, evs, q⟩ => ?_)
  subst evs
  obtain ⟨u1, u2, u3, rfl, r1, r2, r3⟩ : ∃ u1 u2 u3, us = [u1, u2, u3] ∧ RelV u u1 ∧ RelV v u2 ∧ RelV r u3 := by
    cases rel with
    | cons r1 rel =>
      cases rel with
      | cons r2 rel =>
        cases rel with
        | cons r3 rel =>
          cases rel
          exact ⟨_, _, _, rfl, r1, r2, r3⟩
  refine wpAny_newObj_type ?_ (by show 3 ≤ sizeLine; decide)
  have inv2 : Inv (X.suite a ((a, oe) :: pn)) pins σ H1 { s1 with heap := s1.heap.push { cls := .type "tuple", data := .seq [u1, u2, u3].toArray } } := inv1.kept (t' := s1.toks) fun b o e => Heap.get?_push_of_some _ e
  show wpAny _ _ (swappedStores _ _ X.env >>= _) _ _ _
  rw [swap]
  apply wpAny_bind
  apply wpAny_pure
  show wpAny (model X.prog X.w) (X.suite a ((a, oe) :: pn)).A (do rule "assign.swapped-stores"; let items ← unpackItems (.ref s1.heap.objs.size) 3 none; assignInOrder [fun v => bindName X.env z v, fun v => bindName X.env y v, fun v => bindName X.env x v] items.reverse; pure Flow.next) _ _ _
  apply wpAny_bind
  apply wpAny_rule
  apply wpAny_bind
  refine tup_items_hot (items := #[u1, u2, u3]) (hot_suite inv2 zn flds) (IsTup.new s1.heap _) fun h2 ext => ?_
  have inv3 := inv2.kept (h' := h2) (t' := s1.toks) fun b o e => ext b o (Nat.ne_of_lt (Heap.lt_size e)) e
  show wpAny _ _ (assignInOrder [fun v => bindName X.env z v, fun v => bindName X.env y v, fun v => bindName X.env x v] [u3, u2, u1] >>= fun _ => pure Flow.next) _ _ _
  apply wpAny_bind
  refine assignInOrder_cons (wpAny_bindName (store_ok (X := X.suite a ((a, oe) :: pn)) inv3 hN hl (.inl hz) r3 (fun s2 inv4 => ?_) (.inr hz)))
  refine assignInOrder_cons (wpAny_bindName (store_ok (X := X.suite a ((a, oe) :: pn)) inv4 hN hj (.inl hy) r2 (fun s3 inv5 => ?_) (.inr hy)))
  refine assignInOrder_cons (wpAny_bindName (store_ok (X := X.suite a ((a, oe) :: pn)) inv5 hN hi (.inl hx) r1 (fun s4 inv6 => assignInOrder_nil (wpAny_pure ?_)) (.inr hx)))
  rw [List.set_comm _ _ (Ne.symm jl), List.set_comm _ _ (Ne.symm il), List.set_comm _ _ (Ne.symm ij)] at inv6
  exact ⟨_, H1, inv6, q⟩
end
/-! ### by data -/
def par3K (i j l : Nat) (ρ : List D) : Option (List D) → Out
  | some [x, y, z] => .nx (((ρ.set i x).set j y).set l z)
  | _ => .bad
def dPar3 (i j l : Nat) (fs : List D → Option (List D)) : SFn := fun ρ => par3K i j l ρ (fs ρ)
theorem pds_par3S {X : Cx} {ca : Cl → Addr} {W : WX} {J : Jd} {Γ : List Md} {a : Addr} {oe : Obj} {cls : Value} {d : Option Addr} {pn : List (Addr × Obj)} {x y z : Str} {e1 e2 e3 : Expr} {px py pz pt pos : Pos} {kt k2 pt2} {fs : List D → Option (List D)} (i j l : Nat)
    (zn : L2N.Zn cls d oe) (flds : ∃ vs, oe.data = .fields vs) (hN : X.N.Nodup) (args : PDA (X.suite a ((a, oe) :: pn)) ca Γ [e1, e2, e3] [.s, .s, .s] fs) (hi : X.N[i]? = some x := by rfl) (hj : X.N[j]? = some y := by rfl) (hl : X.N[l]? = some z := by rfl) (ij : i ≠ j := by decide) (il : i ≠ l := by decide) (jl : j ≠ l := by decide)
    (hx : X.env.scope.names.lookup x = some .local := by rfl) (hy : X.env.scope.names.lookup y = some .local := by rfl) (hz : X.env.scope.names.lookup z = some .local := by rfl) (swap : swappedStores [.Tuple [.Name x px, .Name y py, .Name z pz] kt pt] (.Tuple [e1, e2, e3] k2 pt2) X.env = pure (some [x, y, z]) := by rfl)
    (sole : swapsWithSole [.Tuple [.Name x px, .Name y py, .Name z pz] kt pt] (.Tuple [e1, e2, e3] k2 pt2) pos.line X.env = pure false := by rfl) :
    PDS (X.suite a ((a, oe) :: pn)) ca W J Γ (.Assign [.Tuple [.Name x px, .Name y py, .Name z pz] kt pt] (.Tuple [e1, e2, e3] k2 pt2) pos) (((Γ.set i .s).set j .s).set l .s) (dPar3 i j l fs) := by
  obtain ⟨ta, runs, says⟩ := args
  refine ⟨_, ps_par3S zn flds hN hi hj hl ij il jl hx hy hz runs swap sole, fun B S0 M L σ H ρ N E pp => ?_⟩
  unfold dPar3 at pp
  cases hd : fs ρ with
  | none => rw [hd] at pp; exact pp.elim
  | some ds =>
    rw [hd] at pp
    refine says B S0 M L σ H ρ E ds hd _ fun vs H1 x1 rs => ?_
    cases rs with
    | cons r1 rs =>
      cases rs with
      | cons r2 rs =>
        cases rs with
        | cons r3 rs =>
          cases rs
          have E1 := E.ext x1
          have q1 : Rep ⟨X.K, ca⟩ (hide (Msk M L) H1) _ _ := r1
          have q2 : Rep ⟨X.K, ca⟩ (hide (Msk M L) H1) _ _ := r2
          have q3 : Rep ⟨X.K, ca⟩ (hide (Msk M L) H1) _ _ := r3
          have E2 : EnvR ⟨X.K, ca⟩ B S0 M (Γ.set i .s) (L.set i []) (σ.set i _) H1 (ρ.set i _) := E1.put0 (Ex.refl _) i ⟨rfl, _, rfl, q1.mono hide_set0⟩
          have E3 : EnvR ⟨X.K, ca⟩ B S0 M ((Γ.set i .s).set j .s) ((L.set i []).set j []) ((σ.set i _).set j _) H1 ((ρ.set i _).set j _) := E2.put0 (Ex.refl _) j ⟨rfl, _, rfl, (q2.mono hide_set0).mono hide_set0⟩
          exact ⟨_, _, _, rfl, pp _ _ _ (E3.put0 (Ex.refl _) l ⟨rfl, _, rfl, ((q3.mono hide_set0).mono hide_set0).mono hide_set0⟩)⟩
end DL

/-! DL: a list of pairs, each once, in order. -/
namespace DL
open PySem PySem.Spec PyProof.Rows L2
/-- a pair of small numbers -/
def okPair : List Int → Bool
  | [x, y] => decide (0 ≤ x ∧ x < 64 ∧ 0 ≤ y ∧ y < 64)
  | _ => false
def codeP : List Int → Int
  | [x, y] => x * 64 + y
  | _ => 0
def decP (n : Int) : List Int := [n / 64, n % 64]
theorem okPair_some {k : List Int} (h : okPair k = true) : ∃ x y, k = [x, y] ∧ 0 ≤ x ∧ x < 64 ∧ 0 ≤ y ∧ y < 64 := by
  match k, h with
  | [x, y], h => exact ⟨x, y, rfl, of_decide_eq_true h⟩
theorem decP_code {k : List Int} (h : okPair k = true) : decP (codeP k) = k := by
  obtain ⟨x, y, rfl, h1, h2, h3, h4⟩ := okPair_some h
  show [(x * 64 + y) / 64, (x * 64 + y) % 64] = [x, y]
  rw [show (x * 64 + y) / 64 = x by omega, show (x * 64 + y) % 64 = y by omega]
theorem codeP_eq {k : List Int} (h : okPair k = true) : TS.code 64 k = codeP k := by
  obtain ⟨x, y, rfl, _⟩ := okPair_some h
  exact code_pair x y
def gSortSetT (d : D) : Option D := (tupsOf d).bind fun ks => if ks.all okPair = true then some (.lst ((sortI (ded (ks.map codeP))).map fun n => .tup ((decP n).map .int))) else none
theorem decP_map : ∀ {ks : List (List Int)}, (∀ k ∈ ks, okPair k = true) → (ks.map codeP).map decP = ks
  | [], _ => rfl
  | k :: ks, h => by rw [List.map_cons, List.map_cons, decP_code (h k (.head _)), decP_map fun j hj => h j (.tail _ hj)]
theorem tup_reps {c : Ct} {H : Hp} : ∀ {L : List (Addr × List Int)}, (∀ p ∈ L, H p.1 = some (.tup (p.2.map V.int))) → Reps c H (L.map fun p => V.ref p.1) ((L.map (·.2)).map fun k => .tup (k.map .int))
  | [], _ => .nil
  | p :: L, h => .cons (.tup (h p (.head _)) (Reps.of_ints _)) (tup_reps fun q hq => h q (.tail _ hq))
theorem flats_tups (ks : List (List Int)) : flats (ks.map fun k => D.tup (k.map .int)) = true := by
  have q := flats_keyTups (ks.map fun k => (k, D.non))
  unfold keyTups at q
  rw [List.map_map] at q
  exact q
section
variable {X : Cx} {ca : Cl → Addr} {Γ : List Md} {pos p p2 q : Pos} {a : Expr} {ma : Vm} {fa : DFn}
/-- sorted(set(xs)), xs a list of pairs -/
theorem pd_sortSetT {k : Nat} (hr : Room k X.A) (ha : PDE X ca Γ a ma fa) (h1 : X.mg "sorted" = none) (h2 : X.mg "set" = none) (hg : Gl X "sorted" := by rfl) (hg2 : Gl X "set" := by rfl) (hc : X.calm = true := by rfl)
    (hs : starEach [a] X.env = (false, eval a X.env) :: starEach [] X.env := by rfl) (hs2 : starEach [.Call (.Name "set" p2) [a] [] q] X.env = (false, eval (.Call (.Name "set" p2) [a] [] q) X.env) :: starEach [] X.env := by rfl) (hpl : (backTo q (starEach [] X.env)).any (·.1) = false := by rfl) (hpl2 : (backTo pos (starEach [] X.env)).any (·.1) = false := by rfl) :
    PDN X ca Γ (.Call (.Name "sorted" p) [.Call (.Name "set" p2) [a] [] q] [] pos) (d1 gSortSetT fa) := by
  obtain ⟨t, runs, says⟩ := ha
  have units := hr.units
  refine ⟨_, pe_callB (cr_sortedT hc) hg h1 (by decide +kernel) (pa_cons (pe_callTy (cr_setOfT hc (by omega)) hg2 h2 (by decide +kernel) (pa_cons runs pa_nil hs) (by decide) (by decide) hs hpl) pa_nil hs2) (by decide) (by decide) hs2 hpl2, fun B S0 M L σ H ρ E d hd Q kk => ?_⟩
  obtain ⟨x, e1, hd⟩ := bind_some hd
  obtain ⟨ks, e2, hd⟩ := bind_some hd
  obtain ⟨good, hd⟩ := ite_some' hd
  cases hd
  have good' := List.all_eq_true.mp good
  refine says B S0 M L σ H ρ E x e1 _ fun v H1 x1 r1 => ?_
  have rep := r1.rep (E.eb.trans x1)
  cases x with
  | lst ds =>
    obtain ⟨ks', e3, e2⟩ := bind_some e2
    obtain ⟨h64, e2⟩ := ite_some' e2
    cases e2
    generalize qq : D.lst ds = d at rep
    cases rep with
    | lst h r =>
      cases qq
      obtain ⟨zs, rfl, z2, z3⟩ := asTl_rep r e3
      subst z2
      rw [List.length_map] at h64
      have okz : ∀ p ∈ zs, okPair p.2 = true := fun p hp => good' _ (List.mem_map.mpr ⟨p, hp, rfl⟩)
      refine ⟨_, zs, rfl, SqL.of h, fun p hp => SqT.of (z3 p hp), h64, fun a L' ha h5 h6 => ?_⟩
      have new := Ex.new (o := SetTO X.prog X.w a L') ha
      refine ⟨a, L', 2, 64, rfl, upd_same, fun p hp => SqT.of (new _ _ (z3 p (h5 p hp))), by decide, fun p hp => ?_, fun L2 b pm nd few srt fresh => ?_⟩
      · obtain ⟨x, y, e, b1, b2, b3, b4⟩ := okPair_some (okz p (h5 p hp))
        rw [e]
        refine ⟨rfl, ?_⟩
        intro n hn
        rcases List.mem_cons.mp hn with rfl | hn
        · exact ⟨b1, b2⟩
        · rw [List.mem_singleton.mp hn]
          exact ⟨b3, b4⟩
      · have in2 : ∀ p ∈ L2, p ∈ zs := fun p hp => h5 p (pm.mem_iff.mp hp)
        have ok2 : ∀ k ∈ L2.map (·.2), okPair k = true := fun k hk => by
          obtain ⟨p, hp, rfl⟩ := List.mem_map.mp hk
          exact okz p (in2 p hp)
        have inj : ∀ j k, okPair j = true → okPair k = true → codeP j = codeP k → j = k := fun j k hj hk e => by rw [← decP_code hj, e, decP_code hk]
        have up : ((L2.map (·.2)).map codeP).Pairwise (· < ·) := by
          rw [List.pairwise_map, List.pairwise_map]
          have both : L2.Pairwise fun q r => TS.code 64 q.2 ≤ TS.code 64 r.2 ∧ q.2 ≠ r.2 := srt.and (List.pairwise_map.mp nd)
          refine both.imp_of_mem fun {q r} hq hr h => ?_
          have o1 := ok2 _ (List.mem_map.mpr ⟨q, hq, rfl⟩)
          have o2 := ok2 _ (List.mem_map.mpr ⟨r, hr, rfl⟩)
          rw [codeP_eq o1, codeP_eq o2] at h
          have : codeP q.2 ≠ codeP r.2 := fun e => h.2 (inj _ _ o1 o2 e)
          omega
        have eq : (L2.map (·.2)).map codeP = sortI (ded ((zs.map (·.2)).map codeP)) := by
          refine sortI_unique up fun n => ⟨fun h => ?_, fun h => ?_⟩
          · obtain ⟨k, hk, rfl⟩ := List.mem_map.mp h
            obtain ⟨p, hp, rfl⟩ := List.mem_map.mp hk
            exact List.mem_map.mpr ⟨_, List.mem_map.mpr ⟨p, in2 p hp, rfl⟩, rfl⟩
          · obtain ⟨k, hk, rfl⟩ := List.mem_map.mp h
            obtain ⟨p, hp, rfl⟩ := List.mem_map.mp hk
            obtain ⟨p', hp', e'⟩ := List.mem_map.mp (h6 p hp)
            exact List.mem_map.mpr ⟨p.2, List.mem_map.mpr ⟨p', pm.mem_iff.mpr hp', e'⟩, rfl⟩
        have dec := decP_map ok2
        rw [eq] at dec
        have fin : (sortI (ded ((zs.map (·.2)).map codeP))).map (fun n => D.tup ((decP n).map .int)) = (L2.map (·.2)).map fun k => D.tup (k.map .int) := by
          conv => rhs; rw [← dec, List.map_map]
          rfl
        rw [fin] at kk
        have E2 := E.ext (x1.trans new)
        refine kk b _ ((x1.trans new).trans (Ex.new fresh)) ((x1.trans new).free fresh) (.lst upd_same (Owns.sh (reps_updN fresh (Reps.flat E2 (tup_reps fun p hp => new _ _ (z3 p (in2 p hp))) (flats_tups _)))))
    | _ => cases qq
  | _ => cases e2
end
end DL

set_option maxHeartbeats 2000000
/-! DL: the values of a dict as a list. -/
namespace DL
open PySem PySem.Spec PyProof.Rows L2
theorem src_vals {prog : Program} {w : World} {r d : Addr} {es : Array DictEntry} {ep : Nat} : PySem.W.KdlSrc prog w "dict_values" r d es.size (fun i v => ∃ hi : i < es.size, v = es[i].val) (fun h => h.IsValuesView r d ∧ h.DictRaw d es ep) := by
  have lt : ∀ h : Heap, h.DictRaw d es ep → d < h.objs.size := fun h q => by
    obtain ⟨o, e, _⟩ := q
    exact Heap.lt_size e
  constructor
  case type => exact fun s q => q.1.typeIs
  case there =>
    rintro h ⟨⟨o, e, _⟩, q⟩
    exact ⟨Heap.lt_size e, lt h q⟩
  case keep =>
    rintro h h' ⟨⟨o, e, y⟩, q⟩ k
    exact ⟨⟨o, k r (.inl rfl) o e, y⟩, q.at fun u z => k d (.inr rfl) u z⟩
  case notList => decide
  case notTuple => decide
  case hint => exact fun A E s Q q y => PySem.W.kdl_hint_values q.1.typeIs y
  case iter =>
    rintro A s hh ⟨q1, q2⟩
    refine ⟨_, _, fun E Q y => wpAny_pyIter_values_raw q1 q2 y, Walks.rawValues hh _ d (Nat.ne_of_lt (lt _ q2)) es ep, ⟨_, Heap.get?_push_size _ rfl, rfl, rfl⟩, ?_⟩
    exact q2.at fun u z => Heap.get?_push_of_some _ z
/-- the dict at a, with the values vs -/
def DVal (H : Hp) (a : Addr) (vs : List V) : Prop := (∃ kvs : List (Key × V), H a = some (.dK kvs) ∧ kvs.map (·.2) = vs) ∨ ∃ kvs : List (List Key × V), H a = some (.dT kvs) ∧ kvs.map (·.2) = vs
theorem kv_vals : ∀ {kvs : List (Key × V)} {xs : List (Key × Value)}, KV kvs xs → Vals (kvs.map (·.2)) (xs.map (·.2))
  | _, _, .nil => .nil
  | _, _, .cons h r => .cons h.2 (kv_vals r)
theorem kt_vals {H : Hp} : ∀ {kvs : List (List Key × V)} {xs : List (List Key × Addr × Value)}, KT H kvs xs → Vals (kvs.map (·.2)) (xs.map (·.2.2))
  | _, _, .nil => .nil
  | _, _, .cons h r => .cons h.2.2 (kt_vals r)
theorem dval_raw {X : Cx} {pins : List (Addr × Obj)} {σ : L2.St} {H : Hp} {s : Shared} {a : Addr} {vs : List V} (I : Inv X pins σ H s) (h : DVal H a vs) :
    (a == sysModules) = false ∧ vs.length ≤ sizeLine ∧ ∃ (es : Array DictEntry) (ep : Nat) (us : List Value), s.heap.DictRaw a es ep ∧ Vals vs us ∧ us.length = es.size ∧ ∀ (i : Nat) (hi : i < es.size), us[i]? = some es[i].val := by
  rcases h with ⟨kvs, e, rfl⟩ | ⟨kvs, e, rfl⟩
  · obtain ⟨h1, h2, xs, h3, h4⟩ := dk_of I.hok e
    obtain ⟨es, ep, h5, h6, h7⟩ := h4.raw
    refine ⟨h2, by rw [List.length_map]; exact h1, es, ep, xs.map (·.2), h5, kv_vals h3, by rw [List.length_map, h6], fun i hi => ?_⟩
    have hx : i < xs.length := by omega
    rw [List.getElem?_map, List.getElem?_eq_getElem hx]
    exact congrArg some (h7 i hi xs[i].1 xs[i].2 (List.getElem?_eq_getElem hx)).2.symm
  · obtain ⟨h1, h2, xs, h3, h4⟩ := dt_of I.hok e
    obtain ⟨es, ep, h5, h6, h7⟩ := h4.raw
    refine ⟨h2, by rw [List.length_map]; exact h1, es, ep, xs.map (·.2.2), h5, kt_vals h3, by rw [List.length_map, h6], fun i hi => ?_⟩
    obtain ⟨y, y1, _, y2, _⟩ := h7 i hi
    rw [List.getElem?_map, y1, y2]
    rfl
def tValsL (td : TE) : TE := fun σ H Q => td σ H fun x H1 => ∃ (a : Addr) (vs : List V), x = .ref a ∧ DVal H1 a vs ∧ ∀ p, H1 p = none → Q (.ref p) (upd H1 p (.lst vs))
/-- list(o.values()) -/
theorem pe_valsL {X : Cx} {o : Expr} {td : TE} {p apos cpos pos : Pos} (hc : X.calm = true) (ho : PE X o td) (hg : Gl X "list") (hm : X.mg "list" = none) (hv : bootBuiltins "list" = some (.type "list")) (hbase : attributeBase o "values" X.env (eval o X.env) = eval o X.env := by rfl) (hline : (apos.endLine == cpos.line) = true := by rfl)
    (hs : starEach [.Call (.Attribute o "values" apos) [] [] cpos] X.env = (false, eval (.Call (.Attribute o "values" apos) [] [] cpos) X.env) :: starEach [] X.env := by rfl) :
    PE X (.Call (.Name "list" p) [.Call (.Attribute o "values" apos) [] [] cpos] [] pos) (tValsL td) := by
  constructor
  intro pins s σ H Q I want
  apply wpAny_Call_Name_kw
  refine ld_blt I hg hm hv ?_
  refine PyProof.Rows.callWith_type1 (he := hs) (hplain := rfl) ?_
  rw [hs]
  apply Calls.spliced_cons
  have got := ho.run pins s σ H _ I want
  refine wpAny_Call_method (T := "dict") (id := "dict.values") hbase rfl hline F.plainAttrs_dict F.slot_dict_values F.type_dict_values (thn got ?_)
  rintro u s1 ⟨x, H1, I1, rx, a, vs, rfl, dv, q⟩
  have hu : u = Value.ref a := rx
  subst hu
  obtain ⟨sys, few, es, ep, us, raw, rel, lu, at_⟩ := dval_raw I1 dv
  have raw' := raw
  obtain ⟨ob, hob, exd, dat⟩ := raw'
  refine ⟨raw.typeIs, ?_, ?_⟩
  · intro b z
    cases z
    exact ⟨ob, hob, exd.2.1⟩
  show wpAny _ _ (callWith cpos (.builtin "dict.values") [.ref a] [] []) _ X.xe s1
  refine method_meetsIn F.slot_dict_values F.entry_dict_values rfl (PySem.evalArgs_none ⟨rfl, raw.typeIs, F.args_dict_values_1 _, _, meets_dict_values_raw a sys, ⟨es, ep, raw⟩, ?_⟩)
  apply Calls.spliced_nil
  have up : ∀ b ob, s1.heap.get? b = some ob → (s1.heap.push { cls := .type "dict_values", data := .fields #[.ref a] }).get? b = some ob := fun b ob z => Heap.get?_push_of_some _ z
  have les : vs.length = es.size := (Vals.length rel).trans lu
  refine PySem.W.kdl_call (src_vals (ep := ep)) (I1.ok.hd hc) ⟨⟨_, Heap.get?_push_size _ rfl, rfl, rfl⟩, raw.at fun o z => up _ o z⟩ (by omega) fun h' tk acc c kp new its => ?_
  have ea : acc.toList = us := by
    have l1 : acc.toList.length = us.length := by rw [Array.length_toList, its.1, lu]
    refine List.ext_getElem l1 fun i h1 h2 => ?_
    have hi : i < es.size := by omega
    have h3 : i < acc.size := by rw [its.1]; exact hi
    obtain ⟨_, z⟩ := its.2 i acc[i] (Array.getElem?_eq_getElem h3)
    have y := at_ i hi
    rw [List.getElem?_eq_getElem h2] at y
    rw [Array.getElem_toList, z, Option.some.inj y]
  have I2 : Inv X pins σ H1 { s1 with heap := s1.heap.push { cls := .type "dict_values", data := .fields #[.ref a] } } := I1.kept (t' := s1.toks) up
  refine ⟨.ref _, _, I2.laid (t' := tk) kp (Nat.le_refl _) (o := .lst vs) ⟨few, us, c, rel, ?_⟩, rfl, q _ (I2.hok.fresh (Nat.le_refl _))⟩
  rw [← ea, Array.toArray_toList]
  exact new
/-- a dict's values -/
def valsD : D → Option (List D)
  | .dI kvs => some (kvs.map (·.2))
  | .dT kvs => some (kvs.map (·.2))
  | .dS kvs => some (kvs.map (·.2))
  | _ => none
def gValsL (d : D) : Option D := (valsD d).bind fun ds => if flats ds = true then some (.lst ds) else none
theorem zip_snd {α β : Type} {ks : List α} {vs : List β} (h : ks.length = vs.length) : (ks.zip vs).map (·.2) = vs := List.map_snd_zip (by omega)
theorem vals_rep {c : Ct} {H : Hp} {v : V} {d : D} {ds : List D} (r : Rep c H v d) (h : valsD d = some ds) : ∃ a vs, v = .ref a ∧ DVal H a vs ∧ Reps c H vs ds := by
  cases r with
  | dI l e r =>
    have q : ds = _ := (Option.some.inj h).symm
    rw [zip_snd (l.trans r.length)] at q
    subst q
    exact ⟨_, _, rfl, .inl ⟨_, e, zip_snd (by rw [List.length_map]; exact l)⟩, r⟩
  | dT l e r =>
    have q : ds = _ := (Option.some.inj h).symm
    rw [zip_snd (l.trans r.length)] at q
    subst q
    exact ⟨_, _, rfl, .inr ⟨_, e, zip_snd (by rw [List.length_map]; exact l)⟩, r⟩
  | dS l e r =>
    have q : ds = _ := (Option.some.inj h).symm
    rw [zip_snd (l.trans r.length)] at q
    subst q
    exact ⟨_, _, rfl, .inl ⟨_, e, zip_snd (by rw [List.length_map]; exact l)⟩, r⟩
  | _ => cases h
section
variable {X : Cx} {ca : Cl → Addr} {Γ : List Md} {pos p apos cpos : Pos} {o : Expr} {mo : Vm} {fo : DFn}
/-- list(o.values()), the values flat -/
theorem pd_valsL (ho : PDE X ca Γ o mo fo) (h1 : X.mg "list" = none) (hg : Gl X "list" := by rfl) (hc : X.calm = true := by rfl) (hbase : attributeBase o "values" X.env (eval o X.env) = eval o X.env := by rfl) (hline : (apos.endLine == cpos.line) = true := by rfl)
    (hs : starEach [.Call (.Attribute o "values" apos) [] [] cpos] X.env = (false, eval (.Call (.Attribute o "values" apos) [] [] cpos) X.env) :: starEach [] X.env := by rfl) :
    PDN X ca Γ (.Call (.Name "list" p) [.Call (.Attribute o "values" apos) [] [] cpos] [] pos) (d1 gValsL fo) := by
  obtain ⟨t, runs, says⟩ := ho
  refine ⟨_, pe_valsL hc runs hg h1 (by decide +kernel) hbase hline hs, fun B S0 M L σ H ρ E d hd Q k => ?_⟩
  obtain ⟨x, e1, hd⟩ := bind_some hd
  obtain ⟨ds, e2, hd⟩ := bind_some hd
  obtain ⟨fl, hd⟩ := ite_some' hd
  cases hd
  refine says B S0 M L σ H ρ E x e1 _ fun v H1 x1 r1 => ?_
  obtain ⟨a, vs, rfl, dv, rs⟩ := vals_rep (r1.rep (E.eb.trans x1)) e2
  refine ⟨a, vs, rfl, dv, fun p hp => ?_⟩
  exact k p _ (x1.trans (Ex.new hp)) (x1.free hp) (.lst upd_same (Owns.sh (reps_updN hp (Reps.flat (E.ext x1) rs fl))))
end
end DL

set_option maxHeartbeats 2000000
/-! DL: an instance of a class that has no __init__ of its own. -/
namespace DL
open PySem PySem.Spec PyProof.Rows L2
/-- the class at C: made, with object's __init__ alone -/
def mk0B (K : PySem.W.Frag) (C : Addr) : Bool := PySem.W.makesIn K C && (decide (PySem.W.findIn K (.ref C) "__init__" = some (some (.builtin "object.__init__"))) && PySem.W.keepIn K (.ref C))
structure Mk0 (K : PySem.W.Frag) (C : Addr) : Prop where
  makes : PySem.W.makesIn K C = true
  init : PySem.W.findIn K (.ref C) "__init__" = some (some (.builtin "object.__init__"))
  kp : PySem.W.keepIn K (.ref C) = true
theorem mk0B_ok {K : PySem.W.Frag} {C : Addr} (h : mk0B K C = true) : Mk0 K C := by
  unfold mk0B at h
  rw [Bool.and_eq_true, Bool.and_eq_true, decide_eq_true_eq] at h
  exact ⟨h.1, h.2.1, h.2.2⟩
section
variable {X : Cx} {x : Str} {p pos : Pos} {C : Addr}
theorem run_new {pins : List (Addr × Obj)} {σ : L2.St} {H : Hp} {s : Shared} {Q : VK} (M : Mk0 X.K C) (I : Inv X pins σ H s)
    (h : ∀ a dx, H a = none → H dx = none → dx ≠ a → Q (.ref a) (upd (upd H dx (.own a)) a (.ins C dx []))) :
    wpAny (model X.prog X.w) X.A (call (.ref C) []) (EP X pins σ Q) X.xe s := by
  have I2 := Inv.made (C := C) I
  have Y := PySem.W.makes_of (M := model X.prog X.w) I.kIn M.makes
  have at1 : ((s.heap.push PySem.W.emptyDict).push (PySem.W.instObj C s.heap.objs.size)).get? (s.heap.objs.size + 1) = some (PySem.W.instObj C s.heap.objs.size) := by
    have := Heap.get?_push_size (s.heap.push PySem.W.emptyDict) (o := PySem.W.instObj C s.heap.objs.size) rfl
    rwa [Heap.size_push] at this
  have ty : PySem.W.Looks (model X.prog X.w) ((s.heap.push PySem.W.emptyDict).push (PySem.W.instObj C s.heap.objs.size)) (typeOf (.ref (s.heap.objs.size + 1))) (.ref C) := (PySem.W.Looks.ld at1).andThen .now
  have up : ∀ b o, s.heap.get? b = some o → ((s.heap.push PySem.W.emptyDict).push (PySem.W.instObj C s.heap.objs.size)).get? b = some o := fun b o e => Heap.get?_push_of_some _ (Heap.get?_push_of_some _ e)
  refine wpAny_call (make_map0 I.kIn M.makes M.init (fun self => PySem.W.Looks.of_pure (PySem.W.oi_bind self)) ?_)
  refine codeAny_call_builtin PySem.W.oi_plain PySem.W.entry_oi (PySem.W.check_slot PySem.W.oi_kind PySem.W.oi_split (ty.andThen (Y.top.keeps up)) (PySem.W.oi_args _) ?_)
  rw [PySem.W.oi_run]
  refine wpAny_pure ⟨rfl, ?_⟩
  exact ⟨.ref (s.heap.objs.size + 1), _, I2, rfl, h _ _ (I.hok.fresh (Nat.le_succ _)) (I.hok.fresh (Nat.le_refl _)) (Nat.ne_of_lt (Nat.lt_succ_self _))⟩
def tNew (C : Addr) : TE := fun _ H Q => ∀ a dx, H a = none → H dx = none → dx ≠ a → Q (.ref a) (upd (upd H dx (.own a)) a (.ins C dx []))
theorem pe_new (M : Mk0 X.K C) (hg : Gl X x) (hm : X.mg x = some (.ref C)) (hdb : (x == ("__debug__" : Str)) = false := by decide) : PE X (.Call (.Name x p) [] [] pos) (tNew C) := by
  constructor
  intro pins s σ H Q I want
  apply wpAny_Call_Name_kw
  refine ld_glob I hg hm ?_ hdb
  exact PySem.W.callWith_K0 I.kIn M.kp (run_new M I want)
variable {ca : Cl → Addr} {Γ : List Md}
/-- k() -/
theorem pd_newO (k : Cl) (M : Mk0 X.K (ca k)) (hm : X.mg x = some (.ref (ca k))) (hg : Gl X x := by rfl) (hdb : (x == ("__debug__" : Str)) = false := by decide) :
    PDN X ca Γ (.Call (.Name x p) [] [] pos) (dC (.obj k [])) := by
  refine ⟨_, pe_new M hg hm hdb, fun B S0 MM L σ H ρ E d hd Q kk a dx ha hdx hne => ?_⟩
  cases hd
  have n1 : upd H dx (.own a) a = none := by rw [upd_ne (fun z => hne z.symm)]; exact ha
  have ex : Ex H (upd (upd H dx (.own a)) a (.ins (ca k) dx [])) := (Ex.new hdx).trans (Ex.new n1)
  refine kk a _ ex ha (.obj (c := ⟨X.K, ca⟩) (k := k) (dx := dx) (vs := []) (fs := []) ?_ .nil)
  rw [upd_same, List.zip_nil_right]
end
end DL

/-! DL: isinstance of own classes, heirs too. -/
namespace DL
open PySem PySem.Spec PyProof.Rows L2
/-- who is an heir of whom -/
def heirB (k' k : Cl) : Bool := decide (k' = k) || (decide (k = .Hand) && (decide (k' = .Free) || decide (k' = .Keeper)))
/-- of the classes l each one is asked whether it is of k -/
def kitsB (K : PySem.W.Frag) (ca : Cl → Addr) (l : List Cl) (k : Cl) : Bool := l.all fun k' => decide (PySem.W.kitOne K (.ref (ca k')) (.ref (ca k)) = some (heirB k' k))
theorem kitsB_ok {K : PySem.W.Frag} {ca : Cl → Addr} {l : List Cl} {k : Cl} (h : kitsB K ca l k = true) : ∀ k' ∈ l, PySem.W.kitOne K (.ref (ca k')) (.ref (ca k)) = some (heirB k' k) := fun k' hk => of_decide_eq_true (List.all_eq_true.mp h k' hk)
theorem call_isI {X : Cx} {ca : Cl → Addr} {l : List Cl} {k : Cl} (hC : ∀ k' ∈ l, C8.InsC X.K (ca k')) (hk : ∀ k' ∈ l, PySem.W.kitOne X.K (.ref (ca k')) (.ref (ca k)) = some (heirB k' k)) :
    CallR X (.builtin "isinstance") (fun xs H Q => ∃ k' ∈ l, ∃ b dx fs, xs = [.ref b, .ref (ca k)] ∧ H b = some (.ins (ca k') dx fs) ∧ Q (.bl (heirB k' k)) H) := by
  intro pins s σ H xs us Q I r h
  obtain ⟨k', hl, b, dx, fs, rfl, hb, q⟩ := h
  obtain ⟨u, w', rfl, ru, rw'⟩ := vals2 r
  cases rw'
  have c := hC k' hl
  exact isinst_ok I ru (TyOf.ins hb c.cl c.ha c.hn c.htk c.hm) (hk k' hl) fun tk => ⟨.bl _, H, I.tok _, rfl, q⟩
def gIsI (l : List Cl) (k : Cl) (a : D) : Option D := match a with
  | .obj k' _ => if k' ∈ l then some (.bl (heirB k' k)) else none
  | _ => none
section
variable {X : Cx} {ca : Cl → Addr} {Γ : List Md} {pos p : Pos} {a : Expr} {ma : Vm} {fa : DFn}
theorem pd_isI (k : Cl) (l : List Cl) {y : Str} {p2 : Pos} (hC : ∀ k' ∈ l, C8.InsC X.K (ca k')) (hk : ∀ k' ∈ l, PySem.W.kitOne X.K (.ref (ca k')) (.ref (ca k)) = some (heirB k' k)) (ha : PDE X ca Γ a ma fa) (hm : X.mg "isinstance" = none) (hy : X.mg y = some (.ref (ca k))) (hg : Gl X "isinstance" := by rfl) (hgy : Gl X y := by rfl) (hdy : (y == ("__debug__" : Str)) = false := by decide)
    (he : starEach [a, .Name y p2] X.env = (false, eval a X.env) :: starEach [.Name y p2] X.env := by rfl) (he2 : starEach [.Name y p2] X.env = (false, eval (.Name y p2) X.env) :: starEach [] X.env := by rfl) (hpl : (backTo pos (starEach [.Name y p2] X.env)).any (·.1) = false := by rfl) :
    PDE X ca Γ (.Call (.Name "isinstance" p) [a, .Name y p2] [] pos) .s (d1 (gIsI l k) fa) := by
  obtain ⟨t, pa, q⟩ := ha
  refine ⟨_, pe_callB (call_isI hC hk) hg hm (by decide +kernel) (pa_cons pa (pa_cons (pe_glob hgy hy (v := .ref (ca k)) rfl hdy) pa_nil he2) he) (by decide) (by decide) he hpl, fun B S0 M L σ H ρ E d hd Q kk => ?_⟩
  obtain ⟨x, e1, hd⟩ := bind_some hd
  cases x with
  | obj k' fs =>
    obtain ⟨hin, hd2⟩ := ite_some (show (if k' ∈ l then some (D.bl (heirB k' k)) else none) = some d from hd)
    have hd2 := Option.some.inj hd2
    subst hd2
    refine q B S0 M L σ H ρ E _ e1 _ fun v H1 x1 rv => ?_
    have r1 := rv.rep (E.eb.trans x1)
    cases r1 with
    | obj h r => exact ⟨k', hin, _, _, _, rfl, h, kk _ H1 x1 (.bl _)⟩
  | _ => cases hd
end
end DL

/-! DL: plain laws of the data. -/
namespace DL
open PySem PySem.Spec PyProof.Rows L2
/-! ### good data: no bools, no dicts, no objects -/
def gd : Nat → D → Bool
  | _, .non => true
  | _, .int _ => true
  | _, .str _ => true
  | n + 1, .tup xs => xs.all (gd n)
  | n + 1, .lst xs => xs.all (gd n)
  | _, _ => false
theorem gd_mono : ∀ {n m : Nat} {d : D}, n ≤ m → gd n d = true → gd m d = true
  | _, _, .non, _, _ => by unfold gd; rfl
  | _, _, .int _, _, _ => by unfold gd; rfl
  | _, _, .str _, _, _ => by unfold gd; rfl
  | n + 1, m + 1, .tup xs, h, g => by
    unfold gd at g ⊢
    rw [List.all_eq_true] at g ⊢
    exact fun x hx => gd_mono (Nat.le_of_succ_le_succ h) (g x hx)
  | n + 1, m + 1, .lst xs, h, g => by
    unfold gd at g ⊢
    rw [List.all_eq_true] at g ⊢
    exact fun x hx => gd_mono (Nat.le_of_succ_le_succ h) (g x hx)
  | n + 1, 0, .tup xs, h, g => by omega
  | n + 1, 0, .lst xs, h, g => by omega
  | 0, _, .tup xs, h, g => by unfold gd at g; exact nomatch g
  | 0, _, .lst xs, h, g => by unfold gd at g; exact nomatch g
  | _, _, .bl _, _, g => by unfold gd at g; exact nomatch g
  | _, _, .scr _, _, g => by unfold gd at g; exact nomatch g
  | _, _, .dI _, _, g => by unfold gd at g; exact nomatch g
  | _, _, .dT _, _, g => by unfold gd at g; exact nomatch g
  | _, _, .dS _, _, g => by unfold gd at g; exact nomatch g
  | _, _, .obj _ _, _, g => by unfold gd at g; exact nomatch g
  | _, _, .cls _, _, g => by unfold gd at g; exact nomatch g
theorem plainAll_iff : ∀ {xs : List PyData}, PyData.plainAll xs = true ↔ ∀ x ∈ xs, x.plain = true
  | [] => by simp [PyData.plainAll]
  | x :: xs => by
    rw [PyData.plainAll, Bool.and_eq_true, plainAll_iff]
    simp
theorem depthAll_le : ∀ {xs : List PyData} {n : Nat}, (∀ x ∈ xs, x.depth ≤ n) → PyData.depthAll xs ≤ n
  | [], _, _ => by rw [PyData.depthAll]; exact Nat.zero_le _
  | x :: xs, n, h => by
    rw [PyData.depthAll]
    exact Nat.max_le.mpr ⟨h x (.head _), depthAll_le fun y hy => h y (.tail _ hy)⟩
theorem gd_plain : ∀ {n : Nat} {d : D}, gd n d = true → (toP d).plain = true ∧ (toP d).depth ≤ n
  | _, .non, _ => by rw [toP]; exact ⟨rfl, Nat.zero_le _⟩
  | _, .int _, _ => by rw [toP]; exact ⟨rfl, Nat.zero_le _⟩
  | _, .str _, _ => by rw [toP]; exact ⟨rfl, Nat.zero_le _⟩
  | n + 1, .tup xs, g => by
    unfold gd at g
    rw [List.all_eq_true] at g
    rw [toP, toPs_map, PyData.plain, PyData.depth]
    refine ⟨plainAll_iff.mpr fun x hx => ?_, Nat.succ_le_succ (depthAll_le fun x hx => ?_)⟩
    · obtain ⟨y, hy, rfl⟩ := List.mem_map.mp hx
      exact (gd_plain (g y hy)).1
    · obtain ⟨y, hy, rfl⟩ := List.mem_map.mp hx
      exact (gd_plain (g y hy)).2
  | n + 1, .lst xs, g => by
    unfold gd at g
    rw [List.all_eq_true] at g
    rw [toP, toPs_map, PyData.plain, PyData.depth]
    refine ⟨plainAll_iff.mpr fun x hx => ?_, Nat.succ_le_succ (depthAll_le fun x hx => ?_)⟩
    · obtain ⟨y, hy, rfl⟩ := List.mem_map.mp hx
      exact (gd_plain (g y hy)).1
    · obtain ⟨y, hy, rfl⟩ := List.mem_map.mp hx
      exact (gd_plain (g y hy)).2
  | 0, .tup xs, g => by unfold gd at g; exact nomatch g
  | 0, .lst xs, g => by unfold gd at g; exact nomatch g
  | _, .bl _, g => by unfold gd at g; exact nomatch g
  | _, .scr _, g => by unfold gd at g; exact nomatch g
  | _, .dI _, g => by unfold gd at g; exact nomatch g
  | _, .dT _, g => by unfold gd at g; exact nomatch g
  | _, .dS _, g => by unfold gd at g; exact nomatch g
  | _, .obj _ _, g => by unfold gd at g; exact nomatch g
  | _, .cls _, g => by unfold gd at g; exact nomatch g
theorem eqvAll_iff {R : D → D → Prop} : ∀ {xs ys : List D}, (∀ x ∈ xs, ∀ y ∈ ys, (PyData.eqv (toP x) (toP y) = true ↔ x = y)) → (PyData.eqvAll (toPs xs) (toPs ys) = true ↔ xs = ys)
  | [], [], _ => by simp [toPs, PyData.eqvAll]
  | [], _ :: _, _ => by simp [toPs, PyData.eqvAll]
  | _ :: _, [], _ => by simp [toPs, PyData.eqvAll]
  | x :: xs, y :: ys, h => by
    rw [toPs, toPs, PyData.eqvAll, Bool.and_eq_true, h x (.head _) y (.head _), eqvAll_iff (R := R) fun a ha b hb => h a (.tail _ ha) b (.tail _ hb)]
    simp
theorem gd_deq : ∀ {n : Nat} {a : D} {m : Nat} {b : D}, gd n a = true → gd m b = true → (PyData.eqv (toP a) (toP b) = true ↔ a = b) := by
  intro n
  induction n with
  | zero =>
    intro a m b ga gb
    cases a with
    | non => cases b <;> first | (simp [toP, PyData.eqv]; done) | (cases m <;> exact nomatch gb)
    | int i => cases b <;> first | (simp [toP, PyData.eqv]; done) | (cases m <;> exact nomatch gb)
    | str x => cases b <;> first | (simp [toP, PyData.eqv]; done) | (cases m <;> exact nomatch gb)
    | _ => exact nomatch ga
  | succ n ih =>
    intro a m b ga gb
    cases a with
    | non => cases b <;> first | (simp [toP, PyData.eqv]; done) | (cases m <;> exact nomatch gb)
    | int i => cases b <;> first | (simp [toP, PyData.eqv]; done) | (cases m <;> exact nomatch gb)
    | str x => cases b <;> first | (simp [toP, PyData.eqv]; done) | (cases m <;> exact nomatch gb)
    | tup xs =>
      cases b with
      | tup ys =>
        cases m with
        | zero => exact nomatch gb
        | succ m =>
          unfold gd at ga gb
          rw [List.all_eq_true] at ga gb
          rw [toP, toP, PyData.eqv, eqvAll_iff (R := fun _ _ => True) fun x hx y hy => ih (ga x hx) (gb y hy)]
          simp
      | _ => first | (simp [toP, PyData.eqv]; done) | (cases m <;> exact nomatch gb)
    | lst xs =>
      cases b with
      | lst ys =>
        cases m with
        | zero => exact nomatch gb
        | succ m =>
          unfold gd at ga gb
          rw [List.all_eq_true] at ga gb
          rw [toP, toP, PyData.eqv, eqvAll_iff (R := fun _ _ => True) fun x hx y hy => ih (ga x hx) (gb y hy)]
          simp
      | _ => first | (simp [toP, PyData.eqv]; done) | (cases m <;> exact nomatch gb)
    | _ => exact nomatch ga
/-! ### encodings -/
class Enc (α : Type) where
  enc : α → D
  dep : Nat
  good : ∀ x, gd dep (enc x) = true
  inj : ∀ x y, enc x = enc y → x = y
  small : dep ≤ 50
open Enc
instance : Enc Int := ⟨.int, 0, fun _ => rfl, fun _ _ h => D.int.inj h, by decide⟩
instance : Enc Str := ⟨.str, 0, fun _ => rfl, fun _ _ h => D.str.inj h, by decide⟩
theorem enc_int (i : Int) : (enc i : D) = .int i := rfl
/-- pairs -/
instance instPair : Enc (Int × Int) := ⟨fun p => .tup [.int p.1, .int p.2], 1, fun p => rfl, fun x y h => by
  obtain ⟨a, b⟩ := x
  obtain ⟨c, d⟩ := y
  simpa using h, by decide⟩
theorem enc_pair (a b : Int) : (enc (a, b) : D) = .tup [.int a, .int b] := rfl
theorem enc_pair' (p : Int × Int) : (enc p : D) = .tup [.int p.1, .int p.2] := rfl
theorem map_inj {α β : Type} {f : α → β} (h : ∀ x y, f x = f y → x = y) : ∀ {xs ys : List α}, xs.map f = ys.map f → xs = ys
  | [], [], _ => rfl
  | [], _ :: _, e => by simp at e
  | _ :: _, [], e => by simp at e
  | x :: xs, y :: ys, e => by
    simp only [List.map_cons, List.cons.injEq] at e
    rw [h x y e.1, map_inj h e.2]
def encL {α : Type} [Enc α] (xs : List α) : D := .lst (xs.map enc)
theorem gd_encL {α : Type} [Enc α] (xs : List α) : gd (dep α + 1) (encL xs) = true := by
  unfold encL gd
  rw [List.all_eq_true]
  intro x hx
  obtain ⟨y, _, rfl⟩ := List.mem_map.mp hx
  exact good y
instance instList : Enc (List Int) := ⟨encL, 1, gd_encL, fun x y h => map_inj Enc.inj (D.lst.inj h), by decide⟩
instance instListP : Enc (List (Int × Int)) := ⟨encL, 2, gd_encL, fun x y h => map_inj Enc.inj (D.lst.inj h), by decide⟩
instance instListL : Enc (List (List Int)) := ⟨encL, 2, gd_encL, fun x y h => map_inj Enc.inj (D.lst.inj h), by decide⟩
theorem encL_eq {α : Type} [Enc α] (xs : List α) : (.lst (xs.map enc) : D) = encL xs := rfl
theorem encL_map {α β : Type} [Enc β] (f : α → β) (g : α → D) (h : ∀ x, g x = enc (f x)) (xs : List α) : (.lst (xs.map g) : D) = encL (xs.map f) := by
  unfold encL
  rw [List.map_map, show g = enc ∘ f from funext h]
section
variable {α : Type} [Enc α]
theorem deq_enc [DecidableEq α] (x y : α) : deq (enc x) (enc y) = decide (x = y) := by
  unfold deq
  have h := gd_deq (good x) (good y)
  by_cases e : x = y
  · subst e
    rw [h.mpr rfl, decide_eq_true rfl]
  · rw [decide_eq_false e]
    cases q : PyData.eqv (toP (enc x)) (toP (enc y)) with
    | false => rfl
    | true => exact absurd (Enc.inj _ _ (h.mp q)) e
theorem okEq_gd {n m : Nat} {a b : D} (ha : gd n a = true) (hb : gd m b = true) (hn : n ≤ 60) : okEq a b = true := by
  unfold okEq
  rw [(gd_plain ha).1, (gd_plain hb).1]
  simp only [Bool.true_and, decide_eq_true_eq]
  exact Nat.le_trans (Nat.min_le_left _ _) (Nat.le_trans (gd_plain ha).2 hn)
theorem gEq_enc [DecidableEq α] (x y : α) : gEq (enc x) (enc y) = some (.bl (decide (x = y))) := by
  unfold gEq
  rw [if_pos (okEq_gd (good x) (good y) (Nat.le_trans (small (α := α)) (by decide))), deq_enc]
theorem gNe_enc [DecidableEq α] (x y : α) : gNe (enc x) (enc y) = some (.bl (!decide (x = y))) := by
  unfold gNe
  rw [if_pos (okEq_gd (good x) (good y) (Nat.le_trans (small (α := α)) (by decide))), deq_enc]
theorem gEq_encL [DecidableEq α] (x y : List α) : gEq (encL x) (encL y) = some (.bl (decide (x = y))) := by
  have h := gd_deq (gd_encL x) (gd_encL y)
  unfold gEq
  rw [if_pos (okEq_gd (gd_encL x) (gd_encL y) (Nat.succ_le_succ (Nat.le_trans (small (α := α)) (by decide))))]
  unfold deq
  by_cases e : x = y
  · subst e
    rw [h.mpr rfl, decide_eq_true rfl]
  · rw [decide_eq_false e]
    cases q : PyData.eqv (toP (encL x)) (toP (encL y)) with
    | false => rfl
    | true => exact absurd (map_inj Enc.inj (D.lst.inj (h.mp q))) e
theorem gNe_encL [DecidableEq α] (x y : List α) : gNe (encL x) (encL y) = some (.bl (!decide (x = y))) := by
  have h := gEq_encL x y
  unfold gEq at h
  unfold gNe
  split at h
  · rename_i c
    rw [if_pos c]
    have e := Option.some.inj h
    have e' := D.bl.inj e
    rw [e']
  · exact nomatch h
theorem any_enc [DecidableEq α] (x : α) : ∀ xs : List α, (xs.map enc).any (fun z => deq z (enc x)) = decide (x ∈ xs)
  | [] => rfl
  | y :: ys => by
    rw [List.map_cons, List.any_cons, deq_enc, any_enc x ys]
    by_cases e : x = y
    · subst e; simp
    · simp [e, Ne.symm e]
theorem plainL (xs : List α) : PyData.plainAll (toPs (xs.map enc)) = true := by
  rw [toPs_map]
  exact plainAll_iff.mpr fun d hd => by
    obtain ⟨y, hy, rfl⟩ := List.mem_map.mp hd
    obtain ⟨z, _, rfl⟩ := List.mem_map.mp hy
    exact (gd_plain (good z)).1
theorem gIn_enc [DecidableEq α] (x : α) (xs : List α) : gIn (enc x) (encL xs) = some (.bl (decide (x ∈ xs))) := by
  have h := gd_plain (good x)
  show ((some (xs.map enc)).bind fun ds => if (toP (enc x)).plain = true ∧ PyData.plainAll (toPs ds) = true ∧ (toP (enc x)).depth ≤ 60 then some (D.bl (ds.any fun z => deq z (enc x))) else none) = _
  rw [Option.bind_some, if_pos ⟨h.1, plainL xs, Nat.le_trans h.2 (Nat.le_trans (small (α := α)) (by decide))⟩, any_enc]
theorem gNotIn_enc [DecidableEq α] (x : α) (xs : List α) : gNotIn (enc x) (encL xs) = some (.bl (!decide (x ∈ xs))) := by
  have h := gd_plain (good x)
  show ((some (xs.map enc)).bind fun ds => if (toP (enc x)).plain = true ∧ PyData.plainAll (toPs ds) = true ∧ (toP (enc x)).depth ≤ 60 then some (D.bl (!ds.any fun z => deq z (enc x))) else none) = _
  rw [Option.bind_some, if_pos ⟨h.1, plainL xs, Nat.le_trans h.2 (Nat.le_trans (small (α := α)) (by decide))⟩, any_enc]
end
theorem gEq_int (i j : Int) : gEq (.int i) (.int j) = some (.bl (decide (i = j))) := gEq_enc i j
theorem gNe_int (i j : Int) : gNe (.int i) (.int j) = some (.bl (!decide (i = j))) := gNe_enc i j
/-! ### sorting -/
class EncS (α : Type) extends Enc α where
  le : α → α → Bool
  le_eq : ∀ x y, leD (enc x) (enc y) = le x y
  alk : ∀ x y, PySem.W.alike (toP (enc x)) (toP (enc y)) = true
  tupc : (∀ x, isTupC (toP (enc x)) = true) ∨ (∀ x, isOther (toP (enc x)) = true)
theorem lexc {O : PyProof.Rows.KeyOrd} {x y : O.α} {r t : List O.α} : PyProof.Rows.lexLt O (x :: r) (y :: t) = (O.blt x y || (!O.blt y x && PyProof.Rows.lexLt O r t)) := by
  first | rfl | (rw [PyProof.Rows.lexLt])
theorem leD_def (a b : D) : leD a b = !PyProof.Rows.lexLt PyProof.Rows.itemOrd (PySem.W.keyToks (toP b)) (PySem.W.keyToks (toP a)) := rfl
theorem leD_int (i j : Int) : leD (.int i) (.int j) = decide (i ≤ j) := by
  rw [leD_def, toP, toP, PySem.W.keyToks, PySem.W.keyToks]
  show (!(decide (j < i) || (!decide (i < j) && false))) = _
  by_cases h : i ≤ j
  · simp [h, Int.not_lt.mpr h]
  · have h' := Int.not_le.mp h
    simp [h, h']
def leP (p q : Int × Int) : Bool := decide (p.1 < q.1) || (decide (p.1 = q.1) && decide (p.2 ≤ q.2))
theorem leD_pair (p q : Int × Int) : leD (enc p) (enc q) = leP p q := by
  obtain ⟨a, b⟩ := p
  obtain ⟨c, d⟩ := q
  show (!PyProof.Rows.lexLt PyProof.Rows.itemOrd [.inl 1, .inl c, .inl 1, .inl d, .inl 0] [.inl 1, .inl a, .inl 1, .inl b, .inl 0]) = leP (a, b) (c, d)
  show (!(decide ((1 : Int) < 1) || (!decide ((1 : Int) < 1) && (decide (c < a) || (!decide (a < c) && (decide ((1 : Int) < 1) || (!decide ((1 : Int) < 1) && (decide (d < b) || (!decide (b < d) && (decide ((0 : Int) < 0) || (!decide ((0 : Int) < 0) && false)))))))))))  = _
  unfold leP
  rcases Int.lt_trichotomy a c with h | h | h
  · have : ¬ c < a := by omega
    have : ¬ a = c := by omega
    simp [*]
  · subst h
    by_cases h2 : b ≤ d
    · have : ¬ d < b := by omega
      simp [*]
    · have : d < b := by omega
      simp [*]
  · have : ¬ a < c := by omega
    have : ¬ a = c := by omega
    simp [*]
instance : EncS Int := { le := fun i j => decide (i ≤ j), le_eq := leD_int, alk := fun x y => rfl, tupc := .inr fun x => rfl }
instance : EncS (Int × Int) := { le := leP, le_eq := leD_pair, alk := fun x y => rfl, tupc := .inl fun x => rfl }
section
variable {α : Type} [EncS α]
theorem okSort_enc (xs : List α) (h : xs.length ≤ 100000) : okSort (xs.map enc) = true := by
  unfold okSort
  simp only [Bool.and_eq_true, Bool.or_eq_true, List.all_eq_true, decide_eq_true_eq, List.mem_map, forall_exists_index, and_imp, forall_apply_eq_imp_iff₂, List.length_map]
  refine ⟨⟨⟨⟨fun x _ y _ => EncS.alk x y, ?_⟩, fun x _ => Nat.le_trans (gd_plain (good x)).2 (Nat.le_trans (small (α := α)) (by decide))⟩, fun x _ => (gd_plain (good x)).1⟩, h⟩
  rcases EncS.tupc (α := α) with t | t
  · exact .inl fun x _ => t x
  · exact .inr fun x _ => t x
def sortE (xs : List α) : List α := xs.mergeSort EncS.le
theorem gSort_enc (xs : List α) (h : xs.length ≤ 100000) : gSort (encL xs) = some ((sortE xs).map enc) := by
  show ((some (xs.map enc)).bind fun ds => if okSort ds = true then some (sortD ds) else none) = _
  rw [Option.bind_some, if_pos (okSort_enc xs h)]
  unfold sortD sortE
  rw [List.map_mergeSort (r := EncS.le) (s := leD) (f := enc) fun a _ b _ => (EncS.le_eq a b).symm]
end
/-! ### loops -/
def rngI (lo : Int) (n : Nat) : List Int := (List.range n).map fun (k : Nat) => lo + k
theorem rng_eq (lo : Int) (n : Nat) : rng lo n = (rngI lo n).map .int := by
  unfold rng rngI
  rw [List.map_map]
  rfl
theorem rngI_length (lo : Int) (n : Nat) : (rngI lo n).length = n := by simp [rngI]
theorem mem_rngI {lo x : Int} {n : Nat} : x ∈ rngI lo n ↔ lo ≤ x ∧ x < lo + n := by
  unfold rngI
  rw [List.mem_map]
  constructor
  · rintro ⟨k, hk, rfl⟩
    rw [List.mem_range] at hk
    omega
  · rintro ⟨h1, h2⟩
    exact ⟨(x - lo).toNat, by rw [List.mem_range]; omega, by omega⟩
/-- a loop that goes on to its end: P of the items behind and the state -/
theorem forD_nx {u : D → List D → Option (List D)} {F : SFn} (P : List D → List D → Prop) {all : List D} (step : ∀ done d rest ρ, done ++ d :: rest = all → P done ρ → ∃ ρ1 ρ', u d ρ = some ρ1 ∧ (F ρ1 = .nx ρ' ∨ F ρ1 = .cont ρ') ∧ P (done ++ [d]) ρ') :
    ∀ (rest done : List D) (ρ : List D), done ++ rest = all → P done ρ → ∃ ρ', forD u F rest ρ = .nx ρ' ∧ P all ρ'
  | [], done, ρ, e, h => ⟨ρ, rfl, by rw [List.append_nil] at e; rw [← e]; exact h⟩
  | d :: rest, done, ρ, e, h => by
    obtain ⟨ρ1, ρ', h1, h2, h3⟩ := step done d rest ρ e h
    obtain ⟨ρ2, g1, g2⟩ := forD_nx P step rest (done ++ [d]) ρ' (by rw [List.append_assoc]; exact e) h3
    refine ⟨ρ2, ?_, g2⟩
    unfold forD
    rw [h1]
    rcases h2 with h2 | h2
    · show (match F ρ1 with | .nx ρ' => forD u F rest ρ' | .cont ρ' => forD u F rest ρ' | .brk ρ' => .nx ρ' | o => o) = _
      rw [h2]
      exact g1
    · show (match F ρ1 with | .nx ρ' => forD u F rest ρ' | .cont ρ' => forD u F rest ρ' | .brk ρ' => .nx ρ' | o => o) = _
      rw [h2]
      exact g1
/-- over encoded items -/
theorem forD_map {α : Type} {en : α → D} {u : D → List D → Option (List D)} {F : SFn} (P : List α → List D → Prop) {all : List α} {ρ : List D} (h0 : P [] ρ)
    (step : ∀ done x rest ρ, done ++ x :: rest = all → P done ρ → ∃ ρ1 ρ', u (en x) ρ = some ρ1 ∧ (F ρ1 = .nx ρ' ∨ F ρ1 = .cont ρ') ∧ P (done ++ [x]) ρ') : ∃ ρ', forD u F (all.map en) ρ = .nx ρ' ∧ P all ρ' := by
  have main : ∀ (rest done : List α) (ρ : List D), done ++ rest = all → P done ρ → ∃ ρ', forD u F (rest.map en) ρ = .nx ρ' ∧ P all ρ' := by
    intro rest
    induction rest with
    | nil => intro done ρ e h; exact ⟨ρ, rfl, by rw [List.append_nil] at e; rw [← e]; exact h⟩
    | cons x rest ih =>
      intro done ρ e h
      obtain ⟨ρ1, ρ', h1, h2, h3⟩ := step done x rest ρ e h
      obtain ⟨ρ2, g1, g2⟩ := ih (done ++ [x]) ρ' (by rw [List.append_assoc]; exact e) h3
      refine ⟨ρ2, ?_, g2⟩
      rw [List.map_cons]
      unfold forD
      rw [h1]
      rcases h2 with h2 | h2
      · show (match F ρ1 with | .nx ρ' => forD u F (rest.map en) ρ' | .cont ρ' => forD u F (rest.map en) ρ' | .brk ρ' => .nx ρ' | o => o) = _
        rw [h2]
        exact g1
      · show (match F ρ1 with | .nx ρ' => forD u F (rest.map en) ρ' | .cont ρ' => forD u F (rest.map en) ρ' | .brk ρ' => .nx ρ' | o => o) = _
        rw [h2]
        exact g1
  exact main all [] ρ rfl h0
/-- over a range -/
theorem forD_rng {u : D → List D → Option (List D)} {F : SFn} (P : Nat → List D → Prop) {lo : Int} {n : Nat} {ρ : List D} (h0 : P 0 ρ)
    (step : ∀ (i : Nat) ρ, i < n → P i ρ → ∃ ρ1 ρ', u (.int (lo + i)) ρ = some ρ1 ∧ (F ρ1 = .nx ρ' ∨ F ρ1 = .cont ρ') ∧ P (i + 1) ρ') : ∃ ρ', forD u F (rng lo n) ρ = .nx ρ' ∧ P n ρ' := by
  have q := forD_map (en := fun (k : Nat) => D.int (lo + k)) (u := u) (F := F) (fun done ρ => P done.length ρ) (all := List.range n) (ρ := ρ) h0 fun done x rest ρ e h => by
    have hx : done.length = x := by
      have : (done ++ x :: rest)[done.length]? = some x := by simp
      rw [e, List.getElem?_range (by have := congrArg List.length e; simp at this; omega)] at this
      simpa using this
    have hn : x < n := by
      have := congrArg List.length e
      simp at this
      omega
    obtain ⟨ρ1, ρ', h1, h2, h3⟩ := step x ρ hn (by rw [← hx]; exact h)
    exact ⟨ρ1, ρ', h1, h2, by rw [List.length_append, hx]; exact h3⟩
  rw [List.length_range] at q
  exact q
/-- a comprehension over encoded items -/
theorem lcD_map {α β : Type} {en : α → D} {en' : β → D} {u : D → List D → Option (List D)} {t : List D → Option Bool} {f : DFn} {ρ : List D} (p : α → Bool) (g : α → β) : ∀ {xs : List α}, (∀ x ∈ xs, ∃ ρ1, u (en x) ρ = some ρ1 ∧ t ρ1 = some (p x) ∧ (p x = true → f ρ1 = some (en' (g x)))) →
    lcD u t f ρ (xs.map en) = some (((xs.filter p).map g).map en')
  | [], _ => rfl
  | x :: xs, h => by
    obtain ⟨ρ1, h1, h2, h3⟩ := h x (.head _)
    rw [List.map_cons]
    unfold lcD
    rw [h1, Option.bind_some, h2, Option.bind_some]
    have ih := lcD_map (en' := en') p g fun y hy => h y (.tail _ hy)
    cases q : p x with
    | true =>
      rw [if_pos rfl, h3 q, Option.bind_some, ih, List.filter_cons, if_pos q]
      rfl
    | false =>
      rw [if_neg (by decide), ih, List.filter_cons, if_neg (by rw [q]; decide)]
end DL

/-! DL: plain laws of lists. -/
namespace DL
open PySem PySem.Spec PyProof.Rows L2 Enc
theorem atI_nn {α : Type} {xs : List α} {i : Int} (h : 0 ≤ i) : atI xs i = xs[i.toNat]? := by
  unfold atI ixN
  rw [if_pos h]
  by_cases h1 : i < xs.length
  · rw [if_pos h1, Option.bind_some]
  · rw [if_neg h1, Option.bind_none, List.getElem?_eq_none (by omega)]
theorem atI_neg {α : Type} {xs : List α} {i : Int} (h : i < 0) (h2 : 0 ≤ i + xs.length) : atI xs i = xs[(i + xs.length).toNat]? := by
  unfold atI ixN
  rw [if_neg (by omega)]
  split
  · rw [Option.bind_some]
  · omega
section
variable {α : Type} {en : α → D}
theorem gIx_nn {xs : List α} {i : Int} {x : α} (h : 0 ≤ i) (hx : xs[i.toNat]? = some x) : gIx (.lst (xs.map en)) (.int i) = some (en x) := by
  show (some (xs.map en)).bind (fun ds => atI ds i) = _
  rw [Option.bind_some, atI_nn h, List.getElem?_map, hx]
  rfl
theorem gIx_neg {xs : List α} {i : Int} {x : α} (h : i < 0) (h2 : 0 ≤ i + xs.length) (hx : xs[(i + xs.length).toNat]? = some x) : gIx (.lst (xs.map en)) (.int i) = some (en x) := by
  show (some (xs.map en)).bind (fun ds => atI ds i) = _
  rw [Option.bind_some, atI_neg h (by rw [List.length_map]; exact h2), List.getElem?_map, List.length_map, hx]
  rfl
theorem gIx_scr {ns : List Int} {i : Int} {x : Int} (h : 0 ≤ i) (hx : ns[i.toNat]? = some x) : gIx (.scr ns) (.int i) = some (.int x) := gIx_nn (en := D.int) h hx
theorem sIx_nn {n d : Nat} {k : Int} (h : 0 ≤ k) : HT.sIx n d (some k) = min k.toNat n := by
  show (if k < 0 then (k + (n : Int)).toNat else min k.toNat n) = _
  rw [if_neg (by omega)]
theorem cut_lo {xs : List α} {k : Int} (h : 0 ≤ k) : cutD (xs.map en) none (some k) = (xs.take k.toNat).map en := by
  unfold cutD
  rw [sIx_nn h, HT.sIx_none, Nat.sub_zero, List.drop_zero, List.length_map, ← List.map_take, List.take_eq_take_iff.mpr]
  omega
theorem cut_hi {xs : List α} {k : Int} (h : 0 ≤ k) : cutD (xs.map en) (some k) none = (xs.drop k.toNat).map en := by
  unfold cutD
  rw [sIx_nn h, HT.sIx_none, List.length_map, ← List.map_drop, ← List.map_take]
  congr 1
  by_cases hk : k.toNat ≤ xs.length
  · rw [Nat.min_eq_left hk, List.take_of_length_le]
    rw [List.length_drop]
    exact Nat.le_refl _
  · rw [Nat.min_eq_right (by omega), List.drop_eq_nil_of_le (Nat.le_refl _), List.drop_eq_nil_of_le (by omega)]
    simp
end
end DL
namespace DL
open PySem PySem.Spec PyProof.Rows L2 Enc
/-- over enumerated items -/
theorem forD_enum {α : Type} {en : α → D} {u : D → List D → Option (List D)} {F : SFn} (P : Nat → List D → Prop) {xs : List α} {ρ : List D} (h0 : P 0 ρ)
    (step : ∀ (i : Nat) x ρ, xs[i]? = some x → P i ρ → ∃ ρ1 ρ', u (.tup [.int (i : Int), en x]) ρ = some ρ1 ∧ (F ρ1 = .nx ρ' ∨ F ρ1 = .cont ρ') ∧ P (i + 1) ρ') : ∃ ρ', forD u F (enumFrom 0 (xs.map en)) ρ = .nx ρ' ∧ P xs.length ρ' := by
  have main : ∀ (rest : List α) (i : Nat) (ρ : List D), xs.drop i = rest → i ≤ xs.length → P i ρ → ∃ ρ', forD u F (enumFrom i (rest.map en)) ρ = .nx ρ' ∧ P xs.length ρ' := by
    intro rest
    induction rest with
    | nil =>
      intro i ρ e hi h
      have := congrArg List.length e
      rw [List.length_drop] at this
      have e2 : i = xs.length := by simp at this; omega
      subst e2
      exact ⟨ρ, rfl, h⟩
    | cons x rest ih =>
      intro i ρ e hi h
      have hx : xs[i]? = some x := by
        have : (xs.drop i)[0]? = some x := by rw [e]; rfl
        rw [List.getElem?_drop] at this
        exact this
      obtain ⟨hlt, _⟩ := List.getElem?_eq_some_iff.mp hx
      obtain ⟨ρ1, ρ', h1, h2, h3⟩ := step i x ρ hx h
      have ed : xs.drop (i + 1) = rest := by
        rw [← List.tail_drop, e]
        rfl
      obtain ⟨ρ2, g1, g2⟩ := ih (i + 1) ρ' ed hlt h3
      refine ⟨ρ2, ?_, g2⟩
      rw [List.map_cons]
      unfold enumFrom forD
      rw [h1]
      rcases h2 with h2 | h2
      · show (match F ρ1 with | .nx ρ' => forD u F (enumFrom (i + 1) (rest.map en)) ρ' | .cont ρ' => forD u F (enumFrom (i + 1) (rest.map en)) ρ' | .brk ρ' => .nx ρ' | o => o) = _
        rw [h2]
        exact g1
      · show (match F ρ1 with | .nx ρ' => forD u F (enumFrom (i + 1) (rest.map en)) ρ' | .cont ρ' => forD u F (enumFrom (i + 1) (rest.map en)) ρ' | .brk ρ' => .nx ρ' | o => o) = _
        rw [h2]
        exact g1
  exact main xs 0 ρ rfl (Nat.zero_le _) h0
theorem sortE_pw {α : Type} [EncS α] (xs : List α) : (sortE xs).Pairwise (fun a b => EncS.le a b = true) := by
  have t := PySem.W.sortLe_total (PyProof.Rows.listOrd PyProof.Rows.itemOrd) false fun b : α => PySem.W.keyToks (toP (enc b))
  refine List.pairwise_mergeSort (fun a b c h1 h2 => ?_) (fun a b => ?_) xs
  · rw [← EncS.le_eq] at h1 h2 ⊢
    exact t.trans a b c h1 h2
  · rw [Bool.or_eq_true, ← EncS.le_eq, ← EncS.le_eq]
    exact t.total a b
theorem sortE_perm {α : Type} [EncS α] (xs : List α) : (sortE xs).Perm xs := List.mergeSort_perm _ _
/-- a sorted list is what sorting gives -/
theorem sortE_of {α : Type} [EncS α] (anti : ∀ a b : α, EncS.le a b = true → EncS.le b a = true → a = b) {xs ys : List α} (h : xs.Pairwise (fun a b => EncS.le a b = true)) (p : xs.Perm ys) : xs = sortE ys :=
  List.Perm.eq_of_pairwise (le := fun a b => EncS.le a b = true) (fun a b _ _ => anti a b) h (sortE_pw ys) (p.trans (sortE_perm ys).symm)
theorem anti_int (a b : Int) (h1 : (EncS.le a b : Bool) = true) (h2 : (EncS.le b a : Bool) = true) : a = b := by
  have h1' : a ≤ b := of_decide_eq_true h1
  have h2' : b ≤ a := of_decide_eq_true h2
  omega
theorem perm_sorted_eq {α : Type} {le : α → α → Bool} (anti : ∀ a b, le a b = true → le b a = true → a = b) : ∀ {xs ys : List α}, xs.Pairwise (fun a b => le a b = true) → ys.Pairwise (fun a b => le a b = true) → xs.Perm ys → xs = ys
  | [], ys, _, _, p => (List.Perm.nil_eq p)
  | x :: xs, [], _, _, p => (List.Perm.eq_nil p)
  | x :: xs, y :: ys, hx, hy, p => by
    obtain ⟨hx1, hx2⟩ := List.pairwise_cons.mp hx
    obtain ⟨hy1, hy2⟩ := List.pairwise_cons.mp hy
    have e : x = y := by
      have m1 : x ∈ y :: ys := p.mem_iff.mp (.head _)
      have m2 : y ∈ x :: xs := p.mem_iff.mpr (.head _)
      rcases List.mem_cons.mp m1 with m1 | m1
      · exact m1
      · rcases List.mem_cons.mp m2 with m2 | m2
        · exact m2.symm
        · exact anti _ _ (hx1 _ m2) (hy1 _ m1)
    subst e
    rw [perm_sorted_eq anti hx2 hy2 (p.cons_inv)]
end DL

/-! DL: the combinators, applied. -/
namespace DL
open PySem PySem.Spec PyProof.Rows L2 Enc
def seqK (o : Out) (G : SFn) : Out := match o with
  | .nx ρ' => G ρ'
  | o => o
def asgK (i : Nat) (o : Option D) (ρ : List D) : Out := match o with
  | some d => .nx (ρ.set i d)
  | none => .bad
def retK (o : Option D) : Out := match o with
  | some d => .ret d
  | none => .bad
def ifK (o : Option Bool) (F G : SFn) (ρ : List D) : Out := match o with
  | some true => F ρ
  | some false => G ρ
  | none => .bad
def dropK (o : Option D) (ρ : List D) : Out := match o with
  | some _ => .nx ρ
  | none => .bad
def appK (i : Nat) (o x : Option D) (ρ : List D) : Out := match o, x with
  | some d, some (.lst ds) => if ds.length < 100000 then .nx (ρ.set i (.lst (ds ++ [d]))) else .bad
  | _, _ => .bad
def extK (i : Nat) (o x : Option D) (ρ : List D) : Out := match o, x with
  | some (.lst es), some (.lst ds) => if ds.length + es.length ≤ 100000 then .nx (ρ.set i (.lst (ds ++ es))) else .bad
  | _, _ => .bad
def clearK (i : Nat) (x : Option D) (ρ : List D) : Out := match x with
  | some (.lst _) => .nx (ρ.set i (.lst []))
  | _ => .bad
def forK (o : Option (List D)) (u : D → List D → Option (List D)) (F : SFn) (ρ : List D) : Out := match o with
  | some ds => forD u F ds ρ
  | none => .bad
def unpK (o : Option (List D)) : Out := match o with
  | some ρ' => .nx ρ'
  | none => .bad
def fstK (i : Nat) (k : Cl) (j : Nat) (o x : Option D) (ρ : List D) : Out := match o, x with
  | some d, some (.obj k' fs) => if k' = k ∧ fs.length = j then .nx (ρ.set i (.obj k (fs ++ [d]))) else .bad
  | _, _ => .bad
def raiK (e : Cl) (o : Option D) (ρ : List D) : Out := match o with
  | some d => .exc e d ρ
  | none => .bad
def runK (rf : Bool) (o : Out) : Rs := match o with
  | .nx _ => if rf = true then .bad else .ok .non
  | .ret d => .ok d
  | .exc e d _ => .exc e d
  | _ => .bad
def runIK (o : Out) : Rs := match o with
  | .nx ρ => (match ρ[0]? with
    | some d => .ok d
    | none => .bad)
  | .exc e d _ => .exc e d
  | _ => .bad
def fldK (k : Cl) (i : Nat) (d : D) : Option D := match d with
  | .obj k' fs => if k' = k then fs[i]? else none
  | _ => none
def cutK (a : D) (l u : Option Int) : Option D := match a with
  | .lst ds => some (.lst (cutD ds l u))
  | .scr ns => some (.lst (cutD (ns.map .int) l u))
  | _ => none
def rng1K (d : D) : Option (List D) := match d with
  | .int j => if -(2 ^ 62) ≤ j ∧ j < 2 ^ 62 then some (rng 0 j.toNat) else none
  | _ => none
def rng2K (d d' : D) : Option (List D) := match d, d' with
  | .int i, .int j => if -(2 ^ 62) ≤ i ∧ i < 2 ^ 62 ∧ -(2 ^ 62) ≤ j ∧ j < 2 ^ 62 then some (rng i (j - i).toNat) else none
  | _, _ => none
section
variable {f g fa fb fc fo : DFn} {t t' : List D → Option Bool} {F G : SFn} {ρ : List D} {i j : Nat} {d d' : D} {ds es : List D} {k : Cl} {fs gs : List D → Option (List D)} {u : D → List D → Option (List D)} {w : List D → List D → Option (List D)} {fi : List D → Option (List D)} {G1 : List D → Rs} {dfl : List D}
theorem bindS {α β : Type} {a : α} {f : α → Option β} : (some a).bind f = f a := (rfl)
theorem mapS {α β : Type} {a : α} {f : α → β} : (some a).map f = some (f a) := (rfl)
theorem rng_len (lo : Int) (n : Nat) : (rng lo n).length = n := by rw [rng_eq, List.length_map, rngI_length]
theorem dSeq_ap : dSeq F G ρ = seqK (F ρ) G := (rfl)
theorem seqK_nx : seqK (.nx ρ) G = G ρ := (rfl)
theorem seqK_ret : seqK (.ret d) G = .ret d := (rfl)
theorem seqK_cont : seqK (.cont ρ) G = .cont ρ := (rfl)
theorem seqK_brk : seqK (.brk ρ) G = .brk ρ := (rfl)
theorem seqK_exc : seqK (.exc k d ρ) G = .exc k d ρ := (rfl)
theorem dNext_ap : dNext ρ = .nx ρ := (rfl)
theorem dAsg_ap : dAsg i f ρ = asgK i (f ρ) ρ := (rfl)
theorem asgK_some : asgK i (some d) ρ = .nx (ρ.set i d) := (rfl)
theorem dRet_ap : dRet f ρ = retK (f ρ) := (rfl)
theorem retK_some : retK (some d) = .ret d := (rfl)
theorem dIfS_ap : dIfS t F G ρ = ifK (t ρ) F G ρ := (rfl)
theorem ifK_true : ifK (some true) F G ρ = F ρ := (rfl)
theorem ifK_false : ifK (some false) F G ρ = G ρ := (rfl)
theorem dDrop_ap : dDrop f ρ = dropK (f ρ) ρ := (rfl)
theorem dropK_some : dropK (some d) ρ = .nx ρ := (rfl)
theorem dApp_ap : dApp i f ρ = appK i (f ρ) ρ[i]? ρ := (rfl)
theorem appK_some (h : ds.length < 100000) : appK i (some d) (some (.lst ds)) ρ = .nx (ρ.set i (.lst (ds ++ [d]))) := if_pos h
theorem dExt_ap : dExt i f ρ = extK i (f ρ) ρ[i]? ρ := (rfl)
theorem extK_some (h : ds.length + es.length ≤ 100000) : extK i (some (.lst es)) (some (.lst ds)) ρ = .nx (ρ.set i (.lst (ds ++ es))) := if_pos h
theorem dClear_ap : dClear i ρ = clearK i ρ[i]? ρ := (rfl)
theorem clearK_some : clearK i (some (.lst ds)) ρ = .nx (ρ.set i (.lst [])) := (rfl)
theorem dFor_ap : dFor fi u F ρ = forK (fi ρ) u F ρ := (rfl)
theorem forK_some : forK (some ds) u F ρ = forD u F ds ρ := (rfl)
theorem dUnpk_ap : dUnpk f u ρ = unpK ((f ρ).bind fun d => u d ρ) := (rfl)
theorem unpK_some : unpK (some ds) = .nx ds := (rfl)
theorem dFst_ap : dFst i k j f ρ = fstK i k j (f ρ) ρ[i]? ρ := (rfl)
theorem fstK_some (h : ds.length = j) : fstK i k j (some d) (some (.obj k ds)) ρ = .nx (ρ.set i (.obj k (ds ++ [d]))) := if_pos ⟨rfl, h⟩
theorem dRaise_ap : dRaise k f ρ = raiK k (f ρ) ρ := (rfl)
theorem raiK_some : raiK k (some d) ρ = .exc k d ρ := (rfl)
theorem runF_ap {rf : Bool} {n : Nat} : runF rf n F ds = runK rf (F (ds ++ List.replicate n .non)) := (rfl)
theorem runK_ret {rf : Bool} : runK rf (.ret d) = .ok d := (rfl)
theorem runK_nx : runK false (.nx ρ) = .ok .non := (rfl)
theorem runK_exc {rf : Bool} : runK rf (.exc k d ρ) = .exc k d := (rfl)
theorem runI_ap {n : Nat} : runI k n F ds = runIK (F (.obj k [] :: (ds ++ List.replicate n .non))) := (rfl)
theorem runIK_nx : runIK (.nx (d :: ρ)) = .ok d := (rfl)
theorem runIK_exc : runIK (.exc k d ρ) = .exc k d := (rfl)
theorem dVar_ap : dVar i ρ = ρ[i]? := (rfl)
theorem dC_ap : dC d ρ = some d := (rfl)
theorem d1_ap {h : D → Option D} : d1 h f ρ = (f ρ).bind h := (rfl)
theorem d2_ap {h : D → D → Option D} : d2 h fa fb ρ = (fa ρ).bind fun a => (fb ρ).bind fun b => h a b := (rfl)
theorem tB_ap : DL.tB f ρ = (f ρ).bind asB := (rfl)
theorem asB_bl {b : Bool} : asB (.bl b) = some b := (rfl)
theorem tAndF_ap : tAndF t t' ρ = (t ρ).bind fun b => if b = true then t' ρ else some false := (rfl)
theorem tOrF_ap : tOrF t t' ρ = (t ρ).bind fun b => if b = true then some true else t' ρ := (rfl)
theorem tNotF_ap : tNotF t ρ = (t ρ).map (!·) := (rfl)
theorem dAnd_ap : dAnd f g ρ = (DL.tB f ρ).bind fun b => if b = true then g ρ else some (.bl false) := (rfl)
theorem dOr_ap : dOr f g ρ = (DL.tB f ρ).bind fun b => if b = true then some (.bl true) else g ρ := (rfl)
theorem dNot_ap : dNot f ρ = (DL.tB f ρ).map fun b => .bl (!b) := (rfl)
theorem dIf_ap : dIf t f g ρ = (t ρ).bind fun b => if b = true then f ρ else g ρ := (rfl)
theorem ite_and {a y : Bool} : (if a = true then some y else some false) = some (a && y) := by cases a <;> rfl
theorem ite_or {a y : Bool} : (if a = true then some true else some y) = some (a || y) := by cases a <;> rfl
theorem ite_andD {a y : Bool} : (if a = true then some (D.bl y) else some (D.bl false)) = some (.bl (a && y)) := by cases a <;> rfl
theorem ite_orD {a y : Bool} : (if a = true then some (D.bl true) else some (D.bl y)) = some (.bl (a || y)) := by cases a <;> rfl
theorem dNilA_ap : dNilA ρ = some [] := (rfl)
theorem dConsA_ap : dConsA f fs ρ = (f ρ).bind fun d => (fs ρ).map (d :: ·) := (rfl)
theorem dTup_ap : dTup fs ρ = (fs ρ).map .tup := (rfl)
theorem dLst_ap : dLst fs ρ = (fs ρ).map .lst := (rfl)
theorem dImm_ap : dImm f ρ = (f ρ).bind fun d => if flat d = true then some d else none := (rfl)
theorem oNone_ap : oNone ρ = some none := (rfl)
theorem oSome_ap : oSome f ρ = ((f ρ).bind asI).map some := (rfl)
theorem asI_int {n : Int} : asI (.int n) = some n := (rfl)
theorem dCut_ap {lo hi : List D → Option (Option Int)} : dCut f lo hi ρ = (f ρ).bind fun a => (lo ρ).bind fun l => (hi ρ).bind fun u => cutK a l u := (rfl)
theorem cutK_lst {l u : Option Int} : cutK (.lst ds) l u = some (.lst (cutD ds l u)) := (rfl)
theorem cutK_scr {l u : Option Int} {ns : List Int} : cutK (.scr ns) l u = some (.lst (cutD (ns.map .int) l u)) := (rfl)
theorem dFld_ap : dFld k i f ρ = (f ρ).bind (fldK k i) := (rfl)
theorem fldK_obj : fldK k i (.obj k ds) = ds[i]? := if_pos rfl
theorem dCall_ap {h : List D → Option D} : dCall h fs ρ = (fs ρ).bind h := (rfl)
theorem dCallN_ap {h : D → Option (List D)} : dCallN h f ρ = ((f ρ).bind h).map .lst := (rfl)
theorem dFun_ap : dFun G1 fs dfl ρ = (fs ρ).bind fun ds => okR (G1 (ds ++ dfl)) := (rfl)
theorem okR_ok : okR (.ok d) = some d := (rfl)
theorem dFunN_ap : dFunN G1 fs dfl ρ = (fs ρ).bind fun ds => okRN (G1 (ds ++ dfl)) := (rfl)
theorem okRN_lst : okRN (.ok (.lst ds)) = some (.lst ds) := (rfl)
theorem okRN_dI {kvs : List (Int × D)} : okRN (.ok (.dI kvs)) = some (.dI kvs) := (rfl)
theorem okRN_dT {kvs : List (List Int × D)} : okRN (.ok (.dT kvs)) = some (.dT kvs) := (rfl)
theorem dMethN_ap : dMethN k G1 fo fs dfl ρ = (fo ρ).bind fun o => if isObj k o = true then (fs ρ).bind fun ds => okRN (G1 (o :: (ds ++ dfl))) else none := (rfl)
theorem dMeth_ap : dMeth k G1 fo fs dfl ρ = (fo ρ).bind fun o => if isObj k o = true then (fs ρ).bind fun ds => okR (G1 (o :: (ds ++ dfl))) else none := (rfl)
theorem isObj_obj : isObj k (.obj k ds) = true := (decide_eq_true rfl)
theorem uName_ap : uName i d ρ = some (ρ.set i d) := (rfl)
theorem uNil_ap : uNil [] ρ = some ρ := (rfl)
theorem uCons_ap : uCons u w (d :: ds) ρ = (u d ρ).bind (w ds) := (rfl)
theorem uTup_ap : uTup w (.tup ds) ρ = w ds ρ := (rfl)
theorem iLst_ap : iLst f ρ = (f ρ).bind lstOf := (rfl)
theorem lstOf_lst : lstOf (.lst ds) = some ds := (rfl)
theorem lstOf_scr {ns : List Int} : lstOf (.scr ns) = some (ns.map .int) := (rfl)
theorem iTupD_ap : iTupD f ρ = (f ρ).bind tupOf := (rfl)
theorem tupOf_tup : tupOf (.tup ds) = some ds := (rfl)
theorem iRev_ap : iRev f ρ = ((f ρ).bind lstOf).map List.reverse := (rfl)
theorem iEnum_ap : DL.iEnum f ρ = ((f ρ).bind lstOf).map (enumFrom 0) := (rfl)
theorem iRange1_ap : iRange1 f ρ = (f ρ).bind rng1K := (rfl)
theorem rng1K_int {j : Int} (h : -(2 ^ 62) ≤ j ∧ j < 2 ^ 62) : rng1K (.int j) = some (rng 0 j.toNat) := if_pos h
theorem iRange2_ap : iRange2 fa fb ρ = (fa ρ).bind fun d => (fb ρ).bind fun d' => rng2K d d' := (rfl)
theorem rng2K_int {i j : Int} (h : -(2 ^ 62) ≤ i ∧ i < 2 ^ 62 ∧ -(2 ^ 62) ≤ j ∧ j < 2 ^ 62) : rng2K (.int i) (.int j) = some (rng i (j - i).toNat) := if_pos h
theorem dLc_ap : dLc fi u t f ρ = (fi ρ).bind fun ds => if ds.length ≤ 100000 then (lcD u t f ρ ds).map .lst else none := (rfl)
theorem tTrue_ap : tTrue ρ = some true := (rfl)
theorem dChain_ap {h h' : D → D → Option D} : dChain h h' fa fb fc ρ = (fa ρ).bind fun a => (fb ρ).bind fun b => (h a b).bind fun x => (asB x).bind fun k => if k = true then (fc ρ).bind fun c => h' b c else some (.bl false) := (rfl)
theorem seqOf_lst : seqOf (.lst ds) = some ds := (rfl)
theorem seqOf_tup : seqOf (.tup ds) = some ds := (rfl)
theorem seqOf_scr {ns : List Int} : seqOf (.scr ns) = some (ns.map .int) := (rfl)
theorem gLen_lst : gLen [.lst ds] = some (.int ds.length) := (rfl)
theorem gLen_tup : gLen [.tup ds] = some (.int ds.length) := (rfl)
theorem gLen_scr {ns : List Int} : gLen [.scr ns] = some (.int ns.length) := by
  show some (D.int ((ns.map D.int).length : Nat)) = _
  rw [List.length_map]
theorem gCat_lst (h : ds.length + es.length ≤ 100000) : gCat (.lst ds) (.lst es) = some (.lst (ds ++ es)) := by
  unfold gCat
  first | exact if_pos h | simp [h]
section
variable {a b : Int}
theorem gAdd_int : gAdd (.int a) (.int b) = some (.int (a + b)) := (rfl)
theorem gSub_int : gSub (.int a) (.int b) = some (.int (a - b)) := (rfl)
theorem gMul_int (h : (-(2 ^ 64) < a ∧ a < 2 ^ 64) ∨ (-(2 ^ 64) < b ∧ b < 2 ^ 64)) : gMul (.int a) (.int b) = some (.int (a * b)) := if_pos h
theorem gMod_int (h : 0 < b) : gMod (.int a) (.int b) = some (.int (a % b)) := if_pos h
theorem gDiv_int (h : 0 < b ∧ b < 1073741824) : gDiv (.int a) (.int b) = some (.int (a / b)) := if_pos h
theorem gLt_int : gLt (.int a) (.int b) = some (.bl (decide (a < b))) := (rfl)
theorem gLe_int : gLe (.int a) (.int b) = some (.bl (decide (a ≤ b))) := (rfl)
theorem gGt_int : gGt (.int a) (.int b) = some (.bl (decide (b < a))) := (rfl)
theorem gGe_int : gGe (.int a) (.int b) = some (.bl (decide (b ≤ a))) := (rfl)
theorem gMax2_int : gMax2 [.int a, .int b] = some (.int (if b > a then b else a)) := (rfl)
theorem gMin2_int : gMin2 [.int a, .int b] = some (.int (if b < a then b else a)) := (rfl)
end
theorem gIsi_lst : gIsi "list" (.lst ds) = some (.bl true) := by
  show (kitB "list" "list").map D.bl = _
  rfl
end
end DL

/-! DL: plain laws of dicts, sets, while. -/
namespace DL
open PySem PySem.Spec PyProof.Rows L2 Enc
section
variable {β : Type} {en : β → D}
def lkI (kvs : List (Int × β)) (k : Int) : Option β := (kvs.find? fun p => decide (p.1 = k)).map (·.2)
def dictE (en : β → D) (kvs : List (Int × β)) : D := .dI (kvs.map fun p => (p.1, en p.2))
theorem lkI_nil {k : Int} : lkI ([] : List (Int × β)) k = none := (rfl)
theorem lkI_cons {k : Int} {p : Int × β} {r : List (Int × β)} : lkI (p :: r) k = if p.1 = k then some p.2 else lkI r k := by
  unfold lkI
  rw [List.find?_cons]
  by_cases h : p.1 = k
  · rw [decide_eq_true h, if_pos h]; rfl
  · rw [decide_eq_false h, if_neg h]
theorem lkI_none {kvs : List (Int × β)} {k : Int} : lkI kvs k = none ↔ k ∉ kvs.map (·.1) := by
  induction kvs with
  | nil => simp [lkI]
  | cons p r ih =>
    rw [lkI_cons]
    by_cases h : p.1 = k
    · simp [h]
    · rw [if_neg h, ih]
      simp [Ne.symm h]
theorem lkI_mem {kvs : List (Int × β)} {k : Int} {b : β} (h : lkI kvs k = some b) : (k, b) ∈ kvs := by
  induction kvs with
  | nil => cases h
  | cons p r ih =>
    rw [lkI_cons] at h
    by_cases e : p.1 = k
    · rw [if_pos e] at h
      cases h
      subst e
      exact .head _
    · rw [if_neg e] at h
      exact .tail _ (ih h)
theorem lkI_some {kvs : List (Int × β)} {k : Int} (h : k ∈ kvs.map (·.1)) : ∃ b, lkI kvs k = some b := by
  cases e : lkI kvs k with
  | none => exact absurd h (lkI_none.mp e)
  | some b => exact ⟨b, rfl⟩
theorem lkI_append {kvs r : List (Int × β)} {k : Int} : lkI (kvs ++ r) k = (lkI kvs k).or (lkI r k) := by
  induction kvs with
  | nil => simp [lkI]
  | cons p t ih =>
    rw [List.cons_append, lkI_cons, lkI_cons]
    by_cases h : p.1 = k
    · rw [if_pos h, if_pos h]; rfl
    · rw [if_neg h, if_neg h, ih]
theorem valD_dict {kvs : List (Int × β)} {k : Int} : valD (kvs.map fun p => (p.1, en p.2)) k = (lkI kvs k).map en := by
  induction kvs with
  | nil => rfl
  | cons p r ih =>
    rw [lkI_cons, List.map_cons]
    unfold valD at ih ⊢
    rw [List.find?_cons]
    by_cases h : p.1 = k
    · rw [if_pos h]
      simp [h]
    · rw [if_neg h, ← ih]
      simp [h]
theorem getD'_dict {kvs : List (Int × β)} {k : Int} : getD' (dictE en kvs) (.int k) = some ((lkI kvs k).map en) := congrArg some valD_dict
theorem gDIn_dict {kvs : List (Int × β)} {k : Int} : gDIn (.int k) (dictE en kvs) = some (.bl (decide (k ∈ kvs.map (·.1)))) := by
  unfold gDIn
  rw [getD'_dict]
  by_cases h : k ∈ kvs.map (·.1)
  · obtain ⟨b, e⟩ := lkI_some h
    rw [e, decide_eq_true h]
    rfl
  · rw [lkI_none.mpr h, decide_eq_false h]
    rfl
theorem gDNotIn_dict {kvs : List (Int × β)} {k : Int} : gDNotIn (.int k) (dictE en kvs) = some (.bl (!decide (k ∈ kvs.map (·.1)))) := by
  unfold gDNotIn
  rw [getD'_dict]
  by_cases h : k ∈ kvs.map (·.1)
  · obtain ⟨b, e⟩ := lkI_some h
    rw [e, decide_eq_true h]
    rfl
  · rw [lkI_none.mpr h, decide_eq_false h]
    rfl
theorem gDIx_dict {kvs : List (Int × β)} {k : Int} : gDIx (dictE en kvs) (.int k) = (lkI kvs k).map en := by
  unfold gDIx
  rw [getD'_dict]
  rfl
theorem gDGet1_dict {kvs : List (Int × β)} {k : Int} : gDGet1 (dictE en kvs) (.int k) = some (((lkI kvs k).map en).getD .non) := by
  unfold gDGet1
  rw [getD'_dict]
  rfl
theorem dDGet2_ap {f g h : DFn} {ρ : List D} : dDGet2 f g h ρ = (f ρ).bind fun a => (g ρ).bind fun b => (h ρ).bind fun x => (getD' a b).map fun o => o.getD x := (rfl)
theorem dDisp_int {f g : DFn} {ρ : List D} {k : Int} {d : D} (h1 : f ρ = some (.int k)) (h2 : g ρ = some d) : dDisp f g ρ = some (.dI [(k, d)]) := by
  unfold dDisp
  rw [h1, bindS, h2]
  rfl
theorem putD'_new {kvs : List (Int × β)} {k : Int} {d : D} {b : β} (hd : d = en b) (h : k ∉ kvs.map (·.1)) (hl : kvs.length < 100000) : putD' (dictE en kvs) (.int k) d = some (dictE en (kvs ++ [(k, b)])) := by
  subst hd
  show (if (kvs.map fun p => (p.1, en p.2)).length < 100000 then some (D.dI (putD (kvs.map fun p => (p.1, en p.2)) k (en b))) else none) = _
  rw [if_pos (by rw [List.length_map]; exact hl)]
  unfold putD
  have e : ((kvs.map fun p => (p.1, en p.2)).any fun kv => decide (kv.1 = k)) = false := by
    rw [List.any_eq_false]
    intro x hx
    obtain ⟨p, hp, rfl⟩ := List.mem_map.mp hx
    simp only [decide_eq_true_eq]
    exact fun z => h (List.mem_map.mpr ⟨p, hp, z⟩)
  rw [if_neg (by rw [e]; decide)]
  unfold dictE
  rw [List.map_append]
  rfl
theorem dPut_ap {i : Nat} {fk fv : DFn} {ρ : List D} : dPut i fk fv ρ = putK' i (fv ρ) ρ[i]? (fk ρ) ρ := (rfl)
theorem putK'_some {i : Nat} {d a b a' : D} {ρ : List D} (h : putD' a b d = some a') : putK' i (some d) (some a) (some b) ρ = .nx (ρ.set i a') := by
  unfold putK'
  show (match putD' a b d with | some a' => Out.nx (ρ.set i a') | none => .bad) = _
  rw [h]
theorem gSortKeys_dict {kvs : List (Int × β)} (h : kvs.length < 64) : gSortKeys (dictE en kvs) = some (.lst ((sortI (kvs.map (·.1))).map .int)) := by
  show (if (kvs.map fun p => (p.1, en p.2)).length < 64 then some (D.lst ((((kvs.map fun p => (p.1, en p.2)).map (·.1)).mergeSort fun a b : Int => decide (a ≤ b)).map .int)) else none) = _
  rw [if_pos (by rw [List.length_map]; exact h), List.map_map]
  rfl
end
theorem dForE_ap {f : List D → Option (List D × List D)} {u : D → List D → Option (List D)} {F : SFn} {ρ : List D} : dForE f u F ρ = forEK (f ρ) u F := (rfl)
theorem forEK_some {u : D → List D → Option (List D)} {F : SFn} {ds ρ : List D} : forEK (some (ds, ρ)) u F = forD u F ds ρ := (rfl)
theorem dMethPop_ap {cl : Cl} {G : List D → Rs} {i : Nat} {fo : DFn} {ρ : List D} : dMethPop cl G i fo ρ = popK cl G i (fo ρ) ρ[i]? ρ := (rfl)
theorem popK_some {cl : Cl} {G : List D → Rs} {i : Nat} {o d : D} {ds es ρ : List D} (h1 : isObj cl o = true) (h2 : ds.getLast? = some d) (h3 : G [o, d] = .ok (.lst es)) : popK cl G i (some o) (some (.lst ds)) ρ = some (es, ρ.set i (.lst ds.dropLast)) := by
  show (if isObj cl o = true then (ds.getLast?).bind fun d => (okR (G [o, d])).bind fun r => (lstOf r).map fun es => (es, ρ.set i (.lst ds.dropLast)) else none) = _
  rw [if_pos h1, h2, bindS, h3]
  rfl
theorem asInts_int (ns : List Int) : asInts (ns.map .int) = some ns := asInts_map ns
theorem intsOf_lst {ns : List Int} (h : ns.length < 64) : intsOf (.lst (ns.map .int)) = some ns := by
  unfold intsOf
  show ((some (ns.map D.int)).bind asInts).bind _ = _
  rw [bindS, asInts_int, bindS, if_pos h]
theorem intsOf_tup {ns : List Int} (h : ns.length < 64) : intsOf (.tup (ns.map .int)) = some ns := by
  unfold intsOf
  show ((some (ns.map D.int)).bind asInts).bind _ = _
  rw [bindS, asInts_int, bindS, if_pos h]
theorem gSortSet_lst {ns : List Int} (h : ns.length < 64) : gSortSet (.lst (ns.map .int)) = some (.lst ((sortI (ded ns)).map .int)) := by
  unfold gSortSet
  rw [intsOf_lst h]
  rfl
theorem gLenSet_lst' {ns : List Int} (h : ns.length < 4000) : gLenSet (.lst (ns.map .int)) = some (.int (ded ns).length) := by
  unfold gLenSet intsN
  show ((((some (ns.map D.int)).bind asInts).bind _).map _) = _
  rw [bindS, asInts_int, bindS, if_pos h]
  rfl
theorem gLenSet_lst {ns : List Int} (h : ns.length < 64) : gLenSet (.lst (ns.map .int)) = some (.int (ded ns).length) := gLenSet_lst' (by omega)
theorem gLenSet_tup {ns : List Int} (h : ns.length < 64) : gLenSet (.tup (ns.map .int)) = some (.int (ded ns).length) := by
  unfold gLenSet intsN
  show ((((some (ns.map D.int)).bind asInts).bind _).map _) = _
  rw [bindS, asInts_int, bindS, if_pos (by omega)]
  rfl
theorem sortI_pw (ns : List Int) : (sortI ns).Pairwise (· ≤ ·) := by
  have q := List.pairwise_mergeSort (le := fun a b : Int => decide (a ≤ b)) (fun a b c h1 h2 => by
    simp only [decide_eq_true_eq] at h1 h2 ⊢
    omega) (fun a b => by
    simp only [Bool.or_eq_true, decide_eq_true_eq]
    omega) ns
  exact q.imp fun {a b} h => of_decide_eq_true h
theorem sortI_perm (ns : List Int) : (sortI ns).Perm ns := List.mergeSort_perm _ _
theorem sortI_of {xs ys : List Int} (h : xs.Pairwise (· ≤ ·)) (p : xs.Perm ys) : xs = sortI ys :=
  List.Perm.eq_of_pairwise (le := fun a b : Int => a ≤ b) (fun a b _ _ h1 h2 => by omega) h (sortI_pw ys) (p.trans (sortI_perm ys).symm)
/-- a sorted list of unlike ints is its own sorted set -/
theorem sortI_ded {xs : List Int} (h : xs.Pairwise (· ≤ ·)) (nd : xs.Nodup) : sortI (ded xs) = xs := by
  rw [ded_of_nodup nd]
  exact (sortI_of h (List.Perm.refl _)).symm
theorem gd_opt {d : D} {x : Int} : gNe (.int x) d = if okEq (.int x) d = true then some (.bl (!deq (.int x) d)) else none := (rfl)
/-- an int or None -/
def optI : Option Int → D
  | some x => .int x
  | none => .non
theorem gNe_optI (x : Int) (o : Option Int) : gNe (.int x) (optI o) = some (.bl (!decide (some x = o))) := by
  cases o with
  | none =>
    show gNe (.int x) .non = _
    rfl
  | some y =>
    show gNe (.int x) (.int y) = _
    rw [gNe_int]
    by_cases h : x = y
    · subst h; simp
    · simp [h]
theorem gIsN_non {d : D} : gIsN d .non = some (.bl (isNon d)) := (rfl)
theorem gNotN_non {d : D} : gNotN d .non = some (.bl (!isNon d)) := (rfl)
theorem isNon_int {i : Int} : isNon (.int i) = false := (rfl)
theorem isNon_non : isNon .non = true := (rfl)
theorem flat_int {i : Int} : flat (.int i) = true := by unfold flat; rfl
theorem in_int (x : Int) (ns : List Int) : gIn (.int x) (.lst (ns.map .int)) = some (.bl (decide (x ∈ ns))) := (gIn_enc x ns).trans (by congr)
theorem notIn_int (x : Int) (ns : List Int) : gNotIn (.int x) (.lst (ns.map .int)) = some (.bl (!decide (x ∈ ns))) := (gNotIn_enc x ns).trans (by congr)
theorem eq_ints (xs ys : List Int) : gEq (.lst (xs.map .int)) (.lst (ys.map .int)) = some (.bl (decide (xs = ys))) := gEq_encL xs ys
theorem ne_ints (xs ys : List Int) : gNe (.lst (xs.map .int)) (.lst (ys.map .int)) = some (.bl (!decide (xs = ys))) := gNe_encL xs ys
theorem ne_nil (xs : List Int) : gNe (.lst (xs.map .int)) (.lst []) = some (.bl (!decide (xs = []))) := gNe_encL xs ([] : List Int)
theorem eq_nil (xs : List Int) : gEq (.lst (xs.map .int)) (.lst []) = some (.bl (decide (xs = []))) := gEq_encL xs ([] : List Int)
/-- a while: m turns at most are left -/
theorem whileD_inv {t : List D → Option Bool} {F : SFn} (P : Nat → List D → Prop)
    (step : ∀ m ρ, P m ρ → (t ρ = some false) ∨ (t ρ = some true ∧ ∃ m' ρ', m' < m ∧ (F ρ = .nx ρ' ∨ F ρ = .cont ρ') ∧ P m' ρ')) : ∀ (n m : Nat) (ρ : List D), m < n → P m ρ → ∃ m' ρ', whileD t F n ρ = .nx ρ' ∧ t ρ' = some false ∧ P m' ρ'
  | 0, m, ρ, h, _ => absurd h (Nat.not_lt_zero _)
  | n + 1, m, ρ, h, p => by
    rcases step m ρ p with e | ⟨e, m', ρ', hm, hF, p'⟩
    · refine ⟨m, ρ, ?_, e, p⟩
      unfold whileD
      rw [e]
    · obtain ⟨m2, ρ2, g1, g2, g3⟩ := whileD_inv P step n m' ρ' (by omega) p'
      refine ⟨m2, ρ2, ?_, g2, g3⟩
      unfold whileD
      rw [e]
      rcases hF with hF | hF
      · show (match F ρ with | .nx ρ' => whileD t F n ρ' | .cont ρ' => whileD t F n ρ' | .brk ρ' => .nx ρ' | o => o) = _
        rw [hF]
        exact g1
      · show (match F ρ with | .nx ρ' => whileD t F n ρ' | .cont ρ' => whileD t F n ρ' | .brk ρ' => .nx ρ' | o => o) = _
        rw [hF]
        exact g1
end DL

/-! DL: plain laws of loops that return. -/
namespace DL
open PySem PySem.Spec PyProof.Rows L2 Enc
/-- a loop that returns at the first item where p tells it -/
theorem forD_find {α : Type} {en : α → D} {u : D → List D → Option (List D)} {F : SFn} (P : List D → Prop) (p : α → Option D) : ∀ {xs : List α} {ρ : List D}, P ρ →
    (∀ x ∈ xs, ∀ ρ, P ρ → ∃ ρ1, u (en x) ρ = some ρ1 ∧ ((p x = none ∧ ∃ ρ', (F ρ1 = .nx ρ' ∨ F ρ1 = .cont ρ') ∧ P ρ') ∨ ∃ d, p x = some d ∧ F ρ1 = .ret d)) →
    (∃ d, xs.findSome? p = some d ∧ forD u F (xs.map en) ρ = .ret d) ∨ (xs.findSome? p = none ∧ ∃ ρ', forD u F (xs.map en) ρ = .nx ρ' ∧ P ρ')
  | [], ρ, h, _ => .inr ⟨rfl, ρ, rfl, h⟩
  | x :: xs, ρ, h, step => by
    obtain ⟨ρ1, h1, h2⟩ := step x (.head _) ρ h
    rw [List.map_cons]
    unfold forD
    rw [h1, List.findSome?_cons]
    rcases h2 with ⟨e, ρ', hF, hP⟩ | ⟨d, e, hF⟩
    · rw [e]
      have ih := forD_find P p (xs := xs) hP fun y hy => step y (.tail _ hy)
      have e2 : (match F ρ1 with | .nx ρ' => forD u F (xs.map en) ρ' | .cont ρ' => forD u F (xs.map en) ρ' | .brk ρ' => .nx ρ' | o => o) = forD u F (xs.map en) ρ' := by
        rcases hF with hF | hF
        · rw [hF]
        · rw [hF]
      rcases ih with ⟨d, i1, i2⟩ | ⟨i1, ρ2, i2, i3⟩
      · exact .inl ⟨d, i1, e2.trans i2⟩
      · exact .inr ⟨i1, ρ2, e2.trans i2, i3⟩
    · rw [e]
      refine .inl ⟨d, rfl, ?_⟩
      show (match F ρ1 with | .nx ρ' => forD u F (xs.map en) ρ' | .cont ρ' => forD u F (xs.map en) ρ' | .brk ρ' => .nx ρ' | o => o) = _
      rw [hF]
theorem sorted_same {xs ys : List Int} (h1 : xs.Pairwise (· ≤ ·)) (n1 : xs.Nodup) (h2 : ys.Pairwise (· ≤ ·)) (n2 : ys.Nodup) (h : ∀ x, x ∈ xs ↔ x ∈ ys) : xs = ys :=
  List.Perm.eq_of_pairwise (le := fun a b : Int => a ≤ b) (fun a b _ _ h1 h2 => by omega) h1 h2 ((List.perm_ext_iff_of_nodup n1 n2).mpr h)
theorem dSetM_ap {i : Nat} {f : DFn} {F1 F2 : SFn} {ρ : List D} : dSetM i f F1 F2 ρ = setmK i (f ρ) F1 F2 ρ := (rfl)
theorem setmK_non {i : Nat} {F1 F2 : SFn} {ρ : List D} : setmK i (some .non) F1 F2 ρ = F2 (ρ.set i .non) := (rfl)
theorem setmK_lst {i : Nat} {F1 F2 : SFn} {ρ ds : List D} : setmK i (some (.lst ds)) F1 F2 ρ = F1 (ρ.set i (.lst ds)) := (rfl)
theorem gListRg_int {n : Nat} (h : n ≤ 100000) : gListRg (.int n) = some (.lst (rng 0 n)) := by
  show (if 0 ≤ (n : Int) ∧ (n : Int) ≤ 100000 then some (D.lst (rng 0 (n : Int).toNat)) else none) = _
  rw [if_pos (by omega), Int.toNat_natCast]
theorem runK_nxT {ρ : List D} : runK true (.nx ρ) = .bad := (rfl)
theorem isNon_lst {ds : List D} : isNon (.lst ds) = false := (rfl)
theorem gIsi_list_non : gIsi "list" .non = some (.bl false) := by
  show (kitB "NoneType" "list").map D.bl = _
  rfl
/-- an int's list or None -/
def optL : Option (List Int) → D
  | some ys => .lst (ys.map .int)
  | none => .non
end DL

/-! DL: the applied forms of what changes places. -/
namespace DL
open PySem PySem.Spec PyProof.Rows L2
abbrev Put := D → Option (List D)
section
variable {g : Lens} {f fk fv : DFn} {ρ ρ' : List D} {i j : Nat} {k : Cl} {d d' x a a' b : D} {s : Put} {h : Sh} {F : SFn} {X : List D → XO} {G : List D → RsO} {fs : List D → Option (List D)} {dfl as ds : List D} {kvs : List (List Int × D)} {ns : List Int} {e : Cl}
theorem plV_ap : plV i ρ = plVK i ρ ρ[i]? := (rfl)
theorem plVK_some : plVK i ρ (some d) = some (d, fun d2 => some (ρ.set i d2)) := (rfl)
theorem plF_ap : plF k j g ρ = plFK k j (g ρ) := (rfl)
theorem plFK_obj : plFK k j (some (.obj k ds, s)) = (ds[j]?).map fun d => (d, fun d2 => s (.obj k (ds.set j d2))) := if_pos (rfl)
theorem plK_ap : plK g f ρ = plKK (g ρ) (f ρ) := (rfl)
theorem plKK_dT (h1 : asT b = some ns) (h2 : valD kvs ns = some d) : plKK (some (.dT kvs, s)) (some b) = some (d, fun d2 => s (.dT (repD kvs ns d2))) := by
  show ((asT b).bind fun k => (valD kvs k).map fun d => (d, fun d2 => s (.dT (repD kvs k d2)))) = _
  rw [h1, Option.bind_some, h2]
  rfl
theorem plG_ap : plG g ρ = (g ρ).map (·.1) := (rfl)
theorem outO_some : outO (some ρ) = .nx ρ := (rfl)
theorem dPlSet_ap : dPlSet k j g f ρ = plSetK k j (f ρ) (g ρ) := (rfl)
theorem plSetK_some (hj : j < ds.length) : plSetK k j (some x) (some (.obj k ds, s)) = outO (s (.obj k (ds.set j x))) := if_pos ⟨rfl, hj⟩
theorem dPlPut_ap : dPlPut g fk fv ρ = plPutK (fv ρ) (g ρ) (fk ρ) := (rfl)
theorem plPutK_some (hp : putD' a b x = some a') : plPutK (some x) (some (a, s)) (some b) = outO (s a') := by
  show (match putD' a b x with | some a' => outO (s a') | none => .bad) = _
  rw [hp]
theorem dPlPutN_ap : dPlPutN g fk fv ρ = plPutNK (fv ρ) (g ρ) (fk ρ) := (rfl)
theorem plPutNK_some (hp : putN a b x = some a') : plPutNK (some x) (some (a, s)) (some b) = outO (s a') := by
  show (match putN a b x with | some a' => outO (s a') | none => .bad) = _
  rw [hp]
theorem dPlApp_ap : dPlApp g f ρ = plAppK (f ρ) (g ρ) := (rfl)
theorem plAppK_some (hl : ds.length < 100000) : plAppK (some x) (some (.lst ds, s)) = outO (s (.lst (ds ++ [x]))) := if_pos hl
theorem dPlSetd_ap : dPlSetd g fk fv ρ = plSetdK (fv ρ) (g ρ) (fk ρ) := (rfl)
theorem plSetdK_old (h1 : asT b = some ns) (hl : kvs.length < 100000) (h2 : valD kvs ns = some d) : plSetdK (some x) (some (.dT kvs, s)) (some b) = outO (s (.dT kvs)) := by
  unfold plSetdK
  dsimp only
  rw [h1]
  dsimp only
  rw [if_pos hl, h2]
theorem plSetdK_new (h1 : asT b = some ns) (hl : kvs.length < 100000) (h2 : valD kvs ns = none) : plSetdK (some x) (some (.dT kvs, s)) (some b) = outO (s (.dT (kvs ++ [(ns, x)]))) := by
  unfold plSetdK
  dsimp only
  rw [h1]
  dsimp only
  rw [if_pos hl, h2]
theorem dSh_ap : dSh h f ρ = shK h (f ρ) := (rfl)
theorem shK_some' (ok : shOk h d = true) : shK h (some d) = some d := if_pos ok
theorem xFun_ap : xFun g G fs dfl ρ = xFunK G dfl (g ρ) (fs ρ) := (rfl)
theorem xFunK_some : xFunK G dfl (some (d, s)) (some as) = xOut s (G (d :: (as ++ dfl))) := (rfl)
def xOK (d : D) : Option (List D) → XO
  | some ρ2 => .val d ρ2
  | none => .bad
def xEK (e : Cl) (d : D) : Option (List D) → XO
  | some ρ2 => .exc e d ρ2
  | none => .bad
theorem xOut_ok : xOut s (.ok d d') = xOK d (s d') := (rfl)
theorem xOut_exc : xOut s (.exc e d d') = xEK e d (s d') := (rfl)
theorem xOK_some : xOK d (some ρ) = .val d ρ := (rfl)
theorem xEK_some : xEK e d (some ρ) = .exc e d ρ := (rfl)
def dropEK : XO → Out
  | .val _ ρ' => .nx ρ'
  | .exc e d ρ' => .exc e d ρ'
  | .bad => .bad
theorem dDropE_ap : dDropE X ρ = dropEK (X ρ) := (rfl)
theorem dropEK_val : dropEK (.val d ρ) = .nx ρ := (rfl)
theorem dropEK_exc : dropEK (.exc e d ρ) = .exc e d ρ := (rfl)
def asgEK (i : Nat) : XO → Out
  | .val d ρ' => .nx (ρ'.set i d)
  | .exc e d ρ' => .exc e d ρ'
  | .bad => .bad
theorem dAsgE_ap : dAsgE i X ρ = asgEK i (X ρ) := (rfl)
theorem asgEK_val : asgEK i (.val d ρ) = .nx (ρ.set i d) := (rfl)
def ifEK (o : XO) (F G : SFn) : Out := match o with
  | .val (.bl true) ρ' => F ρ'
  | .val (.bl false) ρ' => G ρ'
  | .exc e d ρ' => .exc e d ρ'
  | _ => .bad
variable {F' F2 : SFn}
theorem dIfE_ap : dIfE X F F' ρ = ifEK (X ρ) F F' := by
  unfold dIfE ifEK
  cases X ρ <;> rfl
theorem ifEK_t : ifEK (.val (.bl true) ρ) F F' = F ρ := (rfl)
theorem ifEK_f : ifEK (.val (.bl false) ρ) F F' = F' ρ := (rfl)
theorem ifEK_exc : ifEK (.exc e d ρ) F F' = .exc e d ρ := (rfl)
def runOK : Out → RsO
  | .nx ρ => headK ρ (.ok .non)
  | .reto d ρ => headK ρ (.ok d)
  | .exc e d ρ => headK ρ (.exc e d)
  | _ => .bad
variable {n : Nat}
theorem runO_ap : runO n F ds = runOK (F (ds ++ List.replicate n .non)) := by
  unfold runO runOK
  cases F (ds ++ List.replicate n .non) <;> rfl
theorem runOK_nx {d0 : D} : runOK (.nx (d0 :: ρ)) = .ok .non d0 := (rfl)
theorem runOK_reto {d0 : D} : runOK (.reto d (d0 :: ρ)) = .ok d d0 := (rfl)
theorem runOK_exc {d0 : D} : runOK (.exc e d (d0 :: ρ)) = .exc e d d0 := (rfl)
def retoK (ρ : List D) : Option D → Out
  | some d => .reto d ρ
  | none => .bad
theorem dReto_ap : dReto f ρ = retoK ρ (f ρ) := by
  unfold dReto retoK
  cases f ρ <;> rfl
theorem retoK_some : retoK ρ (some d) = .reto d ρ := (rfl)
theorem seqK_reto : seqK (.reto d ρ) F = .reto d ρ := (rfl)
def dropXK (ρ : List D) : Rs → Out
  | .ok _ => .nx ρ
  | .exc e d => .exc e d ρ
  | .bad => .bad
variable {R : List D → Rs} {fo : DFn} {cl : Cl}
theorem dDropX_ap : dDropX R ρ = dropXK ρ (R ρ) := by
  unfold dDropX dropXK
  cases R ρ <;> rfl
theorem dropXK_ok : dropXK ρ (.ok d) = .nx ρ := (rfl)
theorem dropXK_exc : dropXK ρ (.exc e d) = .exc e d ρ := (rfl)
theorem dMethX_ap : dMethX cl R fo fs dfl ρ = methXK cl R dfl (fo ρ) (fs ρ) := (rfl)
theorem methXK_obj : methXK cl R dfl (some (.obj cl ds)) (some as) = R (.obj cl ds :: (as ++ dfl)) := by
  show (if isObj cl (.obj cl ds) = true then R (.obj cl ds :: (as ++ dfl)) else .bad) = _
  rw [isObj_obj, if_pos rfl]
variable {ks : List Cl} {k' : Cl} {ρ2 ρ3 : List D} {G2 : SFn}
theorem dTryOn_nx' (h1 : F ρ = .nx ρ2) : dTryOn ks k' F G2 ρ = .nx ρ2 := by
  unfold dTryOn
  rw [h1]
theorem dTryOn_reto (h1 : F ρ = .exc e d ρ2) (h2 : e ∈ ks) (h3 : subX e k' = true) (hs : G2 ρ2 = .reto d' ρ3) : dTryOn ks k' F G2 ρ = .reto d' ρ3 := by
  unfold dTryOn
  rw [h1]
  dsimp only
  rw [if_pos h2, if_pos h3, hs]
def callFK (es : List D) : Option D := if flats es = true then some (.lst es) else none
variable {hh : D → Option (List D)} {es : List D}
theorem dCallF_ap : dCallF hh f ρ = ((f ρ).bind hh).bind callFK := (rfl)
theorem callFK_flat (ok : flats es = true) : callFK es = some (.lst es) := if_pos ok
end
end DL

set_option maxHeartbeats 0
namespace DL
open PySem PySem.Spec PyProof.Rows L2
def top (i : Nat) : Stmt := PySem.Challenge.pw_wordswap_k31_hands_and_rows.main.body.getD i (.Pass ⟨0, 0, 0, 0⟩)
def clName : Cl → Str
  | .SwapError => "SwapError" | .NoWeb => "NoWeb" | .NoPlan => "NoPlan" | .NotJoined => "NotJoined" | .NoLeader => "NoLeader" | .NoDeed => "NoDeed" | .Laid => "Laid" | .NotLaid => "NotLaid" | .Late => "Late" | .Unknown => "Unknown" | .NoText => "NoText" | .Web => "Web" | .Plan => "Plan" | .Ledger => "Ledger" | .Hand => "Hand" | .Free => "Free" | .Keeper => "Keeper" | .Run => "Run"
def ca (K : PySem.W.Frag) : Cl → Addr := fun c => He.ga K (clName c)
def ksL : List Cl := [.SwapError, .NoWeb, .NoPlan]
def dd_are_leaders : He.DefD := ⟨("are_leaders", none), "are_leaders", "are_leaders", defArgs (top 12), defBody (top 12), defScope (top 12), [], []⟩
def dd_Plan_init : He.DefD := ⟨("Plan", some "__init__"), "__init__", "Plan.__init__", defArgs (inClass (top 13) 0), defBody (inClass (top 13) 0), defScope (inClass (top 13) 0), [], []⟩
def dd_is_passing : He.DefD := ⟨("is_passing", none), "is_passing", "is_passing", defArgs (top 17), defBody (top 17), defScope (top 17), [], []⟩
def dd_Web_init : He.DefD := ⟨("Web", some "__init__"), "__init__", "Web.__init__", defArgs (inClass (top 18) 0), defBody (inClass (top 18) 0), defScope (inClass (top 18) 0), [], []⟩
def dd_Ledger_init : He.DefD := ⟨("Ledger", some "__init__"), "__init__", "Ledger.__init__", defArgs (inClass (top 10) 0), defBody (inClass (top 10) 0), defScope (inClass (top 10) 0), [.non], []⟩
def dd_l_deed : He.DefD := ⟨("_law_deed", none), "_law_deed", "_law_deed", defArgs (top 22), defBody (top 22), defScope (top 22), [], []⟩
def dd_Free_init : He.DefD := ⟨("Free", some "__init__"), "__init__", "Free.__init__", defArgs (inClass (top 3) 0), defBody (inClass (top 3) 0), defScope (inClass (top 3) 0), [], []⟩
def dd_Keeper_init : He.DefD := ⟨("Keeper", some "__init__"), "__init__", "Keeper.__init__", defArgs (inClass (top 4) 0), defBody (inClass (top 4) 0), defScope (inClass (top 4) 0), [], []⟩
def dd_l_cell_at : He.DefD := ⟨("_law_cell_at", none), "_law_cell_at", "_law_cell_at", defArgs (top 20), defBody (top 20), defScope (top 20), [], []⟩
def dd_Ledger_turn : He.DefD := ⟨("Ledger", some "turn"), "turn", "Ledger.turn", defArgs (inClass (top 10) 1), defBody (inClass (top 10) 1), defScope (inClass (top 10) 1), [], []⟩
def dd_Free_deeds : He.DefD := ⟨("Free", some "deeds"), "deeds", "Free.deeds", defArgs (inClass (top 3) 1), defBody (inClass (top 3) 1), defScope (inClass (top 3) 1), [], []⟩
def dd_l_alike : He.DefD := ⟨("_law_alike", none), "_law_alike", "_law_alike", defArgs (top 21), defBody (top 21), defScope (top 21), [], []⟩
def dd_Hand_deeds : He.DefD := ⟨("Hand", some "deeds"), "deeds", "Hand.deeds", defArgs (inClass (top 2) 0), defBody (inClass (top 2) 0), defScope (inClass (top 2) 0), [], []⟩
def dd_Ledger_laid : He.DefD := ⟨("Ledger", some "laid"), "laid", "Ledger.laid", defArgs (inClass (top 10) 8), defBody (inClass (top 10) 8), defScope (inClass (top 10) 8), [], []⟩
def dd_Ledger_move : He.DefD := ⟨("Ledger", some "move"), "move", "Ledger.move", defArgs (inClass (top 10) 2), defBody (inClass (top 10) 2), defScope (inClass (top 10) 2), [], []⟩
def dd_law : He.DefD := ⟨("law", none), "law", "law", defArgs (top 23), defBody (top 23), defScope (top 23), [], []⟩
structure Fc (K : PySem.W.Frag) (mg : Str → Option Value) : Prop where
  d_are_leaders : ∃ fd, FunD K dd_are_leaders.name dd_are_leaders.qual dd_are_leaders.params dd_are_leaders.body dd_are_leaders.scope (dd_are_leaders.dvs K) (dd_are_leaders.kws K) (He.fAd K dd_are_leaders.at_) fd
  d_Plan_init : ∃ fd, FunD K dd_Plan_init.name dd_Plan_init.qual dd_Plan_init.params dd_Plan_init.body dd_Plan_init.scope (dd_Plan_init.dvs K) (dd_Plan_init.kws K) (He.fAd K dd_Plan_init.at_) fd
  d_is_passing : ∃ fd, FunD K dd_is_passing.name dd_is_passing.qual dd_is_passing.params dd_is_passing.body dd_is_passing.scope (dd_is_passing.dvs K) (dd_is_passing.kws K) (He.fAd K dd_is_passing.at_) fd
  d_Web_init : ∃ fd, FunD K dd_Web_init.name dd_Web_init.qual dd_Web_init.params dd_Web_init.body dd_Web_init.scope (dd_Web_init.dvs K) (dd_Web_init.kws K) (He.fAd K dd_Web_init.at_) fd
  d_Ledger_init : ∃ fd, FunD K dd_Ledger_init.name dd_Ledger_init.qual dd_Ledger_init.params dd_Ledger_init.body dd_Ledger_init.scope (dd_Ledger_init.dvs K) (dd_Ledger_init.kws K) (He.fAd K dd_Ledger_init.at_) fd
  d_l_deed : ∃ fd, FunD K dd_l_deed.name dd_l_deed.qual dd_l_deed.params dd_l_deed.body dd_l_deed.scope (dd_l_deed.dvs K) (dd_l_deed.kws K) (He.fAd K dd_l_deed.at_) fd
  d_Free_init : ∃ fd, FunD K dd_Free_init.name dd_Free_init.qual dd_Free_init.params dd_Free_init.body dd_Free_init.scope (dd_Free_init.dvs K) (dd_Free_init.kws K) (He.fAd K dd_Free_init.at_) fd
  d_Keeper_init : ∃ fd, FunD K dd_Keeper_init.name dd_Keeper_init.qual dd_Keeper_init.params dd_Keeper_init.body dd_Keeper_init.scope (dd_Keeper_init.dvs K) (dd_Keeper_init.kws K) (He.fAd K dd_Keeper_init.at_) fd
  d_l_cell_at : ∃ fd, FunD K dd_l_cell_at.name dd_l_cell_at.qual dd_l_cell_at.params dd_l_cell_at.body dd_l_cell_at.scope (dd_l_cell_at.dvs K) (dd_l_cell_at.kws K) (He.fAd K dd_l_cell_at.at_) fd
  d_Ledger_turn : ∃ fd, FunD K dd_Ledger_turn.name dd_Ledger_turn.qual dd_Ledger_turn.params dd_Ledger_turn.body dd_Ledger_turn.scope (dd_Ledger_turn.dvs K) (dd_Ledger_turn.kws K) (He.fAd K dd_Ledger_turn.at_) fd
  d_Free_deeds : ∃ fd, FunD K dd_Free_deeds.name dd_Free_deeds.qual dd_Free_deeds.params dd_Free_deeds.body dd_Free_deeds.scope (dd_Free_deeds.dvs K) (dd_Free_deeds.kws K) (He.fAd K dd_Free_deeds.at_) fd
  d_l_alike : ∃ fd, FunD K dd_l_alike.name dd_l_alike.qual dd_l_alike.params dd_l_alike.body dd_l_alike.scope (dd_l_alike.dvs K) (dd_l_alike.kws K) (He.fAd K dd_l_alike.at_) fd
  d_Hand_deeds : ∃ fd, FunD K dd_Hand_deeds.name dd_Hand_deeds.qual dd_Hand_deeds.params dd_Hand_deeds.body dd_Hand_deeds.scope (dd_Hand_deeds.dvs K) (dd_Hand_deeds.kws K) (He.fAd K dd_Hand_deeds.at_) fd
  d_Ledger_laid : ∃ fd, FunD K dd_Ledger_laid.name dd_Ledger_laid.qual dd_Ledger_laid.params dd_Ledger_laid.body dd_Ledger_laid.scope (dd_Ledger_laid.dvs K) (dd_Ledger_laid.kws K) (He.fAd K dd_Ledger_laid.at_) fd
  d_Ledger_move : ∃ fd, FunD K dd_Ledger_move.name dd_Ledger_move.qual dd_Ledger_move.params dd_Ledger_move.body dd_Ledger_move.scope (dd_Ledger_move.dvs K) (dd_Ledger_move.kws K) (He.fAd K dd_Ledger_move.at_) fd
  d_law : ∃ fd, FunD K dd_law.name dd_law.qual dd_law.params dd_law.body dd_law.scope (dd_law.dvs K) (dd_law.kws K) (He.fAd K dd_law.at_) fd
  f_len : mg "len" = none
  f_sorted : mg "sorted" = none
  f_set : mg "set" = none
  f_list : mg "list" = none
  k_Web : ClsOk K (ca K) .Web
  g_are_leaders : mg "are_leaders" = some (.ref (He.ga K "are_leaders"))
  k_Plan : ClsOk K (ca K) .Plan
  f_dict : mg "dict" = none
  c_LEAST_HANDS : ∃ t, mg "LEAST_HANDS" = some (.int 2 t)
  c_MOST_HANDS : ∃ t, mg "MOST_HANDS" = some (.int 6 t)
  f_enumerate : mg "enumerate" = none
  g_is_passing : mg "is_passing" = some (.ref (He.ga K "is_passing"))
  k_Ledger : ClsOk K (ca K) .Ledger
  k_Free : ClsOk K (ca K) .Free
  f_isinstance : mg "isinstance" = none
  k_Keeper : ClsOk K (ca K) .Keeper
  m_Ledger_turn : Meth K (ca K .Ledger) "turn" (He.fAd K dd_Ledger_turn.at_)
  f_bool : mg "bool" = none
  f_int : mg "int" = none
  f_str : mg "str" = none
  f_tuple : mg "tuple" = none
  f_all : mg "all" = none
  f_range : mg "range" = none
  g_l_alike : mg "_law_alike" = some (.ref (He.ga K "_law_alike"))
  g_Plan : mg "Plan" = some (.ref (He.ga K "Plan"))
  M_Plan : Mk K (ca K .Plan) (He.fAd K dd_Plan_init.at_)
  g_Web : mg "Web" = some (.ref (He.ga K "Web"))
  M_Web : Mk K (ca K .Web) (He.fAd K dd_Web_init.at_)
  g_Ledger : mg "Ledger" = some (.ref (He.ga K "Ledger"))
  M_Ledger : Mk K (ca K .Ledger) (He.fAd K dd_Ledger_init.at_)
  g_l_deed : mg "_law_deed" = some (.ref (He.ga K "_law_deed"))
  g_Free : mg "Free" = some (.ref (He.ga K "Free"))
  M_Free : Mk K (ca K .Free) (He.fAd K dd_Free_init.at_)
  g_Hand : mg "Hand" = some (.ref (He.ga K "Hand"))
  I_Hand : ∀ k' ∈ ([.Free, .Keeper] : List Cl), PySem.W.kitOne K (.ref (ca K k')) (.ref (ca K .Hand)) = some (heirB k' .Hand)
  o_Free : C8.InsC K (ca K .Free)
  o_Keeper : C8.InsC K (ca K .Keeper)
  g_Keeper : mg "Keeper" = some (.ref (He.ga K "Keeper"))
  M_Keeper : Mk K (ca K .Keeper) (He.fAd K dd_Keeper_init.at_)
  I_Keeper : ∀ k' ∈ ([.Free, .Keeper] : List Cl), PySem.W.kitOne K (.ref (ca K k')) (.ref (ca K .Keeper)) = some (heirB k' .Keeper)
  I_Free : ∀ k' ∈ ([.Free, .Keeper] : List Cl), PySem.W.kitOne K (.ref (ca K k')) (.ref (ca K .Free)) = some (heirB k' .Free)
  g_l_cell_at : mg "_law_cell_at" = some (.ref (He.ga K "_law_cell_at"))
  m_Free_deeds : Meth K (ca K .Free) "deeds" (He.fAd K dd_Free_deeds.at_)
  k_Hand : ClsOk K (ca K) .Hand
  m_Hand_deeds : Meth K (ca K .Hand) "deeds" (He.fAd K dd_Hand_deeds.at_)
  Z_Hand : Mk0 K (ca K .Hand)
  m_Ledger_laid : Meth K (ca K .Ledger) "laid" (He.fAd K dd_Ledger_laid.at_)
  m_Ledger_move : Meth K (ca K .Ledger) "move" (He.fAd K dd_Ledger_move.at_)
def fnL : List He.DefD := [dd_are_leaders, dd_Plan_init, dd_is_passing, dd_Web_init, dd_Ledger_init, dd_l_deed, dd_Free_init, dd_Keeper_init, dd_l_cell_at, dd_Ledger_turn, dd_Free_deeds, dd_l_alike, dd_Hand_deeds, dd_Ledger_laid, dd_Ledger_move, dd_law]
def faL : List He.Fa := [.free "len", .free "sorted", .free "set", .free "list", .cls "Web", .noat "Web" "number", .noat "Web" "passings", .glo "are_leaders", .cls "Plan", .noat "Plan" "web", .noat "Plan" "leaders", .noat "Plan" "limits", .free "dict", .int "LEAST_HANDS" 2, .int "MOST_HANDS" 6, .free "enumerate", .glo "is_passing", .cls "Ledger", .noat "Ledger" "plan", .noat "Ledger" "free", .noat "Ledger" "now", .noat "Ledger" "lays", .noat "Ledger" "sayings", .noat "Ledger" "shown", .cls "Free", .noat "Free" "rows", .noat "Free" "act", .free "isinstance", .cls "Keeper", .noat "Keeper" "me", .meth "Ledger" "turn", .free "bool", .free "int", .free "str", .free "tuple", .free "all", .free "range", .glo "_law_alike", .glo "Plan", .mkr "Plan", .glo "Web", .mkr "Web", .glo "Ledger", .mkr "Ledger", .glo "_law_deed", .glo "Free", .mkr "Free", .glo "Hand", .glo "Keeper", .mkr "Keeper", .glo "_law_cell_at", .meth "Free" "deeds", .cls "Hand", .meth "Hand" "deeds", .meth "Ledger" "laid", .meth "Ledger" "move", .glo "law"]
def xsL : List (PySem.W.Frag → Bool) := [fun K => insB K (ca K .Free), fun K => insB K (ca K .Keeper), fun K => mk0B K (ca K .Hand), fun K => kitsB K (ca K) [.Free, .Keeper] .Hand, fun K => kitsB K (ca K) [.Free, .Keeper] .Keeper, fun K => kitsB K (ca K) [.Free, .Keeper] .Free]
theorem fc_of {K : PySem.W.Frag} {h : Heap} {mg : Str → Option Value} (X : K.In h) (G : h.Ns mainGlobals mg) (c : SaysX xsL faL fnL K) : Fc K mg :=
  ⟨c.d.def_ 0 (d := dd_are_leaders) rfl,
   c.d.def_ 1 (d := dd_Plan_init) rfl,
   c.d.def_ 2 (d := dd_is_passing) rfl,
   c.d.def_ 3 (d := dd_Web_init) rfl,
   c.d.def_ 4 (d := dd_Ledger_init) rfl,
   c.d.def_ 5 (d := dd_l_deed) rfl,
   c.d.def_ 6 (d := dd_Free_init) rfl,
   c.d.def_ 7 (d := dd_Keeper_init) rfl,
   c.d.def_ 8 (d := dd_l_cell_at) rfl,
   c.d.def_ 9 (d := dd_Ledger_turn) rfl,
   c.d.def_ 10 (d := dd_Free_deeds) rfl,
   c.d.def_ 11 (d := dd_l_alike) rfl,
   c.d.def_ 12 (d := dd_Hand_deeds) rfl,
   c.d.def_ 13 (d := dd_Ledger_laid) rfl,
   c.d.def_ 14 (d := dd_Ledger_move) rfl,
   c.d.def_ 15 (d := dd_law) rfl,
   He.free_ok X G (c.d.fact 0 (f := .free "len") rfl),
   He.free_ok X G (c.d.fact 1 (f := .free "sorted") rfl),
   He.free_ok X G (c.d.fact 2 (f := .free "set") rfl),
   He.free_ok X G (c.d.fact 3 (f := .free "list") rfl),
   ⟨He.cls_ok (c.d.fact 4 (f := .cls "Web") rfl), fun f hf => by
      have e : f = "number" ∨ f = "passings" := by simpa [flds] using hf
      rcases e with rfl | rfl
      · exact He.noat_ok (c.d.fact 5 (f := .noat "Web" "number") rfl)
      · exact He.noat_ok (c.d.fact 6 (f := .noat "Web" "passings") rfl)⟩,
   He.glo_ok X G (c.d.fact 7 (f := .glo "are_leaders") rfl),
   ⟨He.cls_ok (c.d.fact 8 (f := .cls "Plan") rfl), fun f hf => by
      have e : f = "web" ∨ f = "leaders" ∨ f = "limits" := by simpa [flds] using hf
      rcases e with rfl | rfl | rfl
      · exact He.noat_ok (c.d.fact 9 (f := .noat "Plan" "web") rfl)
      · exact He.noat_ok (c.d.fact 10 (f := .noat "Plan" "leaders") rfl)
      · exact He.noat_ok (c.d.fact 11 (f := .noat "Plan" "limits") rfl)⟩,
   He.free_ok X G (c.d.fact 12 (f := .free "dict") rfl),
   He.int_ok X G (c.d.fact 13 (f := .int "LEAST_HANDS" 2) rfl),
   He.int_ok X G (c.d.fact 14 (f := .int "MOST_HANDS" 6) rfl),
   He.free_ok X G (c.d.fact 15 (f := .free "enumerate") rfl),
   He.glo_ok X G (c.d.fact 16 (f := .glo "is_passing") rfl),
   ⟨He.cls_ok (c.d.fact 17 (f := .cls "Ledger") rfl), fun f hf => by
      have e : f = "plan" ∨ f = "free" ∨ f = "now" ∨ f = "lays" ∨ f = "sayings" ∨ f = "shown" := by simpa [flds] using hf
      rcases e with rfl | rfl | rfl | rfl | rfl | rfl
      · exact He.noat_ok (c.d.fact 18 (f := .noat "Ledger" "plan") rfl)
      · exact He.noat_ok (c.d.fact 19 (f := .noat "Ledger" "free") rfl)
      · exact He.noat_ok (c.d.fact 20 (f := .noat "Ledger" "now") rfl)
      · exact He.noat_ok (c.d.fact 21 (f := .noat "Ledger" "lays") rfl)
      · exact He.noat_ok (c.d.fact 22 (f := .noat "Ledger" "sayings") rfl)
      · exact He.noat_ok (c.d.fact 23 (f := .noat "Ledger" "shown") rfl)⟩,
   ⟨He.cls_ok (c.d.fact 24 (f := .cls "Free") rfl), fun f hf => by
      have e : f = "rows" ∨ f = "act" := by simpa [flds] using hf
      rcases e with rfl | rfl
      · exact He.noat_ok (c.d.fact 25 (f := .noat "Free" "rows") rfl)
      · exact He.noat_ok (c.d.fact 26 (f := .noat "Free" "act") rfl)⟩,
   He.free_ok X G (c.d.fact 27 (f := .free "isinstance") rfl),
   ⟨He.cls_ok (c.d.fact 28 (f := .cls "Keeper") rfl), fun f hf => by
      have e : f = "me" := by simpa [flds] using hf
      rcases e with rfl
      · exact He.noat_ok (c.d.fact 29 (f := .noat "Keeper" "me") rfl)⟩,
   He.meth_ok (c.d.fact 30 (f := .meth "Ledger" "turn") rfl),
   He.free_ok X G (c.d.fact 31 (f := .free "bool") rfl),
   He.free_ok X G (c.d.fact 32 (f := .free "int") rfl),
   He.free_ok X G (c.d.fact 33 (f := .free "str") rfl),
   He.free_ok X G (c.d.fact 34 (f := .free "tuple") rfl),
   He.free_ok X G (c.d.fact 35 (f := .free "all") rfl),
   He.free_ok X G (c.d.fact 36 (f := .free "range") rfl),
   He.glo_ok X G (c.d.fact 37 (f := .glo "_law_alike") rfl),
   He.glo_ok X G (c.d.fact 38 (f := .glo "Plan") rfl),
   He.mkr_ok (c.d.fact 39 (f := .mkr "Plan") rfl),
   He.glo_ok X G (c.d.fact 40 (f := .glo "Web") rfl),
   He.mkr_ok (c.d.fact 41 (f := .mkr "Web") rfl),
   He.glo_ok X G (c.d.fact 42 (f := .glo "Ledger") rfl),
   He.mkr_ok (c.d.fact 43 (f := .mkr "Ledger") rfl),
   He.glo_ok X G (c.d.fact 44 (f := .glo "_law_deed") rfl),
   He.glo_ok X G (c.d.fact 45 (f := .glo "Free") rfl),
   He.mkr_ok (c.d.fact 46 (f := .mkr "Free") rfl),
   He.glo_ok X G (c.d.fact 47 (f := .glo "Hand") rfl),
   kitsB_ok (c.x 3 (b := fun K => kitsB K (ca K) [.Free, .Keeper] .Hand) rfl),
   insB_ok (He.cls_ok (c.d.fact 24 (f := .cls "Free") rfl)) (c.x 0 (b := fun K => insB K (ca K .Free)) rfl),
   insB_ok (He.cls_ok (c.d.fact 28 (f := .cls "Keeper") rfl)) (c.x 1 (b := fun K => insB K (ca K .Keeper)) rfl),
   He.glo_ok X G (c.d.fact 48 (f := .glo "Keeper") rfl),
   He.mkr_ok (c.d.fact 49 (f := .mkr "Keeper") rfl),
   kitsB_ok (c.x 4 (b := fun K => kitsB K (ca K) [.Free, .Keeper] .Keeper) rfl),
   kitsB_ok (c.x 5 (b := fun K => kitsB K (ca K) [.Free, .Keeper] .Free) rfl),
   He.glo_ok X G (c.d.fact 50 (f := .glo "_law_cell_at") rfl),
   He.meth_ok (c.d.fact 51 (f := .meth "Free" "deeds") rfl),
   ⟨He.cls_ok (c.d.fact 52 (f := .cls "Hand") rfl), fun f hf => by simp [flds] at hf⟩,
   He.meth_ok (c.d.fact 53 (f := .meth "Hand" "deeds") rfl),
   mk0B_ok (c.x 2 (b := fun K => mk0B K (ca K .Hand)) rfl),
   He.meth_ok (c.d.fact 54 (f := .meth "Ledger" "laid") rfl),
   He.meth_ok (c.d.fact 55 (f := .meth "Ledger" "move") rfl)⟩
section
variable {P : Program} {w : World} {K : PySem.W.Frag} {mg : Str → Option Value} {base : Heap}
def sm_are_leaders : SFn := (dSeq (dIfS (tOrF (DL.tB (d2 gEq (dCall gLen (dConsA (dVar 1) dNilA)) (dC (.int 0)))) (DL.tB (d2 gNe (d1 gSortSet (dVar 1)) (dCallN seqOf (dVar 1))))) (dRet (dC (.bl false))) dNext)
  (dRet (dAnd (d2 gGe (d2 gIx (dVar 1) (dC (.int 0))) (dC (.int 0))) (d2 gLt (d2 gIx (dVar 1) (d1 gNeg (dC (.int 1)))) (dFld .Web 0 (dVar 0))))))
def fn_are_leaders : List D → Rs := runF false 0 sm_are_leaders
theorem sc_are_leaders : FnScope ["web", "leaders"] ["web", "leaders"] (defScope (top 12)) := ⟨rfl, rfl, rfl, by decide +kernel, rfl, by decide +kernel, by decide +kernel⟩
theorem ok_are_leaders (Z : Fc K mg) : ∃ fd, FnOk P w K mg base (L2N.CX P w) 1 (He.fAd K dd_are_leaders.at_) fd ["web", "leaders"] (SpD ⟨K, ca K⟩ [.s, .s] false fn_are_leaders) ∧ PySem.W.keepIn K (.ref (He.fAd K dd_are_leaders.at_)) = true ∧ Binds K fd ["web", "leaders"] [] := by
  obtain ⟨fd, F⟩ := Z.d_are_leaders
  have f_len := Z.f_len
  have f_sorted := Z.f_sorted
  have f_set := Z.f_set
  have f_list := Z.f_list
  have k_Web := Z.k_Web
  refine ⟨fd, ?_, F.kp, F.bindsN fun _ _ _ _ _ _ us hl => match us, hl with | [_, _], _ => rfl⟩
  refine fn_D (Γ' := []) (Γ0 := [.s, .s]) (n := 0) (N := ["web", "leaders"]) F sc_are_leaders rfl rfl (fun cdv A outer s H E hr => ?_)
  have hN := sc_are_leaders.nd
  exact (pdss_cons (pds_if (Γ' := [.s, .s]) (pdt_w (pdw_or (pdt_cmp (og_eq hr) (pd_callB cg_len (pda_cons (pd_var 1) pda_nil) f_len) pd_int) (pdw_or1 (pdt_cmp (og_ne hr) (pd_new (pd_sortSet (pd_var 1) f_sorted f_set)) (pd_new (pd_callTyN cn_list (pd_var 1) f_list)))))) (pdss_one (pds_ret pd_bl)) pdss_nil)
  (pdss_one (pds_ret (pd_and (pd_cmp og_ge (pd_ix (pd_var 1) pd_int) pd_int) (pd_one (pd_cmp og_lt (pd_ix (pd_var 1) (pd_neg pd_int)) (pd_fld .Web 0 k_Web (pd_var 0))))))))
def sb_Plan_init_0 : SFn := (dIfS (DL.tB (d2 gDNotIn (dVar 4) (dVar 3))) (fun _ => .bad) dNext)
def sm_Plan_init : SFn := (dSeq (dIfS (tNotF (DL.tB (dFun fn_are_leaders (dConsA (dVar 1) (dConsA (dVar 2) dNilA)) []))) (fun _ => .bad) dNext)
  (dSeq (dFor (iLst (dFld .Web 1 (dVar 1))) (uName 4) sb_Plan_init_0)
  (dSeq (dFst 0 .Plan 0 (dVar 1))
  (dSeq (dFst 0 .Plan 1 (dCallN seqOf (dVar 2)))
  (dFst 0 .Plan 2 (d1 gDictP (dLc (iLst (dFld .Web 1 (dVar 1))) (uName 4) tTrue (dTup (dConsA (dVar 4) (dConsA (d2 gDIx (dVar 3) (dVar 4)) dNilA))))))))))
def fn_Plan_init : List D → Rs := runI .Plan 1 sm_Plan_init
theorem sc_Plan_init : FnScope ["self", "web", "leaders", "limits", "passing"] ["self", "web", "leaders", "limits"] (defScope (inClass (top 13) 0)) := ⟨rfl, rfl, rfl, by decide +kernel, rfl, by decide +kernel, by decide +kernel⟩
theorem ok_Plan_init (Z : Fc K mg) : ∃ fd, FnOk P w K mg base (L2N.CX P w) 2 (He.fAd K dd_Plan_init.at_) fd ["self", "web", "leaders", "limits"] (SpI ⟨K, ca K⟩ .Plan [.s, .s, .s] fn_Plan_init) ∧ PySem.W.keepIn K (.ref (He.fAd K dd_Plan_init.at_)) = true ∧ Binds K fd ["self", "web", "leaders", "limits"] [] := by
  obtain ⟨fd, F⟩ := Z.d_Plan_init
  obtain ⟨fd_are_leaders, F_are_leaders, kp_are_leaders, B_are_leaders⟩ := ok_are_leaders (P := P) (w := w) (base := base) Z
  have g_are_leaders := Z.g_are_leaders
  have k_Web := Z.k_Web
  have k_Plan := Z.k_Plan
  have f_list := Z.f_list
  have f_dict := Z.f_dict
  refine ⟨fd, ?_, F.kp, F.bindsN fun _ _ _ _ _ _ us hl => match us, hl with | [_, _, _, _], _ => rfl⟩
  refine fn_I (Γ' := [.x, .s, .s, .s, .n]) (Γ0 := [.s, .s, .s]) (n := 1) (N := ["self", "web", "leaders", "limits", "passing"]) F sc_Plan_init rfl rfl rfl (fun cdv A outer s H E hr => ?_)
  have hN := sc_Plan_init.nd
  exact (pdss_cons (pds_if (Γ' := [.x, .s, .s, .s, .n]) (pdt_not (pdt_val (pd_call F_are_leaders (hr.mono (by decide)) g_are_leaders kp_are_leaders B_are_leaders .nil .nil (pda_cons (pd_var 1) (pda_cons (pd_var 2) pda_nil))))) pdss_never pdss_nil)
  (pdss_cons (pds_for (sh := true) (Γ := [.x, .s, .s, .s, .n]) (passes_of rfl) (pdi_list (pd_fld .Web 1 k_Web (pd_var 1))) (pdg_name 4 hN)
  (pdss_after (Γ1 := [.x, .s, .s, .s, .s]) (pdss_one (pds_if (Γ' := [.x, .s, .s, .s, .s]) (pdt_dnotin hr.units1 (pd_var 4) (pd_var 3)) pdss_never pdss_nil))))
  (pdss_cons (pds_fst 0 .Plan 0 k_Plan (pd_var 1))
  (pdss_cons (pds_fst 0 .Plan 1 k_Plan (pd_new (pd_callTyN cn_list (pd_var 2) f_list)))
  (pdss_one (pds_fst 0 .Plan 2 k_Plan (pd_new (pd_dictP hr (pd_new (pd_lc (sh := true) [("passing", 4)] (pdi_list (pd_fld .Web 1 k_Web (pd_var 1))) hN (blkB_ok (by kernel_rfl)) (fun _ _ _ _ _ => (pdg_name 4 hN)) (fun _ _ _ _ _ => pdts_nil) (fun _ _ _ _ _ => (pd_tup (pda_cons (pd_var 4) (pda_cons (pd_dix hr.units1 (pd_var 3) (pd_var 4)) pda_nil)))))) f_dict))))))))
def sm_is_passing : SFn := (dSeq (dUnpk (dVar 1) (uTup (uCons (uName 2) (uCons (uName 3) uNil))))
  (dRet (dAnd (dChain gLe gLt (dC (.int 0)) (dVar 2) (dVar 0)) (dAnd (dChain gLe gLt (dC (.int 0)) (dVar 3) (dVar 0)) (d2 gNe (dVar 2) (dVar 3))))))
def fn_is_passing : List D → Rs := runF false 2 sm_is_passing
theorem sc_is_passing : FnScope ["number", "passing", "giver", "taker"] ["number", "passing"] (defScope (top 17)) := ⟨rfl, rfl, rfl, by decide +kernel, rfl, by decide +kernel, by decide +kernel⟩
theorem ok_is_passing (Z : Fc K mg) : ∃ fd, FnOk P w K mg base (L2N.CX P w) 1 (He.fAd K dd_is_passing.at_) fd ["number", "passing"] (SpD ⟨K, ca K⟩ [.s, .s] false fn_is_passing) ∧ PySem.W.keepIn K (.ref (He.fAd K dd_is_passing.at_)) = true ∧ Binds K fd ["number", "passing"] [] := by
  obtain ⟨fd, F⟩ := Z.d_is_passing
  refine ⟨fd, ?_, F.kp, F.bindsN fun _ _ _ _ _ _ us hl => match us, hl with | [_, _], _ => rfl⟩
  refine fn_D (Γ' := []) (Γ0 := [.s, .s]) (n := 2) (N := ["number", "passing", "giver", "taker"]) F sc_is_passing rfl rfl (fun cdv A outer s H E hr => ?_)
  have hN := sc_is_passing.nd
  exact (pdss_cons (pds_unpk (sh := true) (pd_var 1) (pdg_tup (pdgs_cons (pdg_name 2 hN) (pdgs_cons (pdg_name 3 hN) pdgs_nil))))
  (pdss_one (pds_ret (pd_and (pd_chain og_le og_lt pd_int (pd_var 2) (pd_var 0)) (pd_and (pd_chain og_le og_lt pd_int (pd_var 3) (pd_var 0)) (pd_one (pd_cmp (og_ne hr) (pd_var 2) (pd_var 3))))))))
def sb_Web_init_0 : SFn := (dIfS (tOrF (tNotF (DL.tB (dFun fn_is_passing (dConsA (dVar 1) (dConsA (dVar 4) dNilA)) []))) (DL.tB (d2 gIn (dVar 4) (dCut (dVar 2) oNone (oSome (dVar 3)))))) (fun _ => .bad) dNext)
def sm_Web_init : SFn := (dSeq (dIfS (tNotF (DL.tB (dChain gLe gLe (dC (.int 2)) (dVar 1) (dC (.int 6))))) (fun _ => .bad) dNext)
  (dSeq (dFor (DL.iEnum (dVar 2)) (uTup (uCons (uName 3) (uCons (uName 4) uNil))) sb_Web_init_0)
  (dSeq (dFst 0 .Web 0 (dVar 1))
  (dFst 0 .Web 1 (dCallN gSort (dVar 2))))))
def fn_Web_init : List D → Rs := runI .Web 2 sm_Web_init
theorem sc_Web_init : FnScope ["self", "number", "passings", "at", "passing"] ["self", "number", "passings"] (defScope (inClass (top 18) 0)) := ⟨rfl, rfl, rfl, by decide +kernel, rfl, by decide +kernel, by decide +kernel⟩
theorem ok_Web_init (Z : Fc K mg) : ∃ fd, FnOk P w K mg base (L2N.CX P w) 2 (He.fAd K dd_Web_init.at_) fd ["self", "number", "passings"] (SpI ⟨K, ca K⟩ .Web [.s, .s] fn_Web_init) ∧ PySem.W.keepIn K (.ref (He.fAd K dd_Web_init.at_)) = true ∧ Binds K fd ["self", "number", "passings"] [] := by
  obtain ⟨fd, F⟩ := Z.d_Web_init
  obtain ⟨fd_is_passing, F_is_passing, kp_is_passing, B_is_passing⟩ := ok_is_passing (P := P) (w := w) (base := base) Z
  obtain ⟨t_LEAST_HANDS, c_LEAST_HANDS⟩ := Z.c_LEAST_HANDS
  obtain ⟨t_MOST_HANDS, c_MOST_HANDS⟩ := Z.c_MOST_HANDS
  have f_enumerate := Z.f_enumerate
  have g_is_passing := Z.g_is_passing
  have k_Web := Z.k_Web
  have f_sorted := Z.f_sorted
  refine ⟨fd, ?_, F.kp, F.bindsN fun _ _ _ _ _ _ us hl => match us, hl with | [_, _, _], _ => rfl⟩
  refine fn_I (Γ' := [.x, .s, .s, .n, .n]) (Γ0 := [.s, .s]) (n := 2) (N := ["self", "number", "passings", "at", "passing"]) F sc_Web_init rfl rfl rfl (fun cdv A outer s H E hr => ?_)
  have hN := sc_Web_init.nd
  exact (pdss_cons (pds_if (Γ' := [.x, .s, .s, .n, .n]) (pdt_not (pdt_chain og_le og_le (pd_glob (v := .int 2) (d := .int 2) c_LEAST_HANDS ⟨_, rfl⟩ (fun _ _ => .int 2)) (pd_var 1) (pd_glob (v := .int 6) (d := .int 6) c_MOST_HANDS ⟨_, rfl⟩ (fun _ _ => .int 6)))) pdss_never pdss_nil)
  (pdss_cons (pds_forN (Γ := [.x, .s, .s, .n, .n]) (passes_of rfl) (pdin_enum (pd_var 2) f_enumerate) (pdg_tup (pdgs_cons (pdg_name 3 hN) (pdgs_cons (pdg_name 4 hN) pdgs_nil)))
  (pdss_after (Γ1 := [.x, .s, .s, .s, .s]) (pdss_one (pds_if (Γ' := [.x, .s, .s, .s, .s]) (pdt_w (pdw_or (pdt_not (pdt_val (pd_call F_is_passing (hr.mono (by decide)) g_is_passing kp_is_passing B_is_passing .nil .nil (pda_cons (pd_var 1) (pda_cons (pd_var 4) pda_nil))))) (pdw_or1 (pdt_cmp (og_in hr) (pd_var 4) (pd_new (pd_cut (pd_var 2) pdo_none (pdo_some (pd_var 3)))))))) pdss_never pdss_nil))))
  (pdss_cons (pds_fst 0 .Web 0 k_Web (pd_var 1))
  (pdss_one (pds_fst 0 .Web 1 k_Web (pd_new (pd_callBN (cn_sorted hr) (pd_var 2) f_sorted)))))))
def sm_Ledger_init : SFn := (dSeq (dFst 0 .Ledger 0 (dVar 1))
  (dSeq (dFst 0 .Ledger 1 (dLst dNilA))
  (dSeq (dIfS (DL.tB (d2 gNotN (dVar 2) (dC .non))) (dPlSet .Ledger 1 (plV 0) (dCallF seqOf (dVar 2))) dNext)
  (dSeq (dFst 0 .Ledger 2 (dC (.int 1)))
  (dSeq (dFst 0 .Ledger 3 (dSh (.dT .s) (dC (.dT []))))
  (dSeq (dFst 0 .Ledger 4 (dSh (.dT (.lst .s)) (dC (.dT []))))
  (dFst 0 .Ledger 5 (dSh (.dT .s) (dC (.dT []))))))))))
def fn_Ledger_init : List D → Rs := runI .Ledger 0 sm_Ledger_init
theorem sc_Ledger_init : FnScope ["self", "plan", "free"] ["self", "plan", "free"] (defScope (inClass (top 10) 0)) := ⟨rfl, rfl, rfl, by decide +kernel, rfl, by decide +kernel, by decide +kernel⟩
theorem ok_Ledger_init (Z : Fc K mg) : ∃ fd, FnOk P w K mg base (L2N.CX P w) 1 (He.fAd K dd_Ledger_init.at_) fd ["self", "plan", "free"] (SpIO ⟨K, ca K⟩ .Ledger (.obj .Ledger (.cons .s (.cons .s (.cons .s (.cons (.dT .s) (.cons (.dT (.lst .s)) (.cons (.dT .s) .nil))))))) [.s, .b] fn_Ledger_init) ∧ PySem.W.keepIn K (.ref (He.fAd K dd_Ledger_init.at_)) = true ∧ Binds K fd ["self", "plan", "free"] [] ∧ ∃ ds, Vals [.non] ds ∧ Binds K fd ["self", "plan", "free"] ds := by
  obtain ⟨fd, F⟩ := Z.d_Ledger_init
  have k_Ledger := Z.k_Ledger
  have f_list := Z.f_list
  have b0 : Binds K fd ["self", "plan", "free"] [] := by
    obtain ⟨ds, v, b⟩ := F.binds1 (ps := ["self", "plan", "free"]) 3 1 (List.cons_ne_nil _ _) rfl fun _ _ _ _ _ _ _ us its hu hi => match us, its, hu, hi with | [_, _, _], [_], _, _ => ⟨_, rfl, rfl⟩
    cases v
    exact b
  refine ⟨fd, ?_, F.kp, b0, F.binds1 (ps := ["self", "plan", "free"]) 2 0 (List.cons_ne_nil _ _) rfl fun _ _ _ _ _ _ _ us its hu hi => match us, its, hu, hi with | [_, _], [_], _, _ => ⟨_, rfl, rfl⟩⟩
  refine fn_IO (Γ' := [.o (.obj .Ledger (.cons .s (.cons .s (.cons .s (.cons (.dT .s) (.cons (.dT (.lst .s)) (.cons (.dT .s) .nil))))))) true, .s, .b]) (Γ0 := [.s, .b]) (n := 0) (N := ["self", "plan", "free"]) F sc_Ledger_init rfl rfl rfl (fun cdv A outer s H E hr => ?_)
  have hN := sc_Ledger_init.nd
  exact (pdss_cons (pds_ofst 0 .Ledger 0 (.cons .s .nil) k_Ledger (pnw_s (pd_var 1)))
  (pdss_cons (pds_ofst 0 .Ledger 1 (.cons .s (.cons .s .nil)) k_Ledger (pnw_s (pd_new (pd_lst pda_nil))))
  (pdss_cons (pds_if (Γ' := [.o (.obj .Ledger (.cons .s (.cons .s .nil))) true, .s, .b]) (pdt_cmp og_notN (pd_varB 2) pd_non) (pdss_one (pds_ofld .Ledger 1 k_Ledger (pl_var 0) (pnw_s (pd_new (pd_callTyF cn_list (pd_varB 2) f_list))))) pdss_nil)
  (pdss_cons (pds_ofst 0 .Ledger 2 (.cons .s (.cons .s (.cons .s .nil))) k_Ledger (pnw_s pd_int))
  (pdss_cons (pds_ofst 0 .Ledger 3 (.cons .s (.cons .s (.cons .s (.cons (.dT .s) .nil)))) k_Ledger (pnw_n (.dT .s) pd_dT))
  (pdss_cons (pds_ofst 0 .Ledger 4 (.cons .s (.cons .s (.cons .s (.cons (.dT .s) (.cons (.dT (.lst .s)) .nil))))) k_Ledger (pnw_n (.dT (.lst .s)) pd_dT))
  (pdss_one (pds_ofst 0 .Ledger 5 (.cons .s (.cons .s (.cons .s (.cons (.dT .s) (.cons (.dT (.lst .s)) (.cons (.dT .s) .nil)))))) k_Ledger (pnw_n (.dT .s) pd_dT)))))))))
def sm_l_deed : SFn := (dSeq (dAsg 1 (dLst (dConsA (dTup (dConsA (dC (.str "lay")) (dConsA (dTup (dConsA (dC (.int 0)) (dConsA (dC (.int 1)) dNilA))) dNilA))) (dConsA (dTup (dConsA (dC (.str "say")) (dConsA (dTup (dConsA (dC (.int 1)) (dConsA (dC (.int 0)) dNilA))) (dConsA (dTup (dConsA (dC (.int 0)) dNilA)) dNilA)))) (dConsA (dTup (dConsA (dC (.str "say")) (dConsA (dTup (dConsA (dC (.int 0)) (dConsA (dC (.int 1)) dNilA))) (dConsA (dTup (dConsA (dC (.int 1)) (dConsA (dC (.int 0)) dNilA))) dNilA)))) (dConsA (dTup (dConsA (dC (.str "wait")) dNilA)) (dConsA (dTup (dConsA (dC (.str "lay")) (dConsA (dTup (dConsA (dC (.int 5)) (dConsA (dC (.int 5)) dNilA))) dNilA))) dNilA)))))))
  (dRet (d2 gIx (dVar 1) (d2 gMod (dVar 0) (dC (.int 5))))))
def fn_l_deed : List D → Rs := runF false 1 sm_l_deed
theorem sc_l_deed : FnScope ["_law_cell", "_law_some"] ["_law_cell"] (defScope (top 22)) := ⟨rfl, rfl, rfl, by decide +kernel, rfl, by decide +kernel, by decide +kernel⟩
theorem ok_l_deed (Z : Fc K mg) : ∃ fd, FnOk P w K mg base (L2N.CX P w) 1 (He.fAd K dd_l_deed.at_) fd ["_law_cell"] (SpD ⟨K, ca K⟩ [.s] false fn_l_deed) ∧ PySem.W.keepIn K (.ref (He.fAd K dd_l_deed.at_)) = true ∧ Binds K fd ["_law_cell"] [] := by
  obtain ⟨fd, F⟩ := Z.d_l_deed
  refine ⟨fd, ?_, F.kp, F.bindsN fun _ _ _ _ _ _ us hl => match us, hl with | [_], _ => rfl⟩
  refine fn_D (Γ' := []) (Γ0 := [.s]) (n := 1) (N := ["_law_cell", "_law_some"]) F sc_l_deed rfl rfl (fun cdv A outer s H E hr => ?_)
  have hN := sc_l_deed.nd
  exact (pdss_cons (pds_set 1 (pd_new (pd_lst (pda_cons (pd_tup (pda_cons pd_str (pda_cons (pd_tup (pda_cons pd_int (pda_cons pd_int pda_nil))) pda_nil))) (pda_cons (pd_tup (pda_cons pd_str (pda_cons (pd_tup (pda_cons pd_int (pda_cons pd_int pda_nil))) (pda_cons (pd_tup (pda_cons pd_int pda_nil)) pda_nil)))) (pda_cons (pd_tup (pda_cons pd_str (pda_cons (pd_tup (pda_cons pd_int (pda_cons pd_int pda_nil))) (pda_cons (pd_tup (pda_cons pd_int (pda_cons pd_int pda_nil))) pda_nil)))) (pda_cons (pd_tup (pda_cons pd_str pda_nil)) (pda_cons (pd_tup (pda_cons pd_str (pda_cons (pd_tup (pda_cons pd_int (pda_cons pd_int pda_nil))) pda_nil))) pda_nil))))))) hN)
  (pdss_one (pds_ret (pd_ix (pd_var 1) (pd_bin bg_mod (pd_var 0) pd_int)))))
def sm_Free_init : SFn := (dSeq (dFst 0 .Free 0 (dLst dNilA))
  (dSeq (dFst 0 .Free 1 (dC .non))
  (dIfS (DL.tB (d1 (gIsi "list") (dVar 1))) (dPlSet .Free 0 (plV 0) (dCallF seqOf (dVar 1))) (fun _ => .bad))))
def fn_Free_init : List D → Rs := runI .Free 0 sm_Free_init
theorem sc_Free_init : FnScope ["self", "does"] ["self", "does"] (defScope (inClass (top 3) 0)) := ⟨rfl, rfl, rfl, by decide +kernel, rfl, by decide +kernel, by decide +kernel⟩
theorem ok_Free_init (Z : Fc K mg) : ∃ fd, FnOk P w K mg base (L2N.CX P w) 1 (He.fAd K dd_Free_init.at_) fd ["self", "does"] (SpIO ⟨K, ca K⟩ .Free (.obj .Free (.cons .s (.cons .s .nil))) [.b] fn_Free_init) ∧ PySem.W.keepIn K (.ref (He.fAd K dd_Free_init.at_)) = true ∧ Binds K fd ["self", "does"] [] := by
  obtain ⟨fd, F⟩ := Z.d_Free_init
  have k_Free := Z.k_Free
  have f_isinstance := Z.f_isinstance
  have f_list := Z.f_list
  refine ⟨fd, ?_, F.kp, F.bindsN fun _ _ _ _ _ _ us hl => match us, hl with | [_, _], _ => rfl⟩
  refine fn_IO (Γ' := [.o (.obj .Free (.cons .s (.cons .s .nil))) true, .b]) (Γ0 := [.b]) (n := 0) (N := ["self", "does"]) F sc_Free_init rfl rfl rfl (fun cdv A outer s H E hr => ?_)
  have hN := sc_Free_init.nd
  exact (pdss_cons (pds_ofst 0 .Free 0 (.cons .s .nil) k_Free (pnw_s (pd_new (pd_lst pda_nil))))
  (pdss_cons (pds_ofst 0 .Free 1 (.cons .s (.cons .s .nil)) k_Free (pnw_s pd_non))
  (pdss_one (pds_if (Γ' := [.o (.obj .Free (.cons .s (.cons .s .nil))) true, .b]) (pdt_val (pd_isi (pd_varB 1) f_isinstance f_list)) (pdss_one (pds_ofld .Free 0 k_Free (pl_var 0) (pnw_s (pd_new (pd_callTyF cn_list (pd_varB 1) f_list))))) pdss_never))))
def sm_Keeper_init : SFn := (dFst 0 .Keeper 0 (dVar 1))
def fn_Keeper_init : List D → Rs := runI .Keeper 0 sm_Keeper_init
theorem sc_Keeper_init : FnScope ["self", "me"] ["self", "me"] (defScope (inClass (top 4) 0)) := ⟨rfl, rfl, rfl, by decide +kernel, rfl, by decide +kernel, by decide +kernel⟩
theorem ok_Keeper_init (Z : Fc K mg) : ∃ fd, FnOk P w K mg base (L2N.CX P w) 1 (He.fAd K dd_Keeper_init.at_) fd ["self", "me"] (SpI ⟨K, ca K⟩ .Keeper [.s] fn_Keeper_init) ∧ PySem.W.keepIn K (.ref (He.fAd K dd_Keeper_init.at_)) = true ∧ Binds K fd ["self", "me"] [] := by
  obtain ⟨fd, F⟩ := Z.d_Keeper_init
  have k_Keeper := Z.k_Keeper
  refine ⟨fd, ?_, F.kp, F.bindsN fun _ _ _ _ _ _ us hl => match us, hl with | [_, _], _ => rfl⟩
  refine fn_I (Γ' := [.x, .s]) (Γ0 := [.s]) (n := 0) (N := ["self", "me"]) F sc_Keeper_init rfl rfl rfl (fun cdv A outer s H E hr => ?_)
  have hN := sc_Keeper_init.nd
  exact (pdss_one (pds_fst 0 .Keeper 0 k_Keeper (pd_var 1)))
def sm_l_cell_at : SFn := (dSeq (dIfS (DL.tB (d2 gLt (dVar 1) (dCall gLen (dConsA (dVar 0) dNilA)))) (dRet (d2 gIx (dVar 0) (dVar 1))) dNext)
  (dRet (dC (.int 0))))
def fn_l_cell_at : List D → Rs := runF false 0 sm_l_cell_at
theorem sc_l_cell_at : FnScope ["_law_script", "_law_k"] ["_law_script", "_law_k"] (defScope (top 20)) := ⟨rfl, rfl, rfl, by decide +kernel, rfl, by decide +kernel, by decide +kernel⟩
theorem ok_l_cell_at (Z : Fc K mg) : ∃ fd, FnOk P w K mg base (L2N.CX P w) 1 (He.fAd K dd_l_cell_at.at_) fd ["_law_script", "_law_k"] (SpD ⟨K, ca K⟩ [.s, .s] false fn_l_cell_at) ∧ PySem.W.keepIn K (.ref (He.fAd K dd_l_cell_at.at_)) = true ∧ Binds K fd ["_law_script", "_law_k"] [] := by
  obtain ⟨fd, F⟩ := Z.d_l_cell_at
  have f_len := Z.f_len
  refine ⟨fd, ?_, F.kp, F.bindsN fun _ _ _ _ _ _ us hl => match us, hl with | [_, _], _ => rfl⟩
  refine fn_D (Γ' := []) (Γ0 := [.s, .s]) (n := 0) (N := ["_law_script", "_law_k"]) F sc_l_cell_at rfl rfl (fun cdv A outer s H E hr => ?_)
  have hN := sc_l_cell_at.nd
  exact (pdss_cons (pds_if (Γ' := [.s, .s]) (pdt_cmp og_lt (pd_var 1) (pd_callB cg_len (pda_cons (pd_var 0) pda_nil) f_len)) (pdss_one (pds_ret (pd_ix (pd_var 0) (pd_var 1)))) pdss_nil)
  (pdss_one (pds_ret pd_int)))
def sm_Ledger_turn : SFn := (dRet (dImm (dFld .Ledger 2 (dVar 0))))
def fn_Ledger_turn : List D → Rs := runF false 0 sm_Ledger_turn
theorem sc_Ledger_turn : FnScope ["self"] ["self"] (defScope (inClass (top 10) 1)) := ⟨rfl, rfl, rfl, by decide +kernel, rfl, by decide +kernel, by decide +kernel⟩
theorem ok_Ledger_turn (Z : Fc K mg) : ∃ fd, FnOk P w K mg base (L2N.CX P w) 1 (He.fAd K dd_Ledger_turn.at_) fd ["self"] (SpD ⟨K, ca K⟩ [.b] false fn_Ledger_turn) ∧ PySem.W.keepIn K (.ref (He.fAd K dd_Ledger_turn.at_)) = true ∧ Binds K fd ["self"] [] := by
  obtain ⟨fd, F⟩ := Z.d_Ledger_turn
  have k_Ledger := Z.k_Ledger
  refine ⟨fd, ?_, F.kp, F.bindsN fun _ _ _ _ _ _ us hl => match us, hl with | [_], _ => rfl⟩
  refine fn_D (Γ' := []) (Γ0 := [.b]) (n := 0) (N := ["self"]) F sc_Ledger_turn rfl rfl (fun cdv A outer s H E hr => ?_)
  have hN := sc_Ledger_turn.nd
  exact (pdss_one (pds_ret (pd_imm (pd_fld .Ledger 2 k_Ledger (pd_varB 0)))))
def sm_Free_deeds : SFn := (dSeq (dAsg 2 (dFld .Free 1 (dVar 0)))
  (dSeq (dIfS (DL.tB (d2 gNotN (dVar 2) (dC .non))) (fun _ => .bad) dNext)
  (dRet (dLc (iLst (dFld .Free 0 (dVar 0))) (uTup (uCons (uName 3) (uCons (uName 4) uNil))) (DL.tB (d2 gEq (dVar 3) (dMeth .Ledger fn_Ledger_turn (dVar 1) dNilA []))) (dImm (dVar 4))))))
def fn_Free_deeds : List D → Rs := runF true 3 sm_Free_deeds
theorem sc_Free_deeds : FnScope ["self", "ledger", "act", "turn", "deed"] ["self", "ledger"] (defScope (inClass (top 3) 1)) := ⟨rfl, rfl, rfl, by decide +kernel, rfl, by decide +kernel, by decide +kernel⟩
theorem ok_Free_deeds (Z : Fc K mg) : ∃ fd, FnOk P w K mg base (L2N.CX P w) 2 (He.fAd K dd_Free_deeds.at_) fd ["self", "ledger"] (SpD ⟨K, ca K⟩ [.b, .b] true fn_Free_deeds) ∧ PySem.W.keepIn K (.ref (He.fAd K dd_Free_deeds.at_)) = true ∧ Binds K fd ["self", "ledger"] [] := by
  obtain ⟨fd, F⟩ := Z.d_Free_deeds
  obtain ⟨fd_Ledger_turn, F_Ledger_turn, kp_Ledger_turn, B_Ledger_turn⟩ := ok_Ledger_turn (P := P) (w := w) (base := base) Z
  have k_Free := Z.k_Free
  have k_Ledger := Z.k_Ledger
  have m_Ledger_turn := Z.m_Ledger_turn
  refine ⟨fd, ?_, F.kp, F.bindsN fun _ _ _ _ _ _ us hl => match us, hl with | [_, _], _ => rfl⟩
  refine fn_D (Γ' := []) (Γ0 := [.b, .b]) (n := 3) (N := ["self", "ledger", "act", "turn", "deed"]) F sc_Free_deeds rfl rfl (fun cdv A outer s H E hr => ?_)
  have hN := sc_Free_deeds.nd
  exact (pdss_cons (pds_setb 2 (pd_fld .Free 1 k_Free (pd_varB 0)) hN)
  (pdss_cons (pds_if (Γ' := [.b, .b, .b, .n, .n]) (pdt_cmp og_notN (pd_varB 2) pd_non) pdss_never pdss_nil)
  (pdss_one (pds_retn (pd_lc (sh := false) [("turn", 3), ("deed", 4)] (pdi_list (pd_fld .Free 0 k_Free (pd_varB 0))) hN (blkB_ok (by kernel_rfl)) (fun _ _ _ _ _ => (pdg_tup (pdgs_cons (pdg_name 3 hN) (pdgs_cons (pdg_name 4 hN) pdgs_nil)))) (fun _ _ _ _ _ => (pdts_one (pdt_cmp (og_eq hr) (pd_varB 3) (pd_meth0 .Ledger F_Ledger_turn k_Ledger m_Ledger_turn (hr.mono (by decide)) B_Ledger_turn .nil .nil (pd_varB 1))))) (fun _ _ _ _ _ => (pd_imm (pd_varB 4))))))))
def sm_l_alike (G : List D → Rs) : SFn := (dSeq (dIfS (DL.tB (d2 gIsN (dVar 1) (dC .non))) (dRet (d2 gIsN (dVar 0) (dC .non))) dNext)
  (dSeq (dIfS (DL.tB (d1 (gIsi "bool") (dVar 1))) (dRet (dAnd (d1 (gIsi "bool") (dVar 0)) (d2 gEq (dVar 0) (dVar 1)))) dNext)
  (dSeq (dIfS (DL.tB (d1 (gIsi "int") (dVar 1))) (dRet (dAnd (d1 (gIsi "int") (dVar 0)) (dAnd (dNot (d1 (gIsi "bool") (dVar 0))) (d2 gEq (dVar 0) (dVar 1))))) dNext)
  (dSeq (dIfS (DL.tB (d1 (gIsi "str") (dVar 1))) (dRet (dAnd (d1 (gIsi "str") (dVar 0)) (d2 gEq (dVar 0) (dVar 1)))) dNext)
  (dSeq (dIfS (tOrF (DL.tB (d2 gNe (d1 (gIsi "tuple") (dVar 1)) (d1 (gIsi "tuple") (dVar 0)))) (DL.tB (d2 gNe (d1 (gIsi "list") (dVar 1)) (d1 (gIsi "list") (dVar 0))))) (dRet (dC (.bl false))) dNext)
  (dSeq (dIfS (DL.tB (d2 gNe (dCall gLen (dConsA (dVar 0) dNilA)) (dCall gLen (dConsA (dVar 1) dNilA)))) (dRet (dC (.bl false))) dNext)
  (dRet (dCall gAll (dConsA (dLc (iRange1 (dCall gLen (dConsA (dVar 1) dNilA))) (uName 2) tTrue (dFun G (dConsA (d2 gIx (dVar 0) (dVar 2)) (dConsA (d2 gIx (dVar 1) (dVar 2)) dNilA)) [])) dNilA)))))))))
def fnR_l_alike : Nat → List D → Rs
  | 0 => runF false 1 (fun _ => .bad)
  | m + 1 => runF false 1 (sm_l_alike (fnR_l_alike m))
def fn_l_alike : List D → Rs := fnR_l_alike 5
theorem sc_l_alike : FnScope ["_law_found", "_law_due", "_law_k"] ["_law_found", "_law_due"] (defScope (top 21)) := ⟨rfl, rfl, rfl, by decide +kernel, rfl, by decide +kernel, by decide +kernel⟩
theorem okR_l_alike (Z : Fc K mg) : ∃ fd, (∀ m, FnOk P w K mg base (L2N.CX P w) (1 + m) (He.fAd K dd_l_alike.at_) fd ["_law_found", "_law_due"] (SpD ⟨K, ca K⟩ [.b, .b] false (fnR_l_alike m))) ∧ PySem.W.keepIn K (.ref (He.fAd K dd_l_alike.at_)) = true ∧ Binds K fd ["_law_found", "_law_due"] [] := by
  obtain ⟨fd, F⟩ := Z.d_l_alike
  have f_isinstance := Z.f_isinstance
  have f_bool := Z.f_bool
  have f_int := Z.f_int
  have f_str := Z.f_str
  have f_tuple := Z.f_tuple
  have f_list := Z.f_list
  have f_len := Z.f_len
  have f_all := Z.f_all
  have f_range := Z.f_range
  have g_l_alike := Z.g_l_alike
  have kp_l_alike := F.kp
  have B_l_alike : Binds K fd ["_law_found", "_law_due"] [] := F.bindsN fun _ _ _ _ _ _ us hl => match us, hl with | [_, _], _ => rfl
  refine ⟨fd, fun m => ?_, kp_l_alike, B_l_alike⟩
  induction m with
  | zero => exact fn_D (Γ' := []) (Γ0 := [.b, .b]) (n := 1) (N := ["_law_found", "_law_due", "_law_k"]) F sc_l_alike rfl rfl (fun cdv A outer s H E hr => pdss_never)
  | succ m F_l_alike =>
    refine fn_D (Γ' := []) (Γ0 := [.b, .b]) (n := 1) (N := ["_law_found", "_law_due", "_law_k"]) F sc_l_alike rfl rfl (fun cdv A outer s H E hr => ?_)
    have hN := sc_l_alike.nd
    exact (pdss_cons (pds_if (Γ' := [.b, .b, .n]) (pdt_cmp og_isN (pd_varB 1) pd_non) (pdss_one (pds_ret (pd_cmp og_isN (pd_varB 0) pd_non))) pdss_nil)
  (pdss_cons (pds_if (Γ' := [.b, .b, .n]) (pdt_val (pd_isi (pd_varB 1) f_isinstance f_bool)) (pdss_one (pds_ret (pd_and (pd_isi (pd_varB 0) f_isinstance f_bool) (pd_one (pd_cmp (og_eq hr) (pd_varB 0) (pd_varB 1)))))) pdss_nil)
  (pdss_cons (pds_if (Γ' := [.b, .b, .n]) (pdt_val (pd_isi (pd_varB 1) f_isinstance f_int)) (pdss_one (pds_ret (pd_and (pd_isi (pd_varB 0) f_isinstance f_int) (pd_and (pd_not (pd_isi (pd_varB 0) f_isinstance f_bool)) (pd_one (pd_cmp (og_eq hr) (pd_varB 0) (pd_varB 1))))))) pdss_nil)
  (pdss_cons (pds_if (Γ' := [.b, .b, .n]) (pdt_val (pd_isi (pd_varB 1) f_isinstance f_str)) (pdss_one (pds_ret (pd_and (pd_isi (pd_varB 0) f_isinstance f_str) (pd_one (pd_cmp (og_eq hr) (pd_varB 0) (pd_varB 1)))))) pdss_nil)
  (pdss_cons (pds_if (Γ' := [.b, .b, .n]) (pdt_w (pdw_or (pdt_cmp (og_ne hr) (pd_isi (pd_varB 1) f_isinstance f_tuple) (pd_isi (pd_varB 0) f_isinstance f_tuple)) (pdw_or1 (pdt_cmp (og_ne hr) (pd_isi (pd_varB 1) f_isinstance f_list) (pd_isi (pd_varB 0) f_isinstance f_list))))) (pdss_one (pds_ret pd_bl)) pdss_nil)
  (pdss_cons (pds_if (Γ' := [.b, .b, .n]) (pdt_cmp (og_ne hr) (pd_callB cg_len (pda_cons (pd_varB 0) pda_nil) f_len) (pd_callB cg_len (pda_cons (pd_varB 1) pda_nil) f_len)) (pdss_one (pds_ret pd_bl)) pdss_nil)
  (pdss_one (pds_ret (pd_callB cg_all (pda_cons (pd_new (pd_lc (sh := true) [("_law_k", 2)] (pdi_range1 (pd_callB cg_len (pda_cons (pd_varB 1) pda_nil) f_len) f_range) hN (blkB_ok (by kernel_rfl)) (fun _ _ _ _ _ => (pdg_name 2 hN)) (fun _ _ _ _ _ => pdts_nil) (fun _ _ _ _ _ => (pd_call F_l_alike (hr.mono (Nat.le_refl _)) g_l_alike kp_l_alike B_l_alike .nil .nil (pda_cons (pd_ix (pd_varB 0) (pd_var 2)) (pda_cons (pd_ix (pd_varB 1) (pd_var 2)) pda_nil)))))) pda_nil) f_all)))))))))
theorem ok_l_alike (Z : Fc K mg) : ∃ fd, FnOk P w K mg base (L2N.CX P w) 6 (He.fAd K dd_l_alike.at_) fd ["_law_found", "_law_due"] (SpD ⟨K, ca K⟩ [.b, .b] false fn_l_alike) ∧ PySem.W.keepIn K (.ref (He.fAd K dd_l_alike.at_)) = true ∧ Binds K fd ["_law_found", "_law_due"] [] :=
  let ⟨fd, F, k, b⟩ := okR_l_alike (P := P) (w := w) (base := base) Z
  ⟨fd, F 5, k, b⟩
def sm_Hand_deeds : SFn := (dRet (dLst dNilA))
def fn_Hand_deeds : List D → Rs := runF false 0 sm_Hand_deeds
theorem sc_Hand_deeds : FnScope ["self", "ledger"] ["self", "ledger"] (defScope (inClass (top 2) 0)) := ⟨rfl, rfl, rfl, by decide +kernel, rfl, by decide +kernel, by decide +kernel⟩
theorem ok_Hand_deeds (Z : Fc K mg) : ∃ fd, FnOk P w K mg base (L2N.CX P w) 1 (He.fAd K dd_Hand_deeds.at_) fd ["self", "ledger"] (SpD ⟨K, ca K⟩ [.b, .b] false fn_Hand_deeds) ∧ PySem.W.keepIn K (.ref (He.fAd K dd_Hand_deeds.at_)) = true ∧ Binds K fd ["self", "ledger"] [] := by
  obtain ⟨fd, F⟩ := Z.d_Hand_deeds
  refine ⟨fd, ?_, F.kp, F.bindsN fun _ _ _ _ _ _ us hl => match us, hl with | [_, _], _ => rfl⟩
  refine fn_D (Γ' := []) (Γ0 := [.b, .b]) (n := 0) (N := ["self", "ledger"]) F sc_Hand_deeds rfl rfl (fun cdv A outer s H E hr => ?_)
  have hN := sc_Hand_deeds.nd
  exact (pdss_one (pds_ret (pd_new (pd_lst pda_nil))))
def sm_Ledger_laid : SFn := (dRet (d1 gSortKeysT (dFld .Ledger 3 (dVar 0))))
def fn_Ledger_laid : List D → Rs := runF true 0 sm_Ledger_laid
theorem sc_Ledger_laid : FnScope ["self"] ["self"] (defScope (inClass (top 10) 8)) := ⟨rfl, rfl, rfl, by decide +kernel, rfl, by decide +kernel, by decide +kernel⟩
theorem ok_Ledger_laid (Z : Fc K mg) : ∃ fd, FnOk P w K mg base (L2N.CX P w) 1 (He.fAd K dd_Ledger_laid.at_) fd ["self"] (SpD ⟨K, ca K⟩ [.b] true fn_Ledger_laid) ∧ PySem.W.keepIn K (.ref (He.fAd K dd_Ledger_laid.at_)) = true ∧ Binds K fd ["self"] [] := by
  obtain ⟨fd, F⟩ := Z.d_Ledger_laid
  have f_sorted := Z.f_sorted
  have k_Ledger := Z.k_Ledger
  refine ⟨fd, ?_, F.kp, F.bindsN fun _ _ _ _ _ _ us hl => match us, hl with | [_], _ => rfl⟩
  refine fn_D (Γ' := []) (Γ0 := [.b]) (n := 0) (N := ["self"]) F sc_Ledger_laid rfl rfl (fun cdv A outer s H E hr => ?_)
  have hN := sc_Ledger_laid.nd
  exact (pdss_one (pds_retn (pd_sortKT hr (pd_fld .Ledger 3 k_Ledger (pd_varB 0)) f_sorted)))
def sm_Ledger_move : SFn := (dPlSet .Ledger 2 (plV 0) (d2 gAdd (plG (plF .Ledger 2 (plV 0))) (dC (.int 1))))
def fn_Ledger_move : List D → RsO := runO 0 sm_Ledger_move
theorem sc_Ledger_move : FnScope ["self"] ["self"] (defScope (inClass (top 10) 2)) := ⟨rfl, rfl, rfl, by decide +kernel, rfl, by decide +kernel, by decide +kernel⟩
theorem ok_Ledger_move (Z : Fc K mg) : ∃ fd, FnOk P w K mg base (L2N.CX P w) 1 (He.fAd K dd_Ledger_move.at_) fd ["self"] (SpO ⟨K, ca K⟩ (.obj .Ledger (.cons .s (.cons .s (.cons .s (.cons (.dT .s) (.cons (.dT (.lst .s)) (.cons (.dT .s) .nil))))))) [] fn_Ledger_move) ∧ PySem.W.keepIn K (.ref (He.fAd K dd_Ledger_move.at_)) = true ∧ Binds K fd ["self"] [] := by
  obtain ⟨fd, F⟩ := Z.d_Ledger_move
  have k_Ledger := Z.k_Ledger
  refine ⟨fd, ?_, F.kp, F.bindsN fun _ _ _ _ _ _ us hl => match us, hl with | [_], _ => rfl⟩
  refine fn_O (Γr := [.o (.obj .Ledger (.cons .s (.cons .s (.cons .s (.cons (.dT .s) (.cons (.dT (.lst .s)) (.cons (.dT .s) .nil))))))) true]) (Γ' := [.o (.obj .Ledger (.cons .s (.cons .s (.cons .s (.cons (.dT .s) (.cons (.dT (.lst .s)) (.cons (.dT .s) .nil))))))) true]) (Γ0 := []) (n := 0) (N := ["self"]) F sc_Ledger_move rfl rfl rfl rfl (fun cdv A outer s H E hr => ?_)
  have hN := sc_Ledger_move.nd
  exact (pdss_one (pds_ofld .Ledger 2 k_Ledger (pl_var 0) (pnw_s (pd_bin bg_add (pd_plS (pl_fld .Ledger 2 k_Ledger (pl_var 0))) pd_int))))
def sb_law_0 : SFn := (dSeq (dAsg 7 (dMethN .Free fn_Free_deeds (dVar 5) (dConsA (plG (plV 2)) dNilA) []))
  (dSeq (dAsg 8 (dLc (iLst (dVar 3)) (uTup (uCons (uName 10) (uCons (uName 11) uNil))) (DL.tB (d2 gEq (dVar 10) (dVar 6))) (dVar 11)))
  (dSeq (dIfS (tOrF (tNotF (DL.tB (dFun fn_l_alike (dConsA (dVar 7) (dConsA (dVar 8) dNilA)) []))) (DL.tB (d2 gNe (dMeth .Hand fn_Hand_deeds (dC (.obj .Hand [])) (dConsA (plG (plV 2)) dNilA) []) (dLst dNilA)))) (dRet (dC (.bl false))) dNext)
  (dSeq (dApp 7 (dTup (dConsA (dC (.str "lay")) (dConsA (dTup (dConsA (dC (.int 0)) (dConsA (dC (.int 1)) dNilA))) dNilA))))
  (dSeq (dIfS (tOrF (DL.tB (d2 gNe (dMethN .Ledger fn_Ledger_laid (plG (plV 2)) dNilA []) (dLst dNilA))) (DL.tB (d2 gNe (dMeth .Ledger fn_Ledger_turn (plG (plV 2)) dNilA []) (dVar 6)))) (dRet (dC (.bl false))) dNext)
  (dDropE (xFun (plV 2) fn_Ledger_move dNilA [])))))))
def sm_law : SFn := (dSeq (dAsg 1 (dFun fn_Plan_init (dConsA (dFun fn_Web_init (dConsA (dC (.int 2)) (dConsA (dLst (dConsA (dTup (dConsA (dC (.int 0)) (dConsA (dC (.int 1)) dNilA))) (dConsA (dTup (dConsA (dC (.int 1)) (dConsA (dC (.int 0)) dNilA))) dNilA))) dNilA)) []) (dConsA (dLst (dConsA (dC (.int 0)) dNilA)) (dConsA (dDispT2 (dTup (dConsA (dC (.int 0)) (dConsA (dC (.int 1)) dNilA))) (dC (.int 2)) (dTup (dConsA (dC (.int 1)) (dConsA (dC (.int 0)) dNilA))) (dC (.int 2))) dNilA))) []))
  (dSeq (dAsg 2 (dFun fn_Ledger_init (dConsA (dVar 1) (dConsA (dLst (dConsA (dC (.int 0)) (dConsA (dC (.int 1)) dNilA))) dNilA)) []))
  (dSeq (dAsg 3 (dLc (iLst (dCut (dVar 0) (oSome (dC (.int 1))) (oSome (dC (.int 31))))) (uName 9) tTrue (dTup (dConsA (d2 gAdd (dC (.int 1)) (d2 gMod (d2 gDiv (dVar 9) (dC (.int 5))) (dC (.int 9)))) (dConsA (dFun fn_l_deed (dConsA (dVar 9) dNilA) []) dNilA)))))
  (dSeq (dAsg 4 (dCallN seqOf (dVar 3)))
  (dSeq (dAsg 5 (dFun fn_Free_init (dConsA (dVar 4) dNilA) []))
  (dSeq (dApp 4 (dTup (dConsA (dC (.int 1)) (dConsA (dTup (dConsA (dC (.str "lay")) (dConsA (dTup (dConsA (dC (.int 1)) (dConsA (dC (.int 0)) dNilA))) dNilA))) dNilA))))
  (dSeq (dIfS (tOrF (tNotF (DL.tB (d1 (gIsI [.Free, .Keeper] .Hand) (dVar 5)))) (tOrF (tNotF (DL.tB (d1 (gIsI [.Free, .Keeper] .Hand) (dFun fn_Keeper_init (dConsA (dC (.int 0)) dNilA) [])))) (DL.tB (d1 (gIsI [.Free, .Keeper] .Keeper) (dVar 5))))) (dRet (dC (.bl false))) dNext)
  (dSeq (dIfS (tOrF (DL.tB (d1 (gIsI [.Free, .Keeper] .Free) (dFun fn_Keeper_init (dConsA (dC (.int 1)) dNilA) []))) (DL.tB (d2 gNe (dCut (dVar 4) oNone (oSome (d1 gNeg (dC (.int 1))))) (dVar 3)))) (dRet (dC (.bl false))) dNext)
  (dSeq (dFor (iRange2 (dC (.int 1)) (d2 gAdd (dC (.int 1)) (d2 gMod (dFun fn_l_cell_at (dConsA (dVar 0) (dConsA (dC (.int 0)) dNilA)) []) (dC (.int 12))))) (uName 6) sb_law_0)
  (dRet (dC (.bl true))))))))))))
def fn_law : List D → Rs := runF false 11 sm_law
theorem sc_law : FnScope ["_law_script", "_law_plan", "_law_ledger", "_law_rows", "_law_handed", "_law_free", "_law_turn", "_law_found", "_law_due", "_law_cell", "_law_at", "_law_deed_here"] ["_law_script"] (defScope (top 23)) := ⟨rfl, rfl, rfl, by decide +kernel, rfl, by decide +kernel, by decide +kernel⟩
theorem ok_law (Z : Fc K mg) {fd : FuncData} (F : FunD K dd_law.name dd_law.qual dd_law.params dd_law.body dd_law.scope (dd_law.dvs K) (dd_law.kws K) (He.fAd K dd_law.at_) fd) : FnOk P w K mg base (L2N.CX P w) 7 (He.fAd K dd_law.at_) fd ["_law_script"] (SpD ⟨K, ca K⟩ [.s] false fn_law) := by
  obtain ⟨fd_Plan_init, F_Plan_init, kp_Plan_init, B_Plan_init⟩ := ok_Plan_init (P := P) (w := w) (base := base) Z
  obtain ⟨fd_Web_init, F_Web_init, kp_Web_init, B_Web_init⟩ := ok_Web_init (P := P) (w := w) (base := base) Z
  obtain ⟨fd_Ledger_init, F_Ledger_init, kp_Ledger_init, B_Ledger_init_0, ds_Ledger_init, V_Ledger_init_1, B_Ledger_init_1⟩ := ok_Ledger_init (P := P) (w := w) (base := base) Z
  obtain ⟨fd_l_deed, F_l_deed, kp_l_deed, B_l_deed⟩ := ok_l_deed (P := P) (w := w) (base := base) Z
  obtain ⟨fd_Free_init, F_Free_init, kp_Free_init, B_Free_init⟩ := ok_Free_init (P := P) (w := w) (base := base) Z
  obtain ⟨fd_Keeper_init, F_Keeper_init, kp_Keeper_init, B_Keeper_init⟩ := ok_Keeper_init (P := P) (w := w) (base := base) Z
  obtain ⟨fd_l_cell_at, F_l_cell_at, kp_l_cell_at, B_l_cell_at⟩ := ok_l_cell_at (P := P) (w := w) (base := base) Z
  obtain ⟨fd_Free_deeds, F_Free_deeds, kp_Free_deeds, B_Free_deeds⟩ := ok_Free_deeds (P := P) (w := w) (base := base) Z
  obtain ⟨fd_l_alike, F_l_alike, kp_l_alike, B_l_alike⟩ := ok_l_alike (P := P) (w := w) (base := base) Z
  obtain ⟨fd_Hand_deeds, F_Hand_deeds, kp_Hand_deeds, B_Hand_deeds⟩ := ok_Hand_deeds (P := P) (w := w) (base := base) Z
  obtain ⟨fd_Ledger_laid, F_Ledger_laid, kp_Ledger_laid, B_Ledger_laid⟩ := ok_Ledger_laid (P := P) (w := w) (base := base) Z
  obtain ⟨fd_Ledger_turn, F_Ledger_turn, kp_Ledger_turn, B_Ledger_turn⟩ := ok_Ledger_turn (P := P) (w := w) (base := base) Z
  obtain ⟨fd_Ledger_move, F_Ledger_move, kp_Ledger_move, B_Ledger_move⟩ := ok_Ledger_move (P := P) (w := w) (base := base) Z
  have g_Plan := Z.g_Plan
  have M_Plan := Z.M_Plan
  have g_Web := Z.g_Web
  have M_Web := Z.M_Web
  have g_Ledger := Z.g_Ledger
  have M_Ledger := Z.M_Ledger
  have g_l_deed := Z.g_l_deed
  have f_list := Z.f_list
  have g_Free := Z.g_Free
  have M_Free := Z.M_Free
  have f_isinstance := Z.f_isinstance
  have g_Hand := Z.g_Hand
  have I_Hand := Z.I_Hand
  have k_Free := Z.k_Free
  have o_Free := Z.o_Free
  have k_Keeper := Z.k_Keeper
  have o_Keeper := Z.o_Keeper
  have g_Keeper := Z.g_Keeper
  have M_Keeper := Z.M_Keeper
  have I_Keeper := Z.I_Keeper
  have I_Free := Z.I_Free
  have f_range := Z.f_range
  have g_l_cell_at := Z.g_l_cell_at
  have m_Free_deeds := Z.m_Free_deeds
  have g_l_alike := Z.g_l_alike
  have k_Hand := Z.k_Hand
  have m_Hand_deeds := Z.m_Hand_deeds
  have Z_Hand := Z.Z_Hand
  have k_Ledger := Z.k_Ledger
  have m_Ledger_laid := Z.m_Ledger_laid
  have m_Ledger_turn := Z.m_Ledger_turn
  have m_Ledger_move := Z.m_Ledger_move
  refine fn_D (Γ' := []) (Γ0 := [.s]) (n := 11) (N := ["_law_script", "_law_plan", "_law_ledger", "_law_rows", "_law_handed", "_law_free", "_law_turn", "_law_found", "_law_due", "_law_cell", "_law_at", "_law_deed_here"]) F sc_law rfl rfl (fun cdv A outer s H E hr => ?_)
  have hN := sc_law.nd
  exact (pdss_cons (pds_set 1 (pd_new (pd_make .Plan M_Plan F_Plan_init (hr.mono (by decide)) g_Plan B_Plan_init .nil .nil (pda_cons (pd_new (pd_make .Web M_Web F_Web_init (hr.mono (by decide)) g_Web B_Web_init .nil .nil (pda_cons pd_int (pda_cons (pd_new (pd_lst (pda_cons (pd_tup (pda_cons pd_int (pda_cons pd_int pda_nil))) (pda_cons (pd_tup (pda_cons pd_int (pda_cons pd_int pda_nil))) pda_nil)))) pda_nil)))) (pda_cons (pd_new (pd_lst (pda_cons pd_int pda_nil))) (pda_cons (pd_new (pd_dispT2 hr (pd_tup (pda_cons pd_int (pda_cons pd_int pda_nil))) pd_int (pd_tup (pda_cons pd_int (pda_cons pd_int pda_nil))) pd_int)) pda_nil))))) hN)
  (pdss_cons (pds_seto 2 (pd_makeO .Ledger M_Ledger F_Ledger_init (hr.mono (by decide)) g_Ledger B_Ledger_init_0 .nil .nil (pda_cons (pd_var 1) (pda_cons (pd_new (pd_lst (pda_cons pd_int (pda_cons pd_int pda_nil)))) pda_nil))) hN)
  (pdss_cons (pds_setLc (sh := true) 3 [("_law_cell", 9)] (pdi_list (pd_new (pd_cut (pd_var 0) (pdo_some pd_int) (pdo_some pd_int)))) hN (blkB_ok (by kernel_rfl)) (fun _ _ _ _ _ => (pdg_name 9 hN)) (fun _ _ _ _ _ => pdts_nil) (fun _ _ _ _ _ => (pd_tup (pda_cons (pd_bin bg_add pd_int (pd_bin bg_mod (pd_bin bg_div (pd_var 9) pd_int) pd_int)) (pda_cons (pd_call F_l_deed (hr.mono (by decide)) g_l_deed kp_l_deed B_l_deed .nil .nil (pda_cons (pd_var 9) pda_nil)) pda_nil)))) (by rfl))
  (pdss_ahead (Γ1 := [.s, .s, .o (.obj .Ledger (.cons .s (.cons .s (.cons .s (.cons (.dT .s) (.cons (.dT (.lst .s)) (.cons (.dT .s) .nil))))))) false, .s, .n, .n, .n, .n, .n, .n, .n, .n]) (pdss_cons (pds_setn 4 (pd_callTyN cn_list (pd_var 3) f_list) hN)
  (pdss_cons (pds_set 5 (pd_nws (pd_makeO .Free M_Free F_Free_init (hr.mono (by decide)) g_Free B_Free_init .nil .nil (pda_cons (pd_varF 4) pda_nil))) hN)
  (pdss_cons (pds_app 4 (pd_tup (pda_cons pd_int (pda_cons (pd_tup (pda_cons pd_str (pda_cons (pd_tup (pda_cons pd_int (pda_cons pd_int pda_nil))) pda_nil))) pda_nil))))
  (pdss_ahead (Γ1 := [.s, .s, .o (.obj .Ledger (.cons .s (.cons .s (.cons .s (.cons (.dT .s) (.cons (.dT (.lst .s)) (.cons (.dT .s) .nil))))))) false, .s, .s, .s, .n, .n, .n, .n, .n, .n]) (pdss_cons (pds_if (Γ' := [.s, .s, .o (.obj .Ledger (.cons .s (.cons .s (.cons .s (.cons (.dT .s) (.cons (.dT (.lst .s)) (.cons (.dT .s) .nil))))))) false, .s, .s, .s, .n, .n, .n, .n, .n, .n]) (pdt_w (pdw_or (pdt_not (pdt_val (pd_isI .Hand [.Free, .Keeper] (List.forall_mem_cons.mpr ⟨o_Free, (List.forall_mem_cons.mpr ⟨o_Keeper, (fun _ z => nomatch z)⟩)⟩) I_Hand (pd_var 5) f_isinstance g_Hand))) (pdw_or (pdt_not (pdt_val (pd_isI .Hand [.Free, .Keeper] (List.forall_mem_cons.mpr ⟨o_Free, (List.forall_mem_cons.mpr ⟨o_Keeper, (fun _ z => nomatch z)⟩)⟩) I_Hand (pd_new (pd_make .Keeper M_Keeper F_Keeper_init (hr.mono (by decide)) g_Keeper B_Keeper_init .nil .nil (pda_cons pd_int pda_nil))) f_isinstance g_Hand))) (pdw_or1 (pdt_val (pd_isI .Keeper [.Free, .Keeper] (List.forall_mem_cons.mpr ⟨o_Free, (List.forall_mem_cons.mpr ⟨o_Keeper, (fun _ z => nomatch z)⟩)⟩) I_Keeper (pd_var 5) f_isinstance g_Keeper)))))) (pdss_one (pds_ret pd_bl)) pdss_nil)
  (pdss_cons (pds_if (Γ' := [.s, .s, .o (.obj .Ledger (.cons .s (.cons .s (.cons .s (.cons (.dT .s) (.cons (.dT (.lst .s)) (.cons (.dT .s) .nil))))))) false, .s, .s, .s, .n, .n, .n, .n, .n, .n]) (pdt_w (pdw_or (pdt_val (pd_isI .Free [.Free, .Keeper] (List.forall_mem_cons.mpr ⟨o_Free, (List.forall_mem_cons.mpr ⟨o_Keeper, (fun _ z => nomatch z)⟩)⟩) I_Free (pd_new (pd_make .Keeper M_Keeper F_Keeper_init (hr.mono (by decide)) g_Keeper B_Keeper_init .nil .nil (pda_cons pd_int pda_nil))) f_isinstance g_Free)) (pdw_or1 (pdt_cmp (og_ne hr) (pd_new (pd_cut (pd_var 4) pdo_none (pdo_some (pd_neg pd_int)))) (pd_var 3))))) (pdss_one (pds_ret pd_bl)) pdss_nil)
  (pdss_cons (pds_for (sh := true) (Γ := [.s, .s, .o (.obj .Ledger (.cons .s (.cons .s (.cons .s (.cons (.dT .s) (.cons (.dT (.lst .s)) (.cons (.dT .s) .nil))))))) false, .s, .s, .s, .n, .n, .n, .n, .n, .n]) (passes_of rfl) (pdi_range2 pd_int (pd_bin bg_add pd_int (pd_bin bg_mod (pd_call F_l_cell_at (hr.mono (by decide)) g_l_cell_at kp_l_cell_at B_l_cell_at .nil .nil (pda_cons (pd_var 0) (pda_cons pd_int pda_nil))) pd_int)) f_range) (pdg_name 6 hN)
  (pdss_after (Γ1 := [.s, .s, .o (.obj .Ledger (.cons .s (.cons .s (.cons .s (.cons (.dT .s) (.cons (.dT (.lst .s)) (.cons (.dT .s) .nil))))))) false, .s, .s, .s, .s, .f, .s, .n, .n, .n]) (pdss_cons (pds_setn 7 (pd_methN .Free F_Free_deeds k_Free m_Free_deeds (hr.mono (by decide)) B_Free_deeds .nil .nil (pd_var 5) (pda_cons (pd_pl (pl_var 2)) pda_nil)) hN)
  (pdss_cons (pds_setLc (sh := true) 8 [("_law_at", 10), ("_law_deed_here", 11)] (pdi_list (pd_var 3)) hN (blkB_ok (by kernel_rfl)) (fun _ _ _ _ _ => (pdg_tup (pdgs_cons (pdg_name 10 hN) (pdgs_cons (pdg_name 11 hN) pdgs_nil)))) (fun _ _ _ _ _ => (pdts_one (pdt_cmp (og_eq hr) (pd_var 10) (pd_var 6)))) (fun _ _ _ _ _ => (pd_var 11)) (by rfl))
  (pdss_ahead (Γ1 := [.s, .s, .o (.obj .Ledger (.cons .s (.cons .s (.cons .s (.cons (.dT .s) (.cons (.dT (.lst .s)) (.cons (.dT .s) .nil))))))) false, .s, .s, .s, .s, .f, .s, .n, .n, .n]) (pdss_cons (pds_if (Γ' := [.s, .s, .o (.obj .Ledger (.cons .s (.cons .s (.cons .s (.cons (.dT .s) (.cons (.dT (.lst .s)) (.cons (.dT .s) .nil))))))) false, .s, .s, .s, .s, .f, .s, .n, .n, .n]) (pdt_w (pdw_or (pdt_not (pdt_val (pd_call F_l_alike (hr.mono (by decide)) g_l_alike kp_l_alike B_l_alike .nil .nil (pda_cons (pd_varF 7) (pda_cons (pd_var 8) pda_nil))))) (pdw_or1 (pdt_cmp (og_ne hr) (pd_meth .Hand F_Hand_deeds k_Hand m_Hand_deeds (hr.mono (by decide)) B_Hand_deeds .nil .nil (pd_new (pd_newO .Hand Z_Hand g_Hand)) (pda_cons (pd_pl (pl_var 2)) pda_nil)) (pd_new (pd_lst pda_nil)))))) (pdss_ahead (Γ1 := [.s, .s, .o (.obj .Ledger (.cons .s (.cons .s (.cons .s (.cons (.dT .s) (.cons (.dT (.lst .s)) (.cons (.dT .s) .nil))))))) false, .s, .s, .s, .s, .s, .s, .n, .n, .n]) (pdss_one (pds_ret pd_bl))) pdss_nil)
  (pdss_cons (pds_app 7 (pd_tup (pda_cons pd_str (pda_cons (pd_tup (pda_cons pd_int (pda_cons pd_int pda_nil))) pda_nil))))
  (pdss_cons (pds_if (Γ' := [.s, .s, .o (.obj .Ledger (.cons .s (.cons .s (.cons .s (.cons (.dT .s) (.cons (.dT (.lst .s)) (.cons (.dT .s) .nil))))))) false, .s, .s, .s, .s, .f, .s, .n, .n, .n]) (pdt_w (pdw_or (pdt_cmp (og_ne hr) (pd_new (pd_meth0N .Ledger F_Ledger_laid k_Ledger m_Ledger_laid (hr.mono (by decide)) B_Ledger_laid .nil .nil (pd_pl (pl_var 2)))) (pd_new (pd_lst pda_nil))) (pdw_or1 (pdt_cmp (og_ne hr) (pd_meth0 .Ledger F_Ledger_turn k_Ledger m_Ledger_turn (hr.mono (by decide)) B_Ledger_turn .nil .nil (pd_pl (pl_var 2))) (pd_var 6))))) (pdss_ahead (Γ1 := [.s, .s, .o (.obj .Ledger (.cons .s (.cons .s (.cons .s (.cons (.dT .s) (.cons (.dT (.lst .s)) (.cons (.dT .s) .nil))))))) false, .s, .s, .s, .s, .s, .s, .n, .n, .n]) (pdss_one (pds_ret pd_bl))) pdss_nil)
  (pdss_one (pds_exprE (px_methO0 .Ledger (L2N.takes_of rfl rfl rfl rfl) F_Ledger_move k_Ledger m_Ledger_move (hr.mono (by decide)) B_Ledger_move .nil .nil (pl_var 2))))))))))))
  (pdss_one (pds_ret pd_bl)))))))))))))
end
def looseL : List PySem.Str := (["_wall", "Hand", "Free", "Keeper", "SwapError", "NoWeb", "NoPlan", "Ledger", "are_leaders", "Plan", "LEAST_HANDS", "MOST_HANDS", "is_passing", "Web", "_law_cell_at", "_law_alike", "_law_deed"] : List PySem.Str)
abbrev RL : PySem.W.OpenRow := PySem.W.OpenLaw.row PySem.Challenge.rw_wordswap_k31_hands_and_rows
abbrev hkL : PySem.W.Hook := hookX 6 xsL faL fnL
def obL (s : PySem.W.SharedT) : Bool × He.AlD := obsX 6 xsL faL fnL (HandSHeadRun.getT s)
theorem obL_eq (s : PySem.W.SharedT) : obL s = hkL.obs s.abs := obsX_eq (HandSHeadRun.getT_eq s)
theorem runL (w : World) : HandSHeadRun.RunEq RL (PySem.W.view RL.prog [23]) hkL obL 4000 looseL w := by
  intro os
  kernel_rfl
theorem endL (hG : ∀ ns : List Int, ns.length ≤ 63 → fn_law [.scr ns] = .ok (.bl true)) : PySem.Challenge.rw_wordswap_k31_hands_and_rows.Holds := by
  w_on; o_law
  refine HandSHeadRun.head_any (r := PySem.W.OpenLaw.row PySem.Challenge.rw_wordswap_k31_hands_and_rows) (q := PySem.W.view (PySem.W.OpenLaw.row PySem.Challenge.rw_wordswap_k31_hands_and_rows).prog [23]) (H := hkL) (ob := obL) (M := 4000) (loose := looseL) (d := HandSHeadRun.topDef (PySem.W.OpenLaw.row PySem.Challenge.rw_wordswap_k31_hands_and_rows).prog 23) (kwd := []) obL_eq
    (by kernel_rfl) (fun s => by kernel_rfl) runL (by kernel_rfl) (by kernel_rfl) (by kernel_rfl) (by rfl) (by first | assumption | decide +kernel) (by decide +kernel) ⟨rfl, rfl, rfl, rfl, rfl, by decide +kernel⟩ ?hw ?hc
  case hw => w_witness2
  case hc =>
    refine walk_ofX (l := PySem.Challenge.rw_wordswap_k31_hands_and_rows) (n := 63) (k := 7) (x := "_law_script") rfl (by decide) (by kernel_rfl) ⟨rfl, by decide, by decide⟩ ?F
    intro w mg fa h Y G hmg0
    obtain ⟨K, KX, c⟩ := Y
    have hmg : mg ("law" : PySem.Str) = some (.ref fa) := by
      have e : (HandSHeadRun.topDef (PySem.W.OpenLaw.row PySem.Challenge.rw_wordswap_k31_hands_and_rows).prog 23).name = ("law" : PySem.Str) := by kernel_rfl
      rw [← e]
      exact hmg0
    have Z := fc_of KX G c
    have e := hmg.symm.trans (He.glo_ok KX G (c.d.fact 56 (f := .glo "law") rfl))
    cases e
    obtain ⟨fd, F⟩ := Z.d_law
    have b := FunD.bindsA (ps := ["_law_script"]) F fun _ _ _ _ _ _ us hl => match us, hl with | [_], _ => rfl
    refine ⟨K, fd, SpD ⟨K, ca K⟩ [.s] false fn_law, KX, fun s v => b s [v] rfl, fun H a ns hl _ hS => spD_law (c := ⟨K, ca K⟩) hS (hG ns hl), fun base _ _ => ?_⟩
    exact ok_law (P := (PySem.Challenge.rw_wordswap_k31_hands_and_rows).prog) (w := w) (base := base) Z F
end DL

namespace DL
open PySem PySem.Spec PyProof.Rows L2 Enc
theorem cell_at_eq (ns : List Int) (k : Nat) : fn_l_cell_at [.scr ns, .int k] = .ok (.int (ns.getD k 0)) := by
  unfold fn_l_cell_at sm_l_cell_at
  simp only [bindS, mapS, rng_len, dSeq_ap, seqK_nx, seqK_ret, seqK_cont, seqK_brk, seqK_exc, dNext_ap, dAsg_ap, asgK_some, dRet_ap, retK_some, dIfS_ap, ifK_true, ifK_false, dDrop_ap, dropK_some, dApp_ap, appK_some, dExt_ap, extK_some, dClear_ap, clearK_some, dFor_ap, forK_some, dUnpk_ap, unpK_some, dFst_ap, fstK_some, dRaise_ap, raiK_some, runF_ap, runK_ret, runK_nx, runK_exc, runI_ap, runIK_nx, runIK_exc, dVar_ap, dC_ap, d1_ap, d2_ap, tB_ap, asB_bl, tAndF_ap, tOrF_ap, tNotF_ap, dAnd_ap, dOr_ap, dNot_ap, dIf_ap, ite_and, ite_or, ite_andD, ite_orD, dNilA_ap, dConsA_ap, dTup_ap, dLst_ap, dImm_ap, oNone_ap, oSome_ap, asI_int, dCut_ap, cutK_lst, cutK_scr, dFld_ap, fldK_obj, dCall_ap, dCallN_ap, dFun_ap, okR_ok, dFunN_ap, okRN_lst, okRN_dI, okRN_dT, dMethN_ap, dMeth_ap, isObj_obj, uName_ap, uNil_ap, uCons_ap, uTup_ap, iLst_ap, lstOf_lst, lstOf_scr, iTupD_ap, tupOf_tup, iRev_ap, iEnum_ap, iRange1_ap, rng1K_int, iRange2_ap, rng2K_int, dLc_ap, tTrue_ap, dChain_ap, seqOf_lst, seqOf_tup, seqOf_scr, gLen_lst, gLen_tup, gLen_scr, gCat_lst, gAdd_int, gSub_int, gMul_int, gMod_int, gDiv_int, gLt_int, gLe_int, gGt_int, gGe_int, gMax2_int, gMin2_int, gIsi_lst, gEq_int, gNe_int, bindS, mapS, rng_len, Int.toNat_natCast, List.getElem?_cons_zero, List.getElem?_cons_succ, List.set_cons_zero, List.set_cons_succ, List.append_nil, List.nil_append, List.cons_append, List.replicate_succ, List.replicate_zero, List.length_map, List.length_cons, List.length_nil, Bool.not_true, Bool.not_false, decide_true, decide_false, reduceIte, Bool.false_eq_true, and_true, true_and, or_true, true_or, and_self, Bool.and_true, Bool.true_and, Bool.and_false, Bool.false_and, Bool.or_false, Bool.false_or, Bool.or_true, Bool.true_or, Int.reduceLT, Int.reduceLE, Int.reducePow, Int.reduceNeg, Int.reduceAdd, Int.reduceSub, Int.reduceMul, Int.reduceToNat, Nat.reduceLT, Nat.reduceAdd, Nat.reduceLeDiff, Nat.reducePow]
  by_cases h : (k : Int) < ns.length
  · rw [decide_eq_true h]
    simp only [bindS, mapS, rng_len, dSeq_ap, seqK_nx, seqK_ret, seqK_cont, seqK_brk, seqK_exc, dNext_ap, dAsg_ap, asgK_some, dRet_ap, retK_some, dIfS_ap, ifK_true, ifK_false, dDrop_ap, dropK_some, dApp_ap, appK_some, dExt_ap, extK_some, dClear_ap, clearK_some, dFor_ap, forK_some, dUnpk_ap, unpK_some, dFst_ap, fstK_some, dRaise_ap, raiK_some, runF_ap, runK_ret, runK_nx, runK_exc, runI_ap, runIK_nx, runIK_exc, dVar_ap, dC_ap, d1_ap, d2_ap, tB_ap, asB_bl, tAndF_ap, tOrF_ap, tNotF_ap, dAnd_ap, dOr_ap, dNot_ap, dIf_ap, ite_and, ite_or, ite_andD, ite_orD, dNilA_ap, dConsA_ap, dTup_ap, dLst_ap, dImm_ap, oNone_ap, oSome_ap, asI_int, dCut_ap, cutK_lst, cutK_scr, dFld_ap, fldK_obj, dCall_ap, dCallN_ap, dFun_ap, okR_ok, dFunN_ap, okRN_lst, okRN_dI, okRN_dT, dMethN_ap, dMeth_ap, isObj_obj, uName_ap, uNil_ap, uCons_ap, uTup_ap, iLst_ap, lstOf_lst, lstOf_scr, iTupD_ap, tupOf_tup, iRev_ap, iEnum_ap, iRange1_ap, rng1K_int, iRange2_ap, rng2K_int, dLc_ap, tTrue_ap, dChain_ap, seqOf_lst, seqOf_tup, seqOf_scr, gLen_lst, gLen_tup, gLen_scr, gCat_lst, gAdd_int, gSub_int, gMul_int, gMod_int, gDiv_int, gLt_int, gLe_int, gGt_int, gGe_int, gMax2_int, gMin2_int, gIsi_lst, gEq_int, gNe_int, bindS, mapS, rng_len, Int.toNat_natCast, List.getElem?_cons_zero, List.getElem?_cons_succ, List.set_cons_zero, List.set_cons_succ, List.append_nil, List.nil_append, List.cons_append, List.replicate_succ, List.replicate_zero, List.length_map, List.length_cons, List.length_nil, Bool.not_true, Bool.not_false, decide_true, decide_false, reduceIte, Bool.false_eq_true, and_true, true_and, or_true, true_or, and_self, Bool.and_true, Bool.true_and, Bool.and_false, Bool.false_and, Bool.or_false, Bool.false_or, Bool.or_true, Bool.true_or, Int.reduceLT, Int.reduceLE, Int.reducePow, Int.reduceNeg, Int.reduceAdd, Int.reduceSub, Int.reduceMul, Int.reduceToNat, Nat.reduceLT, Nat.reduceAdd, Nat.reduceLeDiff, Nat.reducePow]
    have h' : k < ns.length := by omega
    rw [gIx_scr (x := ns[k]) (by omega) (by simp [h'])]
    simp only [bindS, mapS, rng_len, dSeq_ap, seqK_nx, seqK_ret, seqK_cont, seqK_brk, seqK_exc, dNext_ap, dAsg_ap, asgK_some, dRet_ap, retK_some, dIfS_ap, ifK_true, ifK_false, dDrop_ap, dropK_some, dApp_ap, appK_some, dExt_ap, extK_some, dClear_ap, clearK_some, dFor_ap, forK_some, dUnpk_ap, unpK_some, dFst_ap, fstK_some, dRaise_ap, raiK_some, runF_ap, runK_ret, runK_nx, runK_exc, runI_ap, runIK_nx, runIK_exc, dVar_ap, dC_ap, d1_ap, d2_ap, tB_ap, asB_bl, tAndF_ap, tOrF_ap, tNotF_ap, dAnd_ap, dOr_ap, dNot_ap, dIf_ap, ite_and, ite_or, ite_andD, ite_orD, dNilA_ap, dConsA_ap, dTup_ap, dLst_ap, dImm_ap, oNone_ap, oSome_ap, asI_int, dCut_ap, cutK_lst, cutK_scr, dFld_ap, fldK_obj, dCall_ap, dCallN_ap, dFun_ap, okR_ok, dFunN_ap, okRN_lst, okRN_dI, okRN_dT, dMethN_ap, dMeth_ap, isObj_obj, uName_ap, uNil_ap, uCons_ap, uTup_ap, iLst_ap, lstOf_lst, lstOf_scr, iTupD_ap, tupOf_tup, iRev_ap, iEnum_ap, iRange1_ap, rng1K_int, iRange2_ap, rng2K_int, dLc_ap, tTrue_ap, dChain_ap, seqOf_lst, seqOf_tup, seqOf_scr, gLen_lst, gLen_tup, gLen_scr, gCat_lst, gAdd_int, gSub_int, gMul_int, gMod_int, gDiv_int, gLt_int, gLe_int, gGt_int, gGe_int, gMax2_int, gMin2_int, gIsi_lst, gEq_int, gNe_int, bindS, mapS, rng_len, Int.toNat_natCast, List.getElem?_cons_zero, List.getElem?_cons_succ, List.set_cons_zero, List.set_cons_succ, List.append_nil, List.nil_append, List.cons_append, List.replicate_succ, List.replicate_zero, List.length_map, List.length_cons, List.length_nil, Bool.not_true, Bool.not_false, decide_true, decide_false, reduceIte, Bool.false_eq_true, and_true, true_and, or_true, true_or, and_self, Bool.and_true, Bool.true_and, Bool.and_false, Bool.false_and, Bool.or_false, Bool.false_or, Bool.or_true, Bool.true_or, Int.reduceLT, Int.reduceLE, Int.reducePow, Int.reduceNeg, Int.reduceAdd, Int.reduceSub, Int.reduceMul, Int.reduceToNat, Nat.reduceLT, Nat.reduceAdd, Nat.reduceLeDiff, Nat.reducePow]
    simp [h']
  · rw [decide_eq_false h]
    simp only [bindS, mapS, rng_len, dSeq_ap, seqK_nx, seqK_ret, seqK_cont, seqK_brk, seqK_exc, dNext_ap, dAsg_ap, asgK_some, dRet_ap, retK_some, dIfS_ap, ifK_true, ifK_false, dDrop_ap, dropK_some, dApp_ap, appK_some, dExt_ap, extK_some, dClear_ap, clearK_some, dFor_ap, forK_some, dUnpk_ap, unpK_some, dFst_ap, fstK_some, dRaise_ap, raiK_some, runF_ap, runK_ret, runK_nx, runK_exc, runI_ap, runIK_nx, runIK_exc, dVar_ap, dC_ap, d1_ap, d2_ap, tB_ap, asB_bl, tAndF_ap, tOrF_ap, tNotF_ap, dAnd_ap, dOr_ap, dNot_ap, dIf_ap, ite_and, ite_or, ite_andD, ite_orD, dNilA_ap, dConsA_ap, dTup_ap, dLst_ap, dImm_ap, oNone_ap, oSome_ap, asI_int, dCut_ap, cutK_lst, cutK_scr, dFld_ap, fldK_obj, dCall_ap, dCallN_ap, dFun_ap, okR_ok, dFunN_ap, okRN_lst, okRN_dI, okRN_dT, dMethN_ap, dMeth_ap, isObj_obj, uName_ap, uNil_ap, uCons_ap, uTup_ap, iLst_ap, lstOf_lst, lstOf_scr, iTupD_ap, tupOf_tup, iRev_ap, iEnum_ap, iRange1_ap, rng1K_int, iRange2_ap, rng2K_int, dLc_ap, tTrue_ap, dChain_ap, seqOf_lst, seqOf_tup, seqOf_scr, gLen_lst, gLen_tup, gLen_scr, gCat_lst, gAdd_int, gSub_int, gMul_int, gMod_int, gDiv_int, gLt_int, gLe_int, gGt_int, gGe_int, gMax2_int, gMin2_int, gIsi_lst, gEq_int, gNe_int, bindS, mapS, rng_len, Int.toNat_natCast, List.getElem?_cons_zero, List.getElem?_cons_succ, List.set_cons_zero, List.set_cons_succ, List.append_nil, List.nil_append, List.cons_append, List.replicate_succ, List.replicate_zero, List.length_map, List.length_cons, List.length_nil, Bool.not_true, Bool.not_false, decide_true, decide_false, reduceIte, Bool.false_eq_true, and_true, true_and, or_true, true_or, and_self, Bool.and_true, Bool.true_and, Bool.and_false, Bool.false_and, Bool.or_false, Bool.false_or, Bool.or_true, Bool.true_or, Int.reduceLT, Int.reduceLE, Int.reducePow, Int.reduceNeg, Int.reduceAdd, Int.reduceSub, Int.reduceMul, Int.reduceToNat, Nat.reduceLT, Nat.reduceAdd, Nat.reduceLeDiff, Nat.reducePow]
    have h' : ¬ k < ns.length := by omega
    simp [h']

structure Valid (n : Int) (ps : List (Int × Int)) : Prop where
  nd : ps.Nodup
  ok : ∀ p ∈ ps, 0 ≤ p.1 ∧ p.1 < n ∧ 0 ≤ p.2 ∧ p.2 < n ∧ p.1 ≠ p.2
theorem Valid.nil {n : Int} : Valid n [] := ⟨List.nodup_nil, fun _ h => nomatch h⟩
theorem Valid.snoc {n : Int} {ps : List (Int × Int)} (v : Valid n ps) {a b : Int} (h : (a, b) ∉ ps) (ha : 0 ≤ a ∧ a < n) (hb : 0 ≤ b ∧ b < n) (hn : a ≠ b) : Valid n (ps ++ [(a, b)]) := by
  refine ⟨?_, fun p hp => ?_⟩
  · rw [List.nodup_append]
    refine ⟨v.nd, by simp, fun x hx y hy => ?_⟩
    rw [List.mem_singleton] at hy
    subst hy
    exact fun e => h (e ▸ hx)
  · rcases List.mem_append.mp hp with hp | hp
    · exact v.ok p hp
    · rw [List.mem_singleton] at hp
      subst hp
      exact ⟨ha.1, ha.2, hb.1, hb.2, hn⟩
theorem Valid.perm {n : Int} {ps qs : List (Int × Int)} (v : Valid n ps) (h : qs.Perm ps) : Valid n qs := ⟨h.nodup_iff.mpr v.nd, fun p hp => v.ok p (h.mem_iff.mp hp)⟩
theorem nodup_rngI (lo : Int) (n : Nat) : (rngI lo n).Nodup := by
  unfold rngI
  rw [List.nodup_iff_pairwise_ne, List.pairwise_map]
  refine List.Pairwise.imp ?_ (List.nodup_iff_pairwise_ne.mp List.nodup_range)
  intro a b h e
  exact h (by omega)
/-- draws sorted with their places: an order of the places -/
theorem order_ok (X : Int → Int) (n : Nat) : ((sortE ((rngI 0 n).map fun k => (X k, k))).map (·.2)).Perm (rngI 0 n) := by
  unfold sortE
  refine ((List.mergeSort_perm _ _).map _).trans ?_
  rw [List.map_map]
  show (List.map (fun k => k) (rngI 0 n)).Perm _
  rw [List.map_id']
theorem notIn_pair (a b : Int) (ps : List (Int × Int)) : gNotIn (.tup [.int a, .int b]) (.lst (ps.map enc)) = some (.bl (!decide ((a, b) ∈ ps))) := (gNotIn_enc (a, b) ps).trans (by congr)

theorem is_passing_eq (n a b : Int) : fn_is_passing [.int n, .tup [.int a, .int b]] = .ok (.bl ((decide (0 ≤ a) && decide (a < n)) && ((decide (0 ≤ b) && decide (b < n)) && !decide (a = b)))) := by
  unfold fn_is_passing sm_is_passing
  simp only [bindS, mapS, rng_len, dSeq_ap, seqK_nx, seqK_ret, seqK_cont, seqK_brk, seqK_exc, dNext_ap, dAsg_ap, asgK_some, dRet_ap, retK_some, dIfS_ap, ifK_true, ifK_false, dDrop_ap, dropK_some, dApp_ap, appK_some, dExt_ap, extK_some, dClear_ap, clearK_some, dFor_ap, forK_some, dUnpk_ap, unpK_some, dFst_ap, fstK_some, dRaise_ap, raiK_some, runF_ap, runK_ret, runK_nx, runK_exc, runI_ap, runIK_nx, runIK_exc, dVar_ap, dC_ap, d1_ap, d2_ap, tB_ap, asB_bl, tAndF_ap, tOrF_ap, tNotF_ap, dAnd_ap, dOr_ap, dNot_ap, dIf_ap, ite_and, ite_or, ite_andD, ite_orD, dNilA_ap, dConsA_ap, dTup_ap, dLst_ap, dImm_ap, oNone_ap, oSome_ap, asI_int, dCut_ap, cutK_lst, cutK_scr, dFld_ap, fldK_obj, dCall_ap, dCallN_ap, dFun_ap, okR_ok, dFunN_ap, okRN_lst, okRN_dI, okRN_dT, dMethN_ap, dMeth_ap, isObj_obj, uName_ap, uNil_ap, uCons_ap, uTup_ap, iLst_ap, lstOf_lst, lstOf_scr, iTupD_ap, tupOf_tup, iRev_ap, iEnum_ap, iRange1_ap, rng1K_int, iRange2_ap, rng2K_int, dLc_ap, tTrue_ap, dChain_ap, seqOf_lst, seqOf_tup, seqOf_scr, gLen_lst, gLen_tup, gLen_scr, gCat_lst, gAdd_int, gSub_int, gMul_int, gMod_int, gDiv_int, gLt_int, gLe_int, gGt_int, gGe_int, gMax2_int, gMin2_int, gIsi_lst, gEq_int, gNe_int, bindS, mapS, rng_len, Int.toNat_natCast, List.getElem?_cons_zero, List.getElem?_cons_succ, List.set_cons_zero, List.set_cons_succ, List.append_nil, List.nil_append, List.cons_append, List.replicate_succ, List.replicate_zero, List.length_map, List.length_cons, List.length_nil, Bool.not_true, Bool.not_false, decide_true, decide_false, reduceIte, Bool.false_eq_true, and_true, true_and, or_true, true_or, and_self, Bool.and_true, Bool.true_and, Bool.and_false, Bool.false_and, Bool.or_false, Bool.false_or, Bool.or_true, Bool.true_or, Int.reduceLT, Int.reduceLE, Int.reducePow, Int.reduceNeg, Int.reduceAdd, Int.reduceSub, Int.reduceMul, Int.reduceToNat, Nat.reduceLT, Nat.reduceAdd, Nat.reduceLeDiff, Nat.reducePow, gLe_int, gLt_int, ite_andD]
theorem passing_ok {n : Int} {ps : List (Int × Int)} (v : Valid n ps) {p : Int × Int} (h : p ∈ ps) : fn_is_passing [.int n, enc p] = .ok (.bl true) := by
  obtain ⟨a, b⟩ := p
  obtain ⟨h1, h2, h3, h4, h5⟩ := v.ok _ h
  rw [enc_pair, is_passing_eq, decide_eq_true h1, decide_eq_true h2, decide_eq_true h3, decide_eq_true h4, decide_eq_false h5]
  rfl
theorem in_pair (p : Int × Int) (ps : List (Int × Int)) : gIn (enc p) (.lst (ps.map enc)) = some (.bl (decide (p ∈ ps))) := (gIn_enc p ps).trans (by congr)
def webD (n : Int) (ps : List (Int × Int)) : D := .obj .Web [.int n, .lst ((sortE ps).map enc)]
theorem Web_init_eq {n : Nat} {ps : List (Int × Int)} (h2 : 2 ≤ n) (h6 : n ≤ 6) (v : Valid n ps) (hl : ps.length ≤ 100000) : fn_Web_init [.int n, .lst (ps.map enc)] = .ok (webD n ps) := by
  have g2 : (2 : Int) ≤ n := by omega
  have g6 : (n : Int) ≤ 6 := by omega
  unfold fn_Web_init sm_Web_init
  simp only [bindS, mapS, rng_len, dSeq_ap, seqK_nx, seqK_ret, seqK_cont, seqK_brk, seqK_exc, dNext_ap, dAsg_ap, asgK_some, dRet_ap, retK_some, dIfS_ap, ifK_true, ifK_false, dDrop_ap, dropK_some, dApp_ap, appK_some, dExt_ap, extK_some, dClear_ap, clearK_some, dFor_ap, forK_some, dUnpk_ap, unpK_some, dFst_ap, fstK_some, dRaise_ap, raiK_some, runF_ap, runK_ret, runK_nx, runK_exc, runI_ap, runIK_nx, runIK_exc, dVar_ap, dC_ap, d1_ap, d2_ap, tB_ap, asB_bl, tAndF_ap, tOrF_ap, tNotF_ap, dAnd_ap, dOr_ap, dNot_ap, dIf_ap, ite_and, ite_or, ite_andD, ite_orD, dNilA_ap, dConsA_ap, dTup_ap, dLst_ap, dImm_ap, oNone_ap, oSome_ap, asI_int, dCut_ap, cutK_lst, cutK_scr, dFld_ap, fldK_obj, dCall_ap, dCallN_ap, dFun_ap, okR_ok, dFunN_ap, okRN_lst, okRN_dI, okRN_dT, dMethN_ap, dMeth_ap, isObj_obj, uName_ap, uNil_ap, uCons_ap, uTup_ap, iLst_ap, lstOf_lst, lstOf_scr, iTupD_ap, tupOf_tup, iRev_ap, iEnum_ap, iRange1_ap, rng1K_int, iRange2_ap, rng2K_int, dLc_ap, tTrue_ap, dChain_ap, seqOf_lst, seqOf_tup, seqOf_scr, gLen_lst, gLen_tup, gLen_scr, gCat_lst, gAdd_int, gSub_int, gMul_int, gMod_int, gDiv_int, gLt_int, gLe_int, gGt_int, gGe_int, gMax2_int, gMin2_int, gIsi_lst, gEq_int, gNe_int, bindS, mapS, rng_len, Int.toNat_natCast, List.getElem?_cons_zero, List.getElem?_cons_succ, List.set_cons_zero, List.set_cons_succ, List.append_nil, List.nil_append, List.cons_append, List.replicate_succ, List.replicate_zero, List.length_map, List.length_cons, List.length_nil, Bool.not_true, Bool.not_false, decide_true, decide_false, reduceIte, Bool.false_eq_true, and_true, true_and, or_true, true_or, and_self, Bool.and_true, Bool.true_and, Bool.and_false, Bool.false_and, Bool.or_false, Bool.false_or, Bool.or_true, Bool.true_or, Int.reduceLT, Int.reduceLE, Int.reducePow, Int.reduceNeg, Int.reduceAdd, Int.reduceSub, Int.reduceMul, Int.reduceToNat, Nat.reduceLT, Nat.reduceAdd, Nat.reduceLeDiff, Nat.reducePow, decide_eq_true g2, decide_eq_true g6]
  obtain ⟨ρ', e, z, z', rfl⟩ := forD_enum (en := (enc : Int × Int → D)) (u := uTup (uCons (uName 3) (uCons (uName 4) uNil))) (F := sb_Web_init_0) (xs := ps) (ρ := [.obj .Web [], .int n, .lst (ps.map enc), .non, .non])
    (fun i ρ => ∃ z z' : D, ρ = [.obj .Web [], .int n, .lst (ps.map enc), z, z']) ⟨_, _, rfl⟩ fun i p ρ hp ⟨z, z', e⟩ => by
      subst e
      have hm : p ∈ ps := List.mem_of_getElem? hp
      have hnt : p ∉ ps.take i := fun hc => by
        obtain ⟨j, hj, ej⟩ := List.mem_iff_getElem.mp hc
        rw [List.length_take] at hj
        rw [List.getElem_take] at ej
        have e2 : ps[j]? = some p := by rw [List.getElem?_eq_getElem (by omega), ej]
        rw [← hp] at e2
        have := (List.getElem?_inj (by omega) v.nd).mp e2
        omega
      refine ⟨_, _, rfl, .inl ?_, .int i, enc p, rfl⟩
      unfold sb_Web_init_0
      simp only [bindS, mapS, rng_len, dSeq_ap, seqK_nx, seqK_ret, seqK_cont, seqK_brk, seqK_exc, dNext_ap, dAsg_ap, asgK_some, dRet_ap, retK_some, dIfS_ap, ifK_true, ifK_false, dDrop_ap, dropK_some, dApp_ap, appK_some, dExt_ap, extK_some, dClear_ap, clearK_some, dFor_ap, forK_some, dUnpk_ap, unpK_some, dFst_ap, fstK_some, dRaise_ap, raiK_some, runF_ap, runK_ret, runK_nx, runK_exc, runI_ap, runIK_nx, runIK_exc, dVar_ap, dC_ap, d1_ap, d2_ap, tB_ap, asB_bl, tAndF_ap, tOrF_ap, tNotF_ap, dAnd_ap, dOr_ap, dNot_ap, dIf_ap, ite_and, ite_or, ite_andD, ite_orD, dNilA_ap, dConsA_ap, dTup_ap, dLst_ap, dImm_ap, oNone_ap, oSome_ap, asI_int, dCut_ap, cutK_lst, cutK_scr, dFld_ap, fldK_obj, dCall_ap, dCallN_ap, dFun_ap, okR_ok, dFunN_ap, okRN_lst, okRN_dI, okRN_dT, dMethN_ap, dMeth_ap, isObj_obj, uName_ap, uNil_ap, uCons_ap, uTup_ap, iLst_ap, lstOf_lst, lstOf_scr, iTupD_ap, tupOf_tup, iRev_ap, iEnum_ap, iRange1_ap, rng1K_int, iRange2_ap, rng2K_int, dLc_ap, tTrue_ap, dChain_ap, seqOf_lst, seqOf_tup, seqOf_scr, gLen_lst, gLen_tup, gLen_scr, gCat_lst, gAdd_int, gSub_int, gMul_int, gMod_int, gDiv_int, gLt_int, gLe_int, gGt_int, gGe_int, gMax2_int, gMin2_int, gIsi_lst, gEq_int, gNe_int, bindS, mapS, rng_len, Int.toNat_natCast, List.getElem?_cons_zero, List.getElem?_cons_succ, List.set_cons_zero, List.set_cons_succ, List.append_nil, List.nil_append, List.cons_append, List.replicate_succ, List.replicate_zero, List.length_map, List.length_cons, List.length_nil, Bool.not_true, Bool.not_false, decide_true, decide_false, reduceIte, Bool.false_eq_true, and_true, true_and, or_true, true_or, and_self, Bool.and_true, Bool.true_and, Bool.and_false, Bool.false_and, Bool.or_false, Bool.false_or, Bool.or_true, Bool.true_or, Int.reduceLT, Int.reduceLE, Int.reducePow, Int.reduceNeg, Int.reduceAdd, Int.reduceSub, Int.reduceMul, Int.reduceToNat, Nat.reduceLT, Nat.reduceAdd, Nat.reduceLeDiff, Nat.reducePow, passing_ok v hm, cut_lo (Int.natCast_nonneg i), in_pair, decide_eq_false hnt]
  rw [e]
  have hs : gSort (.lst (ps.map enc)) = some ((sortE ps).map enc) := gSort_enc ps hl
  simp only [bindS, mapS, rng_len, dSeq_ap, seqK_nx, seqK_ret, seqK_cont, seqK_brk, seqK_exc, dNext_ap, dAsg_ap, asgK_some, dRet_ap, retK_some, dIfS_ap, ifK_true, ifK_false, dDrop_ap, dropK_some, dApp_ap, appK_some, dExt_ap, extK_some, dClear_ap, clearK_some, dFor_ap, forK_some, dUnpk_ap, unpK_some, dFst_ap, fstK_some, dRaise_ap, raiK_some, runF_ap, runK_ret, runK_nx, runK_exc, runI_ap, runIK_nx, runIK_exc, dVar_ap, dC_ap, d1_ap, d2_ap, tB_ap, asB_bl, tAndF_ap, tOrF_ap, tNotF_ap, dAnd_ap, dOr_ap, dNot_ap, dIf_ap, ite_and, ite_or, ite_andD, ite_orD, dNilA_ap, dConsA_ap, dTup_ap, dLst_ap, dImm_ap, oNone_ap, oSome_ap, asI_int, dCut_ap, cutK_lst, cutK_scr, dFld_ap, fldK_obj, dCall_ap, dCallN_ap, dFun_ap, okR_ok, dFunN_ap, okRN_lst, okRN_dI, okRN_dT, dMethN_ap, dMeth_ap, isObj_obj, uName_ap, uNil_ap, uCons_ap, uTup_ap, iLst_ap, lstOf_lst, lstOf_scr, iTupD_ap, tupOf_tup, iRev_ap, iEnum_ap, iRange1_ap, rng1K_int, iRange2_ap, rng2K_int, dLc_ap, tTrue_ap, dChain_ap, seqOf_lst, seqOf_tup, seqOf_scr, gLen_lst, gLen_tup, gLen_scr, gCat_lst, gAdd_int, gSub_int, gMul_int, gMod_int, gDiv_int, gLt_int, gLe_int, gGt_int, gGe_int, gMax2_int, gMin2_int, gIsi_lst, gEq_int, gNe_int, bindS, mapS, rng_len, Int.toNat_natCast, List.getElem?_cons_zero, List.getElem?_cons_succ, List.set_cons_zero, List.set_cons_succ, List.append_nil, List.nil_append, List.cons_append, List.replicate_succ, List.replicate_zero, List.length_map, List.length_cons, List.length_nil, Bool.not_true, Bool.not_false, decide_true, decide_false, reduceIte, Bool.false_eq_true, and_true, true_and, or_true, true_or, and_self, Bool.and_true, Bool.true_and, Bool.and_false, Bool.false_and, Bool.or_false, Bool.false_or, Bool.or_true, Bool.true_or, Int.reduceLT, Int.reduceLE, Int.reducePow, Int.reduceNeg, Int.reduceAdd, Int.reduceSub, Int.reduceMul, Int.reduceToNat, Nat.reduceLT, Nat.reduceAdd, Nat.reduceLeDiff, Nat.reducePow, hs, fstK_some]
  rfl
theorem le_pair {p q : Int × Int} (h : (EncS.le p q : Bool) = true) : p.1 < q.1 ∨ (p.1 = q.1 ∧ p.2 ≤ q.2) := by
  have h' : leP p q = true := h
  unfold leP at h'
  simpa using h'
theorem givers_sorted (ps : List (Int × Int)) (h : Int) : ((sortE ps).filter fun p => decide (p.2 = h)).map (·.1) = sortE ((ps.filter fun p => decide (p.2 = h)).map (·.1)) := by
  refine sortE_of anti_int ?_ (((sortE_perm ps).filter _).map _)
  rw [List.pairwise_map, List.pairwise_filter]
  refine (sortE_pw ps).imp fun {a b} hab ha hb => ?_
  have := le_pair hab
  have ha' := of_decide_eq_true ha
  have hb' := of_decide_eq_true hb
  exact decide_eq_true (by omega)
theorem takers_sorted (ps : List (Int × Int)) (h : Int) : ((sortE ps).filter fun p => decide (p.1 = h)).map (·.2) = sortE ((ps.filter fun p => decide (p.1 = h)).map (·.2)) := by
  refine sortE_of anti_int ?_ (((sortE_perm ps).filter _).map _)
  rw [List.pairwise_map, List.pairwise_filter]
  refine (sortE_pw ps).imp fun {a b} hab ha hb => ?_
  have := le_pair hab
  have ha' := of_decide_eq_true ha
  have hb' := of_decide_eq_true hb
  exact decide_eq_true (by omega)

theorem nodup_len : ∀ {xs ys : List Int}, xs.Nodup → (∀ x ∈ xs, x ∈ ys) → xs.length ≤ ys.length
  | [], _, _, _ => Nat.zero_le _
  | x :: xs, ys, h, s => by
    obtain ⟨h1, h2⟩ := List.nodup_cons.mp h
    have hx := s x (.head _)
    have := nodup_len (ys := ys.erase x) h2 fun y hy => (List.mem_erase_of_ne (fun e => h1 (by rw [← e]; exact hy))).mpr (s y (.tail _ hy))
    rw [List.length_erase_of_mem hx] at this
    have : 0 < ys.length := List.length_pos_of_mem hx
    rw [List.length_cons]
    omega
theorem nodup_rng {xs : List Int} {n : Nat} (h : xs.Nodup) (b : ∀ x ∈ xs, 0 ≤ x ∧ x < n) : xs.length ≤ n := by
  have := nodup_len (ys := rngI 0 n) h fun x hx => mem_rngI.mpr (by have := b x hx; omega)
  rwa [rngI_length] at this

def lastI (c : List Int) : Int := c.getLast?.getD 0
theorem lastI_snoc (c : List Int) (t : Int) : lastI (c ++ [t]) = t := by
  unfold lastI
  rw [List.getLast?_concat]
  rfl

/-- a tuple of ints -/
def encT (c : List Int) : D := .tup (c.map .int)
theorem gd_encT (c : List Int) : gd 1 (encT c) = true := by
  unfold encT gd
  rw [List.all_eq_true]
  intro x hx
  obtain ⟨y, _, rfl⟩ := List.mem_map.mp hx
  rfl
theorem encT_inj {a b : List Int} (h : encT a = encT b) : a = b := map_inj (fun x y h => D.int.inj h) (D.tup.inj h)
theorem in_tup (x : Int) (ns : List Int) : gIn (.int x) (encT ns) = some (.bl (decide (x ∈ ns))) := in_int x ns
theorem notIn_tup (x : Int) (ns : List Int) : gNotIn (.int x) (encT ns) = some (.bl (!decide (x ∈ ns))) := notIn_int x ns
theorem ne_tups (cs : List (List Int)) : gNe (.lst (cs.map encT)) (.lst []) = some (.bl (!decide (cs = []))) := by
  have g1 : gd 2 (.lst (cs.map encT)) = true := by
    unfold gd
    rw [List.all_eq_true]
    intro x hx
    obtain ⟨y, _, rfl⟩ := List.mem_map.mp hx
    exact gd_encT y
  have g2 : gd 2 (.lst []) = true := by
    unfold gd
    rfl
  have h := gd_deq g1 g2
  unfold gNe
  rw [if_pos (okEq_gd g1 g2 (by decide))]
  unfold deq
  cases cs with
  | nil => rw [h.mpr rfl]; rfl
  | cons c cs =>
    cases q : PyData.eqv (toP (.lst ((c :: cs).map encT))) (toP (.lst [])) with
    | false => rfl
    | true => exact nomatch (D.lst.inj (h.mp q))
theorem gIx_tnn {c : List Int} {i : Int} {x : Int} (h : 0 ≤ i) (hx : c[i.toNat]? = some x) : gIx (encT c) (.int i) = some (.int x) := gIx_nn (en := D.int) h hx
theorem gIx_tlast {c : List Int} (h : c ≠ []) : gIx (encT c) (.int (-1)) = some (.int (lastI c)) := by
  have hl : 0 < c.length := List.length_pos_iff.mpr h
  refine gIx_neg (en := D.int) (xs := c) (by omega) (by omega) ?_
  unfold lastI
  rw [List.getLast?_eq_getElem?, show (-1 + (c.length : Int)).toNat = c.length - 1 by omega, List.getElem?_eq_getElem (by omega)]
  rfl
theorem gNeg_int {a : Int} : gNeg (.int a) = some (.int (-a)) := (rfl)
theorem gCatT_tup {ds es : List D} (h : ds.length + es.length ≤ 100000) : gCatT (.tup ds) (.tup es) = some (.tup (ds ++ es)) := by
  unfold gCatT
  first | exact if_pos h | simp [h]
theorem gLen_encT (c : List Int) : gLen [encT c] = some (.int c.length) := by
  unfold encT
  rw [gLen_tup, List.length_map]

theorem gIsi_tup (c : List Int) : gIsi "tuple" (encT c) = some (.bl true) := by
  show (kitB "tuple" "tuple").map D.bl = _
  rfl
theorem gIsi_bool_int (i : Int) : gIsi "bool" (.int i) = some (.bl false) := by
  show (kitB "int" "bool").map D.bl = _
  rfl

theorem gEq_self {n : Nat} {a : D} (h : gd n a = true) (hn : n ≤ 60) : gEq a a = some (.bl true) := by
  unfold gEq deq
  rw [if_pos (okEq_gd h h hn), (gd_deq h h).mpr rfl]
theorem gNe_self {n : Nat} {a : D} (h : gd n a = true) (hn : n ≤ 60) : gNe a a = some (.bl false) := by
  unfold gNe deq
  rw [if_pos (okEq_gd h h hn), (gd_deq h h).mpr rfl]
  rfl

structure Tp where
  v : List Int
  deriving DecidableEq
instance : Enc Tp := ⟨fun t => encT t.v, 1, fun t => gd_encT t.v, fun x y h => by
  have := encT_inj h
  cases x
  cases y
  simp_all, by decide⟩
theorem tups_enc (cs : List (List Int)) : cs.map encT = (cs.map Tp.mk).map enc := by
  rw [List.map_map]
  rfl
theorem mem_tp {c : List Int} {cs : List (List Int)} : Tp.mk c ∈ cs.map Tp.mk ↔ c ∈ cs := by
  rw [List.mem_map]
  constructor
  · rintro ⟨d, h, e⟩
    cases e
    exact h
  · intro h
    exact ⟨c, h, rfl⟩
theorem notIn_tups (c : List Int) (cs : List (List Int)) : gNotIn (encT c) (.lst (cs.map encT)) = some (.bl (!decide (c ∈ cs))) := by
  rw [tups_enc]
  have h := gNotIn_enc (Tp.mk c) (cs.map Tp.mk)
  have h2 : gNotIn (encT c) (.lst ((cs.map Tp.mk).map enc)) = some (.bl (!decide (Tp.mk c ∈ cs.map Tp.mk))) := h
  rw [h2]
  congr 3
  exact decide_eq_decide.mpr mem_tp
theorem ne_tup0 (c : List Int) : gNe (encT c) (.tup []) = some (.bl (!decide (c = []))) := by
  have h := gNe_enc (Tp.mk c) (Tp.mk [])
  have h2 : gNe (encT c) (.tup []) = some (.bl (!decide (Tp.mk c = Tp.mk []))) := h
  rw [h2]
  congr 3
  exact decide_eq_decide.mpr ⟨fun e => by cases e; rfl, fun e => by rw [e]⟩
theorem gEq_bl (a b : Bool) : gEq (.bl a) (.bl b) = some (.bl (decide (a = b))) := by
  cases a <;> cases b <;> rfl

theorem eq_tup0 (c : List Int) : gEq (encT c) (.tup []) = some (.bl (decide (c = []))) := by
  have h := gEq_enc (Tp.mk c) (Tp.mk [])
  have h2 : gEq (encT c) (.tup []) = some (.bl (decide (Tp.mk c = Tp.mk []))) := h
  rw [h2]
  congr 2
  exact decide_eq_decide.mpr ⟨fun e => by cases e; rfl, fun e => by rw [e]⟩
theorem gNe_bl (a b : Bool) : gNe (.bl a) (.bl b) = some (.bl (!decide (a = b))) := by
  cases a <;> cases b <;> rfl
theorem gIsi_bool_bl (b : Bool) : gIsi "bool" (.bl b) = some (.bl true) := by
  show (kitB "bool" "bool").map D.bl = _
  rfl
theorem gIsB_bl (a b : Bool) : gIsB (.bl a) (.bl b) = some (.bl (decide (a = b))) := (rfl)
theorem gIsnotB_bl (a b : Bool) : gIsnotB (.bl a) (.bl b) = some (.bl (!decide (a = b))) := (rfl)
def cutL {α : Type} (xs : List α) (lo hi : Option Int) : List α := (xs.drop (HT.sIx xs.length 0 lo)).take (HT.sIx xs.length xs.length hi - HT.sIx xs.length 0 lo)
theorem cutL_len {α : Type} (xs : List α) (lo hi : Option Int) : (cutL xs lo hi).length ≤ xs.length := by
  unfold cutL
  rw [List.length_take, List.length_drop]
  omega
theorem cutD_map {α : Type} (f : α → D) (xs : List α) (lo hi : Option Int) : cutD (xs.map f) lo hi = (cutL xs lo hi).map f := by
  unfold cutD cutL
  rw [List.length_map, ← List.map_drop, ← List.map_take]
theorem cutL_lo {α : Type} (xs : List α) {k : Int} (h : 0 ≤ k) : cutL xs none (some k) = xs.take k.toNat := by
  unfold cutL
  rw [sIx_nn h, HT.sIx_none, Nat.sub_zero, List.drop_zero, List.take_eq_take_iff.mpr]
  omega
def cutTK (a : D) (l u : Option Int) : Option D := match a with
  | .tup ds => some (.tup (cutD ds l u))
  | _ => none
theorem dCutT_ap {f : DFn} {lo hi : List D → Option (Option Int)} {ρ : List D} : dCutT f lo hi ρ = (f ρ).bind fun a => (lo ρ).bind fun l => (hi ρ).bind fun u => cutTK a l u := (rfl)
theorem cutTK_enc (c : List Int) (l u : Option Int) : cutTK (encT c) l u = some (encT (cutL c l u)) := by
  show some (D.tup (cutD (c.map D.int) l u)) = _
  rw [cutD_map]
  rfl
theorem catT_enc {a b : List Int} (h : a.length + b.length ≤ 100000) : gCatT (encT a) (encT b) = some (encT (a ++ b)) := by
  unfold encT
  rw [gCatT_tup (by rw [List.length_map, List.length_map]; exact h), List.map_append]
theorem catT_one {a : List Int} {x : Int} (h : a.length + 1 ≤ 100000) : gCatT (encT a) (.tup [.int x]) = some (encT (a ++ [x])) := catT_enc (b := [x]) h
theorem gRevT_enc (c : List Int) : gRevT (encT c) = some (encT c.reverse) := by
  show some (D.tup (c.map D.int).reverse) = _
  rw [← List.map_reverse]
  rfl
theorem gTupOf_ints (c : List Int) : gTupOf (.lst (c.map .int)) = some (encT c) := (rfl)

theorem flats_ints : ∀ c : List Int, flats (c.map .int) = true
  | [] => by rw [List.map_nil, flats]
  | x :: c => by rw [List.map_cons, flats, flats_ints c, flat]; rfl
theorem flat_encT (c : List Int) : flat (encT c) = true := by
  unfold encT
  rw [flat]
  exact flats_ints c

/-! ### dicts of pairs -/
def dTP (kvs : List ((Int × Int) × Int)) : D := .dT (kvs.map fun q => ([q.1.1, q.1.2], .int q.2))
def lkP (kvs : List ((Int × Int) × Int)) (p : Int × Int) : Option Int := (kvs.find? fun q => decide (q.1 = p)).map (·.2)
theorem lkP_nil {p : Int × Int} : lkP [] p = none := rfl
theorem lkP_cons {q : (Int × Int) × Int} {r : List ((Int × Int) × Int)} {p : Int × Int} : lkP (q :: r) p = if q.1 = p then some q.2 else lkP r p := by
  unfold lkP
  rw [List.find?_cons]
  by_cases h : q.1 = p
  · rw [decide_eq_true h, if_pos h]
    rfl
  · rw [decide_eq_false h, if_neg h]
theorem pairK (p q : Int × Int) : ([p.1, p.2] = [q.1, q.2]) ↔ p = q := by
  obtain ⟨a, b⟩ := p
  obtain ⟨c, d⟩ := q
  simp
theorem valD_P (p : Int × Int) : ∀ kvs : List ((Int × Int) × Int), valD (kvs.map fun q => ([q.1.1, q.1.2], D.int q.2)) [p.1, p.2] = (lkP kvs p).map .int
  | [] => rfl
  | q :: r => by
    have ih := valD_P p r
    rw [lkP_cons]
    unfold valD at ih ⊢
    rw [List.map_cons, List.find?_cons]
    by_cases h : q.1 = p
    · have e : decide ([q.1.1, q.1.2] = [p.1, p.2]) = true := decide_eq_true ((pairK q.1 p).mpr h)
      rw [e, if_pos h]
      rfl
    · have e : decide ([q.1.1, q.1.2] = [p.1, p.2]) = false := decide_eq_false fun z => h ((pairK q.1 p).mp z)
      rw [e, if_neg h]
      exact ih
theorem asT_pair (p : Int × Int) : asT (enc p) = some [p.1, p.2] := rfl
theorem getP (kvs : List ((Int × Int) × Int)) (p : Int × Int) : getD' (dTP kvs) (enc p) = some ((lkP kvs p).map .int) := by
  show (asT (enc p)).map (fun k => valD (kvs.map fun q => ([q.1.1, q.1.2], D.int q.2)) k) = _
  rw [asT_pair]
  exact congrArg some (valD_P p kvs)
theorem lkP_some {kvs : List ((Int × Int) × Int)} {p : Int × Int} (h : p ∈ kvs.map (·.1)) : ∃ l, lkP kvs p = some l := by
  induction kvs with
  | nil => exact nomatch h
  | cons q r ih =>
    rw [lkP_cons]
    by_cases e : q.1 = p
    · exact ⟨q.2, if_pos e⟩
    · rw [if_neg e]
      rcases List.mem_cons.mp h with h | h
      · exact absurd h.symm e
      · exact ih h
theorem lkP_mem {kvs : List ((Int × Int) × Int)} (nd : (kvs.map (·.1)).Nodup) {q : (Int × Int) × Int} (h : q ∈ kvs) : lkP kvs q.1 = some q.2 := by
  induction kvs with
  | nil => exact nomatch h
  | cons x r ih =>
    rw [lkP_cons]
    rw [List.map_cons, List.nodup_cons] at nd
    rcases List.mem_cons.mp h with h | h
    · subst h
      exact if_pos rfl
    · rw [if_neg fun e => nd.1 (by rw [e]; exact List.mem_map.mpr ⟨q, h, rfl⟩)]
      exact ih nd.2 h
theorem gDIx_P {kvs : List ((Int × Int) × Int)} {p : Int × Int} {l : Int} (h : lkP kvs p = some l) : gDIx (dTP kvs) (enc p) = some (.int l) := by
  unfold gDIx
  rw [getP, h]
  rfl
theorem gDNotIn_P {kvs : List ((Int × Int) × Int)} {p : Int × Int} {l : Int} (h : lkP kvs p = some l) : gDNotIn (enc p) (dTP kvs) = some (.bl false) := by
  unfold gDNotIn
  rw [getP, h]
  rfl
theorem putP {kvs : List ((Int × Int) × Int)} {p : Int × Int} {l : Int} (h : p ∉ kvs.map (·.1)) (hl : kvs.length < 100000) : putD' (dTP kvs) (enc p) (.int l) = some (dTP (kvs ++ [(p, l)])) := by
  show (asT (enc p)).bind (fun k => if (kvs.map fun q => ([q.1.1, q.1.2], D.int q.2)).length < 100000 then some (D.dT (putD (kvs.map fun q => ([q.1.1, q.1.2], D.int q.2)) k (.int l))) else none) = _
  rw [asT_pair, Option.bind_some, if_pos (by rw [List.length_map]; exact hl)]
  unfold putD
  have e : ((kvs.map fun q => ([q.1.1, q.1.2], D.int q.2)).any fun kv => decide (kv.1 = [p.1, p.2])) = false := by
    rw [List.any_eq_false]
    intro x hx
    obtain ⟨q, hq, rfl⟩ := List.mem_map.mp hx
    simp only [decide_eq_true_eq]
    exact fun z => h (List.mem_map.mpr ⟨q, hq, (pairK q.1 p).mp z⟩)
  rw [if_neg (by rw [e]; decide)]
  unfold dTP
  rw [List.map_append]
  rfl
theorem keysP (kvs : List ((Int × Int) × Int)) : gKeysD (dTP kvs) = some (.lst ((kvs.map (·.1)).map enc)) := by
  show some (D.lst ((kvs.map fun q => ([q.1.1, q.1.2], D.int q.2)).map fun kv => .tup (kv.1.map .int))) = _
  rw [List.map_map, List.map_map]
  rfl
theorem asPairs_P (f : Int × Int → Int) : ∀ ps : List (Int × Int), asPairs (ps.map fun p => .tup [enc p, .int (f p)]) = some ((ps.map fun p => (p, f p)).map fun q => ([q.1.1, q.1.2], D.int q.2))
  | [] => rfl
  | p :: ps => by
    rw [List.map_cons]
    show (asT (enc p)).bind (fun ns => (asPairs (ps.map fun p => .tup [enc p, .int (f p)])).map ((ns, D.int (f p)) :: ·)) = _
    rw [asT_pair, Option.bind_some, asPairs_P f ps]
    rfl
theorem dictP_eq {f : Int × Int → Int} {ps : List (Int × Int)} (nd : ps.Nodup) : gDictP (.lst (ps.map fun p => .tup [enc p, .int (f p)])) = some (dTP (ps.map fun p => (p, f p))) := by
  unfold gDictP
  rw [lstOf_lst, Option.bind_some, asPairs_P, Option.bind_some, if_pos]
  · rfl
  · rw [List.map_map, List.map_map]
    refine (List.pairwise_map).mpr (nd.imp fun h z => h ((pairK _ _).mp z))
theorem leT_pair (p q : Int × Int) : gLeT (enc p) (enc q) = some (.bl (decide (p.1 < q.1 ∨ (p.1 = q.1 ∧ p.2 ≤ q.2)))) := by
  show (asT (enc p)).bind (fun ns => (asT (enc q)).bind fun ms => some (D.bl (leTB ns ms))) = _
  rw [asT_pair, asT_pair]
  show some (D.bl (leTB [p.1, p.2] [q.1, q.2])) = _
  congr 2
  show (if decide (p.1 = q.1) = true then (if decide (p.2 = q.2) = true then decide (2 ≤ 2) else decide (p.2 ≤ q.2)) else decide (p.1 ≤ q.1)) = _
  by_cases h1 : p.1 = q.1
  · rw [decide_eq_true h1, if_pos rfl]
    by_cases h2 : p.2 = q.2
    · rw [decide_eq_true h2, if_pos rfl]
      exact (decide_eq_true (by omega)).symm
    · rw [decide_eq_false h2, if_neg (by decide)]
      exact decide_eq_decide.mpr (by omega)
  · rw [decide_eq_false h1, if_neg (by decide)]
    exact decide_eq_decide.mpr (by omega)

/-- leaders that rise -/
structure GoodL (n : Nat) (L : List Int) : Prop where
  ne : L ≠ []
  up : L.Pairwise (· < ·)
  b : ∀ x ∈ L, 0 ≤ x ∧ x < n
  len : L.length ≤ 6
theorem GoodL.ded {n : Nat} {L : List Int} (g : GoodL n L) : sortI (ded L) = L := sortI_ded (g.up.imp fun h => Int.le_of_lt h) (g.up.imp fun h => Int.ne_of_lt h)
theorem gIx_lastI {L : List Int} (h : L ≠ []) : gIx (.lst (L.map .int)) (.int (-1)) = some (.int (lastI L)) := gIx_tlast h
theorem lastI_mem {L : List Int} (h : L ≠ []) : lastI L ∈ L := by
  unfold lastI
  rw [List.getLast?_eq_some_getLast h]
  exact List.getLast_mem h
theorem are_leaders_eq {n : Nat} {ps : List (Int × Int)} {L : List Int} (g : GoodL n L) : fn_are_leaders [webD n ps, .lst (L.map .int)] = .ok (.bl true) := by
  have hl : 0 < L.length := List.length_pos_iff.mpr g.ne
  have q0 : decide ((L.length : Int) = 0) = false := decide_eq_false (by omega)
  have hs : gSortSet (.lst (L.map .int)) = some (.lst (L.map .int)) := by
    rw [gSortSet_lst (by have := g.len; omega), g.ded]
  have hne : gNe (.lst (L.map .int)) (.lst (L.map .int)) = some (.bl false) := by rw [ne_ints, decide_eq_true rfl]; rfl
  obtain ⟨x, hx⟩ : ∃ x, L[0]? = some x := ⟨_, List.getElem?_eq_getElem hl⟩
  have i0 : gIx (.lst (L.map .int)) (.int 0) = some (.int x) := gIx_nn (en := D.int) (by decide) hx
  have h0 := g.b x (List.mem_of_getElem? hx)
  have h1 := g.b _ (lastI_mem g.ne)
  have q1 : decide (0 ≤ x) = true := decide_eq_true h0.1
  have q2 : decide (lastI L < (n : Int)) = true := decide_eq_true h1.2
  unfold fn_are_leaders sm_are_leaders webD
  simp only [bindS, mapS, rng_len, dSeq_ap, seqK_nx, seqK_ret, seqK_cont, seqK_brk, seqK_exc, dNext_ap, dAsg_ap, asgK_some, dRet_ap, retK_some, dIfS_ap, ifK_true, ifK_false, dDrop_ap, dropK_some, dApp_ap, appK_some, dExt_ap, extK_some, dClear_ap, clearK_some, dFor_ap, forK_some, dUnpk_ap, unpK_some, dFst_ap, fstK_some, dRaise_ap, raiK_some, runF_ap, runK_ret, runK_nx, runK_exc, runI_ap, runIK_nx, runIK_exc, dVar_ap, dC_ap, d1_ap, d2_ap, tB_ap, asB_bl, tAndF_ap, tOrF_ap, tNotF_ap, dAnd_ap, dOr_ap, dNot_ap, dIf_ap, ite_and, ite_or, ite_andD, ite_orD, dNilA_ap, dConsA_ap, dTup_ap, dLst_ap, dImm_ap, oNone_ap, oSome_ap, asI_int, dCut_ap, cutK_lst, cutK_scr, dFld_ap, fldK_obj, dCall_ap, dCallN_ap, dFun_ap, okR_ok, dFunN_ap, okRN_lst, okRN_dI, okRN_dT, dMethN_ap, dMeth_ap, isObj_obj, uName_ap, uNil_ap, uCons_ap, uTup_ap, iLst_ap, lstOf_lst, lstOf_scr, iTupD_ap, tupOf_tup, iRev_ap, iEnum_ap, iRange1_ap, rng1K_int, iRange2_ap, rng2K_int, dLc_ap, tTrue_ap, dChain_ap, seqOf_lst, seqOf_tup, seqOf_scr, gLen_lst, gLen_tup, gLen_scr, gCat_lst, gAdd_int, gSub_int, gMul_int, gMod_int, gDiv_int, gLt_int, gLe_int, gGt_int, gGe_int, gMax2_int, gMin2_int, gIsi_lst, gEq_int, gNe_int, bindS, mapS, rng_len, Int.toNat_natCast, List.getElem?_cons_zero, List.getElem?_cons_succ, List.set_cons_zero, List.set_cons_succ, List.append_nil, List.nil_append, List.cons_append, List.replicate_succ, List.replicate_zero, List.length_map, List.length_cons, List.length_nil, Bool.not_true, Bool.not_false, decide_true, decide_false, reduceIte, Bool.false_eq_true, and_true, true_and, or_true, true_or, and_self, Bool.and_true, Bool.true_and, Bool.and_false, Bool.false_and, Bool.or_false, Bool.false_or, Bool.or_true, Bool.true_or, Int.reduceLT, Int.reduceLE, Int.reducePow, Int.reduceNeg, Int.reduceAdd, Int.reduceSub, Int.reduceMul, Int.reduceToNat, Nat.reduceLT, Nat.reduceAdd, Nat.reduceLeDiff, Nat.reducePow, dDGet2_ap, dPut_ap, dForE_ap, forEK_some, dMethPop_ap, dImm_ap, gIsN_non, gNotN_non, isNon_int, isNon_non, flat_int, in_int, notIn_int, eq_ints, ne_ints, eq_nil, ne_nil, gDIn_dict, gDNotIn_dict, getD'_dict, dSetM_ap, setmK_non, setmK_lst, isNon_lst, gIsi_list_non, q0, hs, hne, i0, gGe_int, q1, gNeg_int, gIx_lastI g.ne, q2]
def planD (n : Int) (ps : List (Int × Int)) (L : List Int) (lim : Int × Int → Int) : D := .obj .Plan [webD n ps, .lst (L.map .int), dTP ((sortE ps).map fun p => (p, lim p))]
theorem Plan_init_eq {n : Nat} {ps : List (Int × Int)} {L : List Int} {kvs : List ((Int × Int) × Int)} {lim : Int × Int → Int} (v : Valid n ps) (hl : ps.length ≤ 1000) (g : GoodL n L) (hk : ∀ p ∈ ps, lkP kvs p = some (lim p)) :
    fn_Plan_init [webD n ps, .lst (L.map .int), dTP kvs] = .ok (planD n ps L lim) := by
  have hp := sortE_perm ps
  have hm : ∀ p ∈ sortE ps, lkP kvs p = some (lim p) := fun p h => hk p (hp.mem_iff.mp h)
  obtain ⟨ρ', e, z4, rfl⟩ := forD_map (en := (enc : Int × Int → D)) (u := uName 4) (F := sb_Plan_init_0) (all := sortE ps) (ρ := [.obj .Plan [], webD n ps, .lst (L.map .int), dTP kvs, .non])
    (fun done ρ => ∃ z4 : D, ρ = [.obj .Plan [], webD n ps, .lst (L.map .int), dTP kvs, z4]) ⟨_, rfl⟩ (fun done p rest ρ ed ⟨z4, e⟩ => by
      subst e
      have hpm : p ∈ sortE ps := by rw [← ed]; simp
      refine ⟨_, _, rfl, .inl (?_ : sb_Plan_init_0 _ = .nx [.obj .Plan [], webD n ps, .lst (L.map .int), dTP kvs, enc p]), _, rfl⟩
      unfold sb_Plan_init_0
      have hh := gDNotIn_P (hm p hpm)
      simp only [bindS, mapS, rng_len, dSeq_ap, seqK_nx, seqK_ret, seqK_cont, seqK_brk, seqK_exc, dNext_ap, dAsg_ap, asgK_some, dRet_ap, retK_some, dIfS_ap, ifK_true, ifK_false, dDrop_ap, dropK_some, dApp_ap, appK_some, dExt_ap, extK_some, dClear_ap, clearK_some, dFor_ap, forK_some, dUnpk_ap, unpK_some, dFst_ap, fstK_some, dRaise_ap, raiK_some, runF_ap, runK_ret, runK_nx, runK_exc, runI_ap, runIK_nx, runIK_exc, dVar_ap, dC_ap, d1_ap, d2_ap, tB_ap, asB_bl, tAndF_ap, tOrF_ap, tNotF_ap, dAnd_ap, dOr_ap, dNot_ap, dIf_ap, ite_and, ite_or, ite_andD, ite_orD, dNilA_ap, dConsA_ap, dTup_ap, dLst_ap, dImm_ap, oNone_ap, oSome_ap, asI_int, dCut_ap, cutK_lst, cutK_scr, dFld_ap, fldK_obj, dCall_ap, dCallN_ap, dFun_ap, okR_ok, dFunN_ap, okRN_lst, okRN_dI, okRN_dT, dMethN_ap, dMeth_ap, isObj_obj, uName_ap, uNil_ap, uCons_ap, uTup_ap, iLst_ap, lstOf_lst, lstOf_scr, iTupD_ap, tupOf_tup, iRev_ap, iEnum_ap, iRange1_ap, rng1K_int, iRange2_ap, rng2K_int, dLc_ap, tTrue_ap, dChain_ap, seqOf_lst, seqOf_tup, seqOf_scr, gLen_lst, gLen_tup, gLen_scr, gCat_lst, gAdd_int, gSub_int, gMul_int, gMod_int, gDiv_int, gLt_int, gLe_int, gGt_int, gGe_int, gMax2_int, gMin2_int, gIsi_lst, gEq_int, gNe_int, bindS, mapS, rng_len, Int.toNat_natCast, List.getElem?_cons_zero, List.getElem?_cons_succ, List.set_cons_zero, List.set_cons_succ, List.append_nil, List.nil_append, List.cons_append, List.replicate_succ, List.replicate_zero, List.length_map, List.length_cons, List.length_nil, Bool.not_true, Bool.not_false, decide_true, decide_false, reduceIte, Bool.false_eq_true, and_true, true_and, or_true, true_or, and_self, Bool.and_true, Bool.true_and, Bool.and_false, Bool.false_and, Bool.or_false, Bool.false_or, Bool.or_true, Bool.true_or, Int.reduceLT, Int.reduceLE, Int.reducePow, Int.reduceNeg, Int.reduceAdd, Int.reduceSub, Int.reduceMul, Int.reduceToNat, Nat.reduceLT, Nat.reduceAdd, Nat.reduceLeDiff, Nat.reducePow, dDGet2_ap, dPut_ap, dForE_ap, forEK_some, dMethPop_ap, dImm_ap, gIsN_non, gNotN_non, isNon_int, isNon_non, flat_int, in_int, notIn_int, eq_ints, ne_ints, eq_nil, ne_nil, gDIn_dict, gDNotIn_dict, getD'_dict, dSetM_ap, setmK_non, setmK_lst, isNon_lst, gIsi_list_non, hh])
  have hlc : ∀ ρ0, lcD (uName 4) tTrue (dTup (dConsA (dVar 4) (dConsA (d2 gDIx (dVar 3) (dVar 4)) dNilA))) [ρ0, webD n ps, .lst (L.map .int), dTP kvs, z4] ((sortE ps).map enc) = some ((sortE ps).map fun p => .tup [enc p, .int (lim p)]) := fun ρ0 => by
    have := lcD_map (en := (enc : Int × Int → D)) (en' := fun d : D => d) (u := uName 4) (t := tTrue) (f := dTup (dConsA (dVar 4) (dConsA (d2 gDIx (dVar 3) (dVar 4)) dNilA))) (ρ := [ρ0, webD n ps, .lst (L.map .int), dTP kvs, z4]) (fun _ => true) (fun p => D.tup [enc p, .int (lim p)]) (xs := sortE ps) fun p hp => ⟨_, rfl, rfl, fun _ => by
      have hh := gDIx_P (hm p hp)
      simp only [bindS, mapS, rng_len, dSeq_ap, seqK_nx, seqK_ret, seqK_cont, seqK_brk, seqK_exc, dNext_ap, dAsg_ap, asgK_some, dRet_ap, retK_some, dIfS_ap, ifK_true, ifK_false, dDrop_ap, dropK_some, dApp_ap, appK_some, dExt_ap, extK_some, dClear_ap, clearK_some, dFor_ap, forK_some, dUnpk_ap, unpK_some, dFst_ap, fstK_some, dRaise_ap, raiK_some, runF_ap, runK_ret, runK_nx, runK_exc, runI_ap, runIK_nx, runIK_exc, dVar_ap, dC_ap, d1_ap, d2_ap, tB_ap, asB_bl, tAndF_ap, tOrF_ap, tNotF_ap, dAnd_ap, dOr_ap, dNot_ap, dIf_ap, ite_and, ite_or, ite_andD, ite_orD, dNilA_ap, dConsA_ap, dTup_ap, dLst_ap, dImm_ap, oNone_ap, oSome_ap, asI_int, dCut_ap, cutK_lst, cutK_scr, dFld_ap, fldK_obj, dCall_ap, dCallN_ap, dFun_ap, okR_ok, dFunN_ap, okRN_lst, okRN_dI, okRN_dT, dMethN_ap, dMeth_ap, isObj_obj, uName_ap, uNil_ap, uCons_ap, uTup_ap, iLst_ap, lstOf_lst, lstOf_scr, iTupD_ap, tupOf_tup, iRev_ap, iEnum_ap, iRange1_ap, rng1K_int, iRange2_ap, rng2K_int, dLc_ap, tTrue_ap, dChain_ap, seqOf_lst, seqOf_tup, seqOf_scr, gLen_lst, gLen_tup, gLen_scr, gCat_lst, gAdd_int, gSub_int, gMul_int, gMod_int, gDiv_int, gLt_int, gLe_int, gGt_int, gGe_int, gMax2_int, gMin2_int, gIsi_lst, gEq_int, gNe_int, bindS, mapS, rng_len, Int.toNat_natCast, List.getElem?_cons_zero, List.getElem?_cons_succ, List.set_cons_zero, List.set_cons_succ, List.append_nil, List.nil_append, List.cons_append, List.replicate_succ, List.replicate_zero, List.length_map, List.length_cons, List.length_nil, Bool.not_true, Bool.not_false, decide_true, decide_false, reduceIte, Bool.false_eq_true, and_true, true_and, or_true, true_or, and_self, Bool.and_true, Bool.true_and, Bool.and_false, Bool.false_and, Bool.or_false, Bool.false_or, Bool.or_true, Bool.true_or, Int.reduceLT, Int.reduceLE, Int.reducePow, Int.reduceNeg, Int.reduceAdd, Int.reduceSub, Int.reduceMul, Int.reduceToNat, Nat.reduceLT, Nat.reduceAdd, Nat.reduceLeDiff, Nat.reducePow, dDGet2_ap, dPut_ap, dForE_ap, forEK_some, dMethPop_ap, dImm_ap, gIsN_non, gNotN_non, isNon_int, isNon_non, flat_int, in_int, notIn_int, eq_ints, ne_ints, eq_nil, ne_nil, gDIn_dict, gDNotIn_dict, getD'_dict, dSetM_ap, setmK_non, setmK_lst, isNon_lst, gIsi_list_non, hh]⟩
    rw [List.filter_eq_self.mpr fun _ _ => rfl, List.map_id'] at this
    exact this
  have nds : (sortE ps).Nodup := hp.nodup_iff.mpr v.nd
  have hle : (sortE ps).length ≤ 100000 := by rw [hp.length_eq]; omega
  have hd := dictP_eq (f := lim) nds
  have ha := are_leaders_eq (ps := ps) g
  have w1 : dFld .Web 1 (dVar 1) [.obj .Plan [], webD n ps, .lst (L.map .int), dTP kvs, .non] = some (.lst ((sortE ps).map enc)) := rfl
  have f1 : ∀ ds d ρ, fstK 0 .Plan 1 (some d) (some (.obj .Plan [ds])) ρ = .nx (ρ.set 0 (.obj .Plan [ds, d])) := fun _ _ _ => rfl
  have f0 : ∀ d ρ, fstK 0 .Plan 0 (some d) (some (.obj .Plan [])) ρ = .nx (ρ.set 0 (.obj .Plan [d])) := fun _ _ => rfl
  have f2 : ∀ a b d ρ, fstK 0 .Plan 2 (some d) (some (.obj .Plan [a, b])) ρ = .nx (ρ.set 0 (.obj .Plan [a, b, d])) := fun _ _ _ _ => rfl
  have wf : fldK .Web 1 (webD n ps) = some (.lst ((sortE ps).map enc)) := rfl
  unfold fn_Plan_init sm_Plan_init
  simp only [bindS, mapS, rng_len, dSeq_ap, seqK_nx, seqK_ret, seqK_cont, seqK_brk, seqK_exc, dNext_ap, dAsg_ap, asgK_some, dRet_ap, retK_some, dIfS_ap, ifK_true, ifK_false, dDrop_ap, dropK_some, dApp_ap, appK_some, dExt_ap, extK_some, dClear_ap, clearK_some, dFor_ap, forK_some, dUnpk_ap, unpK_some, dFst_ap, fstK_some, dRaise_ap, raiK_some, runF_ap, runK_ret, runK_nx, runK_exc, runI_ap, runIK_nx, runIK_exc, dVar_ap, dC_ap, d1_ap, d2_ap, tB_ap, asB_bl, tAndF_ap, tOrF_ap, tNotF_ap, dAnd_ap, dOr_ap, dNot_ap, dIf_ap, ite_and, ite_or, ite_andD, ite_orD, dNilA_ap, dConsA_ap, dTup_ap, dLst_ap, dImm_ap, oNone_ap, oSome_ap, asI_int, dCut_ap, cutK_lst, cutK_scr, dFld_ap, fldK_obj, dCall_ap, dCallN_ap, dFun_ap, okR_ok, dFunN_ap, okRN_lst, okRN_dI, okRN_dT, dMethN_ap, dMeth_ap, isObj_obj, uName_ap, uNil_ap, uCons_ap, uTup_ap, iLst_ap, lstOf_lst, lstOf_scr, iTupD_ap, tupOf_tup, iRev_ap, iEnum_ap, iRange1_ap, rng1K_int, iRange2_ap, rng2K_int, dLc_ap, tTrue_ap, dChain_ap, seqOf_lst, seqOf_tup, seqOf_scr, gLen_lst, gLen_tup, gLen_scr, gCat_lst, gAdd_int, gSub_int, gMul_int, gMod_int, gDiv_int, gLt_int, gLe_int, gGt_int, gGe_int, gMax2_int, gMin2_int, gIsi_lst, gEq_int, gNe_int, bindS, mapS, rng_len, Int.toNat_natCast, List.getElem?_cons_zero, List.getElem?_cons_succ, List.set_cons_zero, List.set_cons_succ, List.append_nil, List.nil_append, List.cons_append, List.replicate_succ, List.replicate_zero, List.length_map, List.length_cons, List.length_nil, Bool.not_true, Bool.not_false, decide_true, decide_false, reduceIte, Bool.false_eq_true, and_true, true_and, or_true, true_or, and_self, Bool.and_true, Bool.true_and, Bool.and_false, Bool.false_and, Bool.or_false, Bool.false_or, Bool.or_true, Bool.true_or, Int.reduceLT, Int.reduceLE, Int.reducePow, Int.reduceNeg, Int.reduceAdd, Int.reduceSub, Int.reduceMul, Int.reduceToNat, Nat.reduceLT, Nat.reduceAdd, Nat.reduceLeDiff, Nat.reducePow, dDGet2_ap, dPut_ap, dForE_ap, forEK_some, dMethPop_ap, dImm_ap, gIsN_non, gNotN_non, isNon_int, isNon_non, flat_int, in_int, notIn_int, eq_ints, ne_ints, eq_nil, ne_nil, gDIn_dict, gDNotIn_dict, getD'_dict, dSetM_ap, setmK_non, setmK_lst, isNon_lst, gIsi_list_non, ha, wf, e, f0, f1, f2, if_pos hle, hlc, hd]
  rfl


/-! ### rows looked up by key -/
section
variable {κ β : Type} [DecidableEq κ]
def lk (kvs : List (κ × β)) (k : κ) : Option β := (kvs.find? fun q => decide (q.1 = k)).map (·.2)
/-- the first row of the key, anew -/
def rp : List (κ × β) → κ → β → List (κ × β)
  | [], _, _ => []
  | q :: r, k, b => if q.1 = k then (q.1, b) :: r else q :: rp r k b
variable {q : κ × β} {r kvs : List (κ × β)} {k j : κ} {b b' : β}
theorem lk_nil : lk ([] : List (κ × β)) k = none := rfl
theorem lk_cons : lk (q :: r) k = if q.1 = k then some q.2 else lk r k := by
  unfold lk
  rw [List.find?_cons]
  by_cases h : q.1 = k
  · rw [decide_eq_true h, if_pos h]
    rfl
  · rw [decide_eq_false h, if_neg h]
theorem lk_none : ∀ {kvs : List (κ × β)}, lk kvs k = none ↔ k ∉ kvs.map (·.1)
  | [] => ⟨fun _ h => (nomatch h), fun _ => rfl⟩
  | q :: r => by
    rw [lk_cons, List.map_cons, List.mem_cons, not_or]
    by_cases h : q.1 = k
    · rw [if_pos h]
      exact ⟨fun z => (nomatch z), fun z => absurd h.symm z.1⟩
    · rw [if_neg h, lk_none (kvs := r)]
      exact ⟨fun z => ⟨fun e => h e.symm, z⟩, fun z => z.2⟩
theorem lk_key (h : lk kvs k = some b) : k ∈ kvs.map (·.1) := Classical.byContradiction fun z => by
  rw [lk_none.mpr z] at h
  exact nomatch h
theorem lk_mem (h : lk kvs k = some b) : (k, b) ∈ kvs := by
  unfold lk at h
  obtain ⟨q, h1, h2⟩ := Option.map_eq_some_iff.mp h
  have h3 : q.1 = k := of_decide_eq_true (List.find?_some (p := fun q : κ × β => decide (q.1 = k)) h1)
  have h4 := List.mem_of_find?_eq_some h1
  obtain ⟨a, c⟩ := q
  cases h2
  cases h3
  exact h4
theorem lk_some (h : k ∈ kvs.map (·.1)) : ∃ b, lk kvs k = some b := by
  cases e : lk kvs k with
  | none => exact absurd h (lk_none.mp e)
  | some b => exact ⟨b, rfl⟩
theorem lk_snoc : ∀ {kvs : List (κ × β)}, lk (kvs ++ [(k, b)]) j = (lk kvs j).or (if k = j then some b else none)
  | [] => by
    rw [List.nil_append, lk_cons]
    rfl
  | q :: r => by
    rw [List.cons_append, lk_cons, lk_cons]
    by_cases h : q.1 = j
    · rw [if_pos h, if_pos h]
      rfl
    · rw [if_neg h, if_neg h, lk_snoc]
theorem lk_old (h : lk kvs j = some b') : lk (kvs ++ [(k, b)]) j = some b' := by rw [lk_snoc, h]; rfl
theorem lk_new (h : lk kvs k = none) : lk (kvs ++ [(k, b)]) k = some b := by rw [lk_snoc, h, if_pos rfl]; rfl
theorem lk_oth (h : k ≠ j) : lk (kvs ++ [(k, b)]) j = lk kvs j := by rw [lk_snoc, if_neg h]; cases lk kvs j <;> rfl
theorem rp_keys : ∀ {kvs : List (κ × β)}, (rp kvs k b).map (·.1) = kvs.map (·.1)
  | [] => rfl
  | q :: r => by
    rw [rp]
    by_cases h : q.1 = k
    · rw [if_pos h]
      rfl
    · rw [if_neg h, List.map_cons, List.map_cons, rp_keys]
theorem rp_len : (rp kvs k b).length = kvs.length := by
  have := congrArg List.length (rp_keys (kvs := kvs) (k := k) (b := b))
  rwa [List.length_map, List.length_map] at this
theorem rp_same : ∀ {kvs : List (κ × β)}, k ∈ kvs.map (·.1) → lk (rp kvs k b) k = some b
  | [], h => nomatch h
  | q :: r, h => by
    rw [rp]
    by_cases e : q.1 = k
    · rw [if_pos e, lk_cons, if_pos e]
    · rw [if_neg e, lk_cons, if_neg e]
      exact rp_same ((List.mem_cons.mp h).resolve_left fun z => e z.symm)
theorem rp_ne (h : j ≠ k) : ∀ {kvs : List (κ × β)}, lk (rp kvs k b) j = lk kvs j
  | [] => rfl
  | q :: r => by
    rw [rp]
    by_cases e : q.1 = k
    · rw [if_pos e, lk_cons, lk_cons, if_neg (show q.1 ≠ j from fun z => h (z.symm.trans e)), if_neg (show q.1 ≠ j from fun z => h (z.symm.trans e))]
    · rw [if_neg e, lk_cons, lk_cons, rp_ne h]
variable {ek : κ → List Int} {ev : β → D}
def rowsD (ek : κ → List Int) (ev : β → D) (kvs : List (κ × β)) : List (List Int × D) := kvs.map fun q => (ek q.1, ev q.2)
theorem valD_lk (inj : ∀ a b, ek a = ek b → a = b) : ∀ {kvs : List (κ × β)}, valD (rowsD ek ev kvs) (ek k) = (lk kvs k).map ev
  | [] => rfl
  | q :: r => by
    have ih := valD_lk inj (kvs := r)
    rw [lk_cons]
    unfold valD rowsD at ih ⊢
    rw [List.map_cons, List.find?_cons]
    by_cases h : q.1 = k
    · rw [decide_eq_true (congrArg ek h), if_pos h]
      rfl
    · rw [decide_eq_false (fun z => h (inj _ _ z)), if_neg h]
      exact ih
theorem repD_rp (inj : ∀ a b, ek a = ek b → a = b) : ∀ {kvs : List (κ × β)}, repD (rowsD ek ev kvs) (ek k) (ev b) = rowsD ek ev (rp kvs k b)
  | [] => rfl
  | q :: r => by
    have ih := repD_rp inj (kvs := r)
    unfold rowsD at ih ⊢
    rw [List.map_cons, repD, rp]
    by_cases h : q.1 = k
    · rw [if_pos (congrArg ek h), if_pos h]
      rfl
    · rw [if_neg (fun z => h (inj _ _ z)), if_neg h, ih]
      rfl
theorem rowsD_len : (rowsD ek ev kvs).length = kvs.length := List.length_map _
theorem rowsD_snoc : rowsD ek ev (kvs ++ [(k, b)]) = rowsD ek ev kvs ++ [(ek k, ev b)] := List.map_append
end
/-! ### the ledger -/
structure Led where
  now : Int
  lays : List ((Int × Int) × Int)
  says : List ((Int × Int) × List (Int × List Int))
  shown : List (List Int × Int)
def kP (p : Int × Int) : List Int := [p.1, p.2]
theorem kP_inj : ∀ a b, kP a = kP b → a = b := fun a b h => (pairK a b).mp h
def encS (q : Int × List Int) : D := .tup [.int q.1, encT q.2]
def dSays (qs : List (Int × List Int)) : D := .lst (qs.map encS)
def ledD (P : D) (fr : List Int) (L : Led) : D := .obj .Ledger [P, .lst (fr.map .int), .int L.now, .dT (rowsD kP .int L.lays), .dT (rowsD kP dSays L.says), .dT (rowsD (fun c : List Int => c) .int L.shown)]
theorem dTP_rows (kvs : List ((Int × Int) × Int)) : dTP kvs = .dT (rowsD kP .int kvs) := (rfl)
theorem asT_kP (p : Int × Int) : asT (enc p) = some (kP p) := (rfl)
theorem asT_encT (c : List Int) : asT (encT c) = some c := asInts_map c
theorem get_rows {κ β : Type} [DecidableEq κ] {ek : κ → List Int} {ev : β → D} (inj : ∀ a b, ek a = ek b → a = b) {kvs : List (κ × β)} {k : κ} {b : D} (hb : asT b = some (ek k)) : getD' (.dT (rowsD ek ev kvs)) b = some ((lk kvs k).map ev) := by
  show (asT b).map (fun k => valD (rowsD ek ev kvs) k) = _
  rw [hb]
  exact congrArg some (valD_lk inj)
theorem get_lays (L : List ((Int × Int) × Int)) (p : Int × Int) : getD' (.dT (rowsD kP .int L)) (enc p) = some ((lk L p).map .int) := get_rows kP_inj (asT_kP p)
theorem get_says (L : List ((Int × Int) × List (Int × List Int))) (p : Int × Int) : getD' (.dT (rowsD kP dSays L)) (enc p) = some ((lk L p).map dSays) := get_rows kP_inj (asT_kP p)
theorem get_shown (L : List (List Int × Int)) (c : List Int) : getD' (.dT (rowsD (fun c : List Int => c) .int L)) (encT c) = some ((lk L c).map .int) := get_rows (fun _ _ h => h) (asT_encT c)
theorem cutL_hi {α : Type} (xs : List α) {k : Int} (h : 0 ≤ k) : cutL xs (some k) none = xs.drop k.toNat := by
  unfold cutL
  rw [sIx_nn h, HT.sIx_none]
  rcases Nat.lt_or_ge k.toNat xs.length with q | q
  · rw [Nat.min_eq_left (by omega), List.take_of_length_le]
    rw [List.length_drop]
    omega
  · rw [Nat.min_eq_right (by omega), List.drop_of_length_le (Nat.le_refl _), List.take_nil, List.drop_of_length_le q]

/-! ### what the ledger's defs compute -/
theorem Ledger_init_eq {P : D} {fr : List Int} (h : fr.length ≤ 100000) : fn_Ledger_init [P, .lst (fr.map .int)] = .ok (ledD P fr ⟨1, [], [], []⟩) := by
  have f0 : ∀ d ρ, fstK 0 .Ledger 0 (some d) (some (.obj .Ledger [])) ρ = .nx (ρ.set 0 (.obj .Ledger [d])) := fun _ _ => rfl
  have f1 : ∀ a d ρ, fstK 0 .Ledger 1 (some d) (some (.obj .Ledger [a])) ρ = .nx (ρ.set 0 (.obj .Ledger [a, d])) := fun _ _ _ => rfl
  have f2 : ∀ a b d ρ, fstK 0 .Ledger 2 (some d) (some (.obj .Ledger [a, b])) ρ = .nx (ρ.set 0 (.obj .Ledger [a, b, d])) := fun _ _ _ _ => rfl
  have f3 : ∀ a b c d ρ, fstK 0 .Ledger 3 (some d) (some (.obj .Ledger [a, b, c])) ρ = .nx (ρ.set 0 (.obj .Ledger [a, b, c, d])) := fun _ _ _ _ _ => rfl
  have f4 : ∀ a b c e d ρ, fstK 0 .Ledger 4 (some d) (some (.obj .Ledger [a, b, c, e])) ρ = .nx (ρ.set 0 (.obj .Ledger [a, b, c, e, d])) := fun _ _ _ _ _ _ => rfl
  have f5 : ∀ a b c e g d ρ, fstK 0 .Ledger 5 (some d) (some (.obj .Ledger [a, b, c, e, g])) ρ = .nx (ρ.set 0 (.obj .Ledger [a, b, c, e, g, d])) := fun _ _ _ _ _ _ _ => rfl
  have nn : gNotN (.lst (fr.map .int)) .non = some (.bl true) := rfl
  have s1 : shK (.dT .s) (some (.dT [])) = some (.dT []) := rfl
  have s2 : shK (.dT (.lst .s)) (some (.dT [])) = some (.dT []) := rfl
  have ps : ∀ a x : D, plSetK .Ledger 1 (some x) (some (.obj .Ledger [a, .lst []], fun d2 => some [d2, a, .lst (fr.map .int)])) = .nx [.obj .Ledger [a, x], a, .lst (fr.map .int)] := fun _ _ => rfl
  have fl : flats (fr.map .int) = true := flats_ints fr
  unfold fn_Ledger_init sm_Ledger_init
  simp only [bindS, mapS, rng_len, dSeq_ap, seqK_nx, seqK_ret, seqK_cont, seqK_brk, seqK_exc, dNext_ap, dAsg_ap, asgK_some, dRet_ap, retK_some, dIfS_ap, ifK_true, ifK_false, dDrop_ap, dropK_some, dApp_ap, appK_some, dExt_ap, extK_some, dClear_ap, clearK_some, dFor_ap, forK_some, dUnpk_ap, unpK_some, dFst_ap, fstK_some, dRaise_ap, raiK_some, runF_ap, runK_ret, runK_nx, runK_exc, runI_ap, runIK_nx, runIK_exc, dVar_ap, dC_ap, d1_ap, d2_ap, tB_ap, asB_bl, tAndF_ap, tOrF_ap, tNotF_ap, dAnd_ap, dOr_ap, dNot_ap, dIf_ap, ite_and, ite_or, ite_andD, ite_orD, dNilA_ap, dConsA_ap, dTup_ap, dLst_ap, dImm_ap, oNone_ap, oSome_ap, asI_int, dCut_ap, cutK_lst, cutK_scr, dFld_ap, fldK_obj, dCall_ap, dCallN_ap, dFun_ap, okR_ok, dFunN_ap, okRN_lst, okRN_dI, okRN_dT, dMethN_ap, dMeth_ap, isObj_obj, uName_ap, uNil_ap, uCons_ap, uTup_ap, iLst_ap, lstOf_lst, lstOf_scr, iTupD_ap, tupOf_tup, iRev_ap, iEnum_ap, iRange1_ap, rng1K_int, iRange2_ap, rng2K_int, dLc_ap, tTrue_ap, dChain_ap, seqOf_lst, seqOf_tup, seqOf_scr, gLen_lst, gLen_tup, gLen_scr, gCat_lst, gAdd_int, gSub_int, gMul_int, gMod_int, gDiv_int, gLt_int, gLe_int, gGt_int, gGe_int, gMax2_int, gMin2_int, gIsi_lst, gEq_int, gNe_int, bindS, mapS, rng_len, Int.toNat_natCast, List.getElem?_cons_zero, List.getElem?_cons_succ, List.set_cons_zero, List.set_cons_succ, List.append_nil, List.nil_append, List.cons_append, List.replicate_succ, List.replicate_zero, List.length_map, List.length_cons, List.length_nil, Bool.not_true, Bool.not_false, decide_true, decide_false, reduceIte, Bool.false_eq_true, and_true, true_and, or_true, true_or, and_self, Bool.and_true, Bool.true_and, Bool.and_false, Bool.false_and, Bool.or_false, Bool.false_or, Bool.or_true, Bool.true_or, Int.reduceLT, Int.reduceLE, Int.reducePow, Int.reduceNeg, Int.reduceAdd, Int.reduceSub, Int.reduceMul, Int.reduceToNat, Nat.reduceLT, Nat.reduceAdd, Nat.reduceLeDiff, Nat.reducePow, dDGet2_ap, dPut_ap, dForE_ap, forEK_some, dMethPop_ap, dImm_ap, gIsN_non, gNotN_non, isNon_int, isNon_non, flat_int, in_int, notIn_int, eq_ints, ne_ints, eq_nil, ne_nil, gDIn_dict, gDNotIn_dict, getD'_dict, dSetM_ap, setmK_non, setmK_lst, isNon_lst, gIsi_list_non, notIn_tup, in_tup, gLen_encT, gNeg_int, dCutT_ap, cutTK_enc, catT_enc, catT_one, gRevT_enc, gTupOf_ints, gIsB_bl, gIsnotB_bl, gEq_bl, gNe_bl, gIsi_bool_bl, gIsi_bool_int, gIsi_tup, ne_tup0, eq_tup0, plV_ap, plVK_some, plF_ap, plFK_obj, plK_ap, plG_ap, outO_some, dPlSet_ap, plSetK_some, dPlPut_ap, dPlPutN_ap, dPlApp_ap, dPlSetd_ap, dSh_ap, xFun_ap, xFunK_some, xOut_ok, xOut_exc, xOK_some, xEK_some, dDropE_ap, dropEK_val, dropEK_exc, dAsgE_ap, asgEK_val, dIfE_ap, ifEK_t, ifEK_f, ifEK_exc, runO_ap, runOK_nx, runOK_reto, runOK_exc, dReto_ap, retoK_some, seqK_reto, dDropX_ap, dropXK_ok, dropXK_exc, dMethX_ap, methXK_obj, dCallF_ap, f0, f1, f2, f3, f4, f5, nn, s1, s2, callFK_flat fl, ps]
  rfl
def Led.move (L : Led) : Led := { L with now := L.now + 1 }
theorem Ledger_move_eq {P : D} {fr : List Int} {L : Led} : fn_Ledger_move [ledD P fr L] = .ok .non (ledD P fr L.move) := by
  have pj : (2 : Nat) < 6 := by decide
  unfold fn_Ledger_move sm_Ledger_move ledD
  simp only [bindS, mapS, rng_len, dSeq_ap, seqK_nx, seqK_ret, seqK_cont, seqK_brk, seqK_exc, dNext_ap, dAsg_ap, asgK_some, dRet_ap, retK_some, dIfS_ap, ifK_true, ifK_false, dDrop_ap, dropK_some, dApp_ap, appK_some, dExt_ap, extK_some, dClear_ap, clearK_some, dFor_ap, forK_some, dUnpk_ap, unpK_some, dFst_ap, fstK_some, dRaise_ap, raiK_some, runF_ap, runK_ret, runK_nx, runK_exc, runI_ap, runIK_nx, runIK_exc, dVar_ap, dC_ap, d1_ap, d2_ap, tB_ap, asB_bl, tAndF_ap, tOrF_ap, tNotF_ap, dAnd_ap, dOr_ap, dNot_ap, dIf_ap, ite_and, ite_or, ite_andD, ite_orD, dNilA_ap, dConsA_ap, dTup_ap, dLst_ap, dImm_ap, oNone_ap, oSome_ap, asI_int, dCut_ap, cutK_lst, cutK_scr, dFld_ap, fldK_obj, dCall_ap, dCallN_ap, dFun_ap, okR_ok, dFunN_ap, okRN_lst, okRN_dI, okRN_dT, dMethN_ap, dMeth_ap, isObj_obj, uName_ap, uNil_ap, uCons_ap, uTup_ap, iLst_ap, lstOf_lst, lstOf_scr, iTupD_ap, tupOf_tup, iRev_ap, iEnum_ap, iRange1_ap, rng1K_int, iRange2_ap, rng2K_int, dLc_ap, tTrue_ap, dChain_ap, seqOf_lst, seqOf_tup, seqOf_scr, gLen_lst, gLen_tup, gLen_scr, gCat_lst, gAdd_int, gSub_int, gMul_int, gMod_int, gDiv_int, gLt_int, gLe_int, gGt_int, gGe_int, gMax2_int, gMin2_int, gIsi_lst, gEq_int, gNe_int, bindS, mapS, rng_len, Int.toNat_natCast, List.getElem?_cons_zero, List.getElem?_cons_succ, List.set_cons_zero, List.set_cons_succ, List.append_nil, List.nil_append, List.cons_append, List.replicate_succ, List.replicate_zero, List.length_map, List.length_cons, List.length_nil, Bool.not_true, Bool.not_false, decide_true, decide_false, reduceIte, Bool.false_eq_true, and_true, true_and, or_true, true_or, and_self, Bool.and_true, Bool.true_and, Bool.and_false, Bool.false_and, Bool.or_false, Bool.false_or, Bool.or_true, Bool.true_or, Int.reduceLT, Int.reduceLE, Int.reducePow, Int.reduceNeg, Int.reduceAdd, Int.reduceSub, Int.reduceMul, Int.reduceToNat, Nat.reduceLT, Nat.reduceAdd, Nat.reduceLeDiff, Nat.reducePow, dDGet2_ap, dPut_ap, dForE_ap, forEK_some, dMethPop_ap, dImm_ap, gIsN_non, gNotN_non, isNon_int, isNon_non, flat_int, in_int, notIn_int, eq_ints, ne_ints, eq_nil, ne_nil, gDIn_dict, gDNotIn_dict, getD'_dict, dSetM_ap, setmK_non, setmK_lst, isNon_lst, gIsi_list_non, notIn_tup, in_tup, gLen_encT, gNeg_int, dCutT_ap, cutTK_enc, catT_enc, catT_one, gRevT_enc, gTupOf_ints, gIsB_bl, gIsnotB_bl, gEq_bl, gNe_bl, gIsi_bool_bl, gIsi_bool_int, gIsi_tup, ne_tup0, eq_tup0, plV_ap, plVK_some, plF_ap, plFK_obj, plK_ap, plG_ap, outO_some, dPlSet_ap, plSetK_some, dPlPut_ap, dPlPutN_ap, dPlApp_ap, dPlSetd_ap, dSh_ap, xFun_ap, xFunK_some, xOut_ok, xOut_exc, xOK_some, xEK_some, dDropE_ap, dropEK_val, dropEK_exc, dAsgE_ap, asgEK_val, dIfE_ap, ifEK_t, ifEK_f, ifEK_exc, runO_ap, runOK_nx, runOK_reto, runOK_exc, dReto_ap, retoK_some, seqK_reto, dDropX_ap, dropXK_ok, dropXK_exc, dMethX_ap, methXK_obj, dCallF_ap, plSetK_some, pj]
  rfl

theorem seq_nx {F G : SFn} {ρ ρ1 : List D} (h : F ρ = .nx ρ1) : dSeq F G ρ = G ρ1 := by rw [dSeq_ap, h, seqK_nx]
theorem seq_ex {F G : SFn} {ρ : List D} {C : Out → Prop} (P : List D → Prop) (h : ∃ ρ1, F ρ = .nx ρ1 ∧ P ρ1) (k : ∀ ρ1, P ρ1 → C (G ρ1)) : C (dSeq F G ρ) := by
  obtain ⟨ρ1, h1, h2⟩ := h
  rw [seq_nx h1]
  exact k ρ1 h2
theorem asTl_pairs : ∀ xs : List (Int × Int), asTl (xs.map enc) = some (xs.map kP)
  | [] => rfl
  | x :: xs => by
    rw [List.map_cons]
    show ((asT (enc x)).bind fun k => (asTl (xs.map enc)).map (k :: ·)) = _
    rw [asT_kP, asTl_pairs xs]
    rfl
theorem gLenSetT_pairs {xs : List (Int × Int)} (nd : xs.Nodup) (h : xs.length < 64) : gLenSetT (.lst (xs.map enc)) = some (.int xs.length) := by
  have e : tupsOf (.lst (xs.map enc)) = some (xs.map kP) := by
    show ((asTl (xs.map enc)).bind fun ks => if ks.length < 64 then some ks else none) = _
    rw [asTl_pairs, Option.bind_some, if_pos (by rw [List.length_map]; exact h)]
  unfold gLenSetT
  rw [e]
  have n2 : (xs.map kP).Nodup := List.pairwise_map.mpr (nd.imp fun h e => h (kP_inj _ _ e))
  show some (D.int (ded (xs.map kP)).length) = _
  rw [ded_of_nodup n2, List.length_map]
theorem any_notIn {xs ys : List (Int × Int)} (h : ∀ x ∈ xs, x ∈ ys) {ρ : List D} {j i : Nat} (hj : j ≠ i) (hi : i < ρ.length) (hy : ρ[j]? = some (.lst (ys.map enc))) :
    lcD (uName i) tTrue (d2 gNotIn (dVar i) (dVar j)) ρ (xs.map enc) = some ((xs.map fun _ => false).map .bl) := by
  have q := lcD_map (en := (enc : Int × Int → D)) (en' := D.bl) (u := uName i) (t := tTrue) (f := d2 gNotIn (dVar i) (dVar j)) (ρ := ρ) (fun _ => true) (fun _ => false) (xs := xs) fun x hx => by
    refine ⟨ρ.set i (enc x), rfl, rfl, fun _ => ?_⟩
    have h1 : (ρ.set i (enc x))[i]? = some (enc x) := by rw [List.getElem?_set_self hi]
    have h2 : (ρ.set i (enc x))[j]? = some (.lst (ys.map enc)) := by rw [List.getElem?_set_ne (fun z => hj z.symm), hy]
    have h3 : gNotIn (enc x) (.lst (ys.map enc)) = some (.bl (!decide (x ∈ ys))) := (gNotIn_enc x ys).trans (by congr)
    rw [decide_eq_true (h x hx)] at h3
    simp only [bindS, mapS, rng_len, dSeq_ap, seqK_nx, seqK_ret, seqK_cont, seqK_brk, seqK_exc, dNext_ap, dAsg_ap, asgK_some, dRet_ap, retK_some, dIfS_ap, ifK_true, ifK_false, dDrop_ap, dropK_some, dApp_ap, appK_some, dExt_ap, extK_some, dClear_ap, clearK_some, dFor_ap, forK_some, dUnpk_ap, unpK_some, dFst_ap, fstK_some, dRaise_ap, raiK_some, runF_ap, runK_ret, runK_nx, runK_exc, runI_ap, runIK_nx, runIK_exc, dVar_ap, dC_ap, d1_ap, d2_ap, tB_ap, asB_bl, tAndF_ap, tOrF_ap, tNotF_ap, dAnd_ap, dOr_ap, dNot_ap, dIf_ap, ite_and, ite_or, ite_andD, ite_orD, dNilA_ap, dConsA_ap, dTup_ap, dLst_ap, dImm_ap, oNone_ap, oSome_ap, asI_int, dCut_ap, cutK_lst, cutK_scr, dFld_ap, fldK_obj, dCall_ap, dCallN_ap, dFun_ap, okR_ok, dFunN_ap, okRN_lst, okRN_dI, okRN_dT, dMethN_ap, dMeth_ap, isObj_obj, uName_ap, uNil_ap, uCons_ap, uTup_ap, iLst_ap, lstOf_lst, lstOf_scr, iTupD_ap, tupOf_tup, iRev_ap, iEnum_ap, iRange1_ap, rng1K_int, iRange2_ap, rng2K_int, dLc_ap, tTrue_ap, dChain_ap, seqOf_lst, seqOf_tup, seqOf_scr, gLen_lst, gLen_tup, gLen_scr, gCat_lst, gAdd_int, gSub_int, gMul_int, gMod_int, gDiv_int, gLt_int, gLe_int, gGt_int, gGe_int, gMax2_int, gMin2_int, gIsi_lst, gEq_int, gNe_int, bindS, mapS, rng_len, Int.toNat_natCast, List.getElem?_cons_zero, List.getElem?_cons_succ, List.set_cons_zero, List.set_cons_succ, List.append_nil, List.nil_append, List.cons_append, List.replicate_succ, List.replicate_zero, List.length_map, List.length_cons, List.length_nil, Bool.not_true, Bool.not_false, decide_true, decide_false, reduceIte, Bool.false_eq_true, and_true, true_and, or_true, true_or, and_self, Bool.and_true, Bool.true_and, Bool.and_false, Bool.false_and, Bool.or_false, Bool.false_or, Bool.or_true, Bool.true_or, Int.reduceLT, Int.reduceLE, Int.reducePow, Int.reduceNeg, Int.reduceAdd, Int.reduceSub, Int.reduceMul, Int.reduceToNat, Nat.reduceLT, Nat.reduceAdd, Nat.reduceLeDiff, Nat.reducePow, h1, h2, h3]
  rw [List.filter_eq_self.mpr fun _ _ => rfl] at q
  exact q
theorem lkP_map {lim : Int × Int → Int} {p : Int × Int} : ∀ {xs : List (Int × Int)}, p ∈ xs → lkP (xs.map fun p => (p, lim p)) p = some (lim p)
  | [], h => nomatch h
  | x :: xs, h => by
    rw [List.map_cons, lkP_cons]
    by_cases e : x = p
    · rw [if_pos e, e]
    · rw [if_neg e]
      exact lkP_map ((List.mem_cons.mp h).resolve_left fun z => e z.symm)
theorem pick {α : Type} {xs : List α} (h : xs ≠ []) {a : Int} (ha : 0 ≤ a) : 0 < (xs.length : Int) ∧ 0 ≤ a % xs.length ∧ ∃ x ∈ xs, xs[(a % xs.length).toNat]? = some x := by
  have hl : 0 < xs.length := List.length_pos_iff.mpr h
  have h1 := Int.emod_nonneg a (show (xs.length : Int) ≠ 0 by omega)
  have h2 := Int.emod_lt_of_pos a (show 0 < (xs.length : Int) by omega)
  have hlt : (a % xs.length).toNat < xs.length := by omega
  exact ⟨by omega, h1, xs[(a % xs.length).toNat], List.getElem_mem hlt, List.getElem?_eq_getElem hlt⟩

/-! ### alike: the law's own comparison, of a thing with itself -/
def al : Nat → D → Bool
  | 0, _ => false
  | _ + 1, .non => true
  | _ + 1, .bl _ => true
  | _ + 1, .int _ => true
  | _ + 1, .str _ => true
  | m + 1, .tup xs => xs.all (al m) && decide (xs.length ≤ 100000)
  | m + 1, .lst xs => xs.all (al m) && decide (xs.length ≤ 100000)
  | _, _ => false
theorem gIsi_k {k t : String} {d : D} {b : Bool} (h : gIsi t d = some (.bl b)) : d1 (gIsi t) (dVar 1) [d, d, .non] = some (.bl b) := h
theorem alike_seq {m : Nat} {d : D} {xs : List D} (hl : gLen [d] = some (.int xs.length)) (hi : ∀ (k : Nat) (x : D), xs[k]? = some x → gIx d (.int k) = some x) (h1 : isNon d = false) (hb : gIsi "bool" d = some (.bl false)) (hn : gIsi "int" d = some (.bl false)) (hs : gIsi "str" d = some (.bl false))
    (t1 t2 : Bool) (ht : gIsi "tuple" d = some (.bl t1)) (hli : gIsi "list" d = some (.bl t2)) (few : xs.length ≤ 100000) (each : ∀ x ∈ xs, fnR_l_alike m [x, x] = .ok (.bl true)) : fnR_l_alike (m + 1) [d, d] = .ok (.bl true) := by
  show runF false 1 (sm_l_alike (fnR_l_alike m)) [d, d] = _
  have hrn : -(2 ^ 62) ≤ (xs.length : Int) ∧ (xs.length : Int) < 2 ^ 62 := by omega
  have lc := lcD_map (en := fun (k : Nat) => D.int (0 + (k : Int))) (en' := D.bl) (u := uName 2) (t := tTrue) (f := dFun (fnR_l_alike m) (dConsA (d2 gIx (dVar 0) (dVar 2)) (dConsA (d2 gIx (dVar 1) (dVar 2)) dNilA)) []) (ρ := [d, d, .non]) (fun _ => true) (fun _ => true) (xs := List.range xs.length) fun k hk => by
    have hk' := List.mem_range.mp hk
    have e : xs[k]? = some (xs[k]'hk') := List.getElem?_eq_getElem _
    have g : gIx d (.int (0 + (k : Int))) = some (xs[k]'hk') := by
      rw [Int.zero_add]
      exact hi k _ e
    have ea := each _ (List.mem_of_getElem? e)
    refine ⟨_, rfl, rfl, fun _ => ?_⟩
    simp only [bindS, mapS, rng_len, dSeq_ap, seqK_nx, seqK_ret, seqK_cont, seqK_brk, seqK_exc, dNext_ap, dAsg_ap, asgK_some, dRet_ap, retK_some, dIfS_ap, ifK_true, ifK_false, dDrop_ap, dropK_some, dApp_ap, appK_some, dExt_ap, extK_some, dClear_ap, clearK_some, dFor_ap, forK_some, dUnpk_ap, unpK_some, dFst_ap, fstK_some, dRaise_ap, raiK_some, runF_ap, runK_ret, runK_nx, runK_exc, runI_ap, runIK_nx, runIK_exc, dVar_ap, dC_ap, d1_ap, d2_ap, tB_ap, asB_bl, tAndF_ap, tOrF_ap, tNotF_ap, dAnd_ap, dOr_ap, dNot_ap, dIf_ap, ite_and, ite_or, ite_andD, ite_orD, dNilA_ap, dConsA_ap, dTup_ap, dLst_ap, dImm_ap, oNone_ap, oSome_ap, asI_int, dCut_ap, cutK_lst, cutK_scr, dFld_ap, fldK_obj, dCall_ap, dCallN_ap, dFun_ap, okR_ok, dFunN_ap, okRN_lst, okRN_dI, okRN_dT, dMethN_ap, dMeth_ap, isObj_obj, uName_ap, uNil_ap, uCons_ap, uTup_ap, iLst_ap, lstOf_lst, lstOf_scr, iTupD_ap, tupOf_tup, iRev_ap, iEnum_ap, iRange1_ap, rng1K_int, iRange2_ap, rng2K_int, dLc_ap, tTrue_ap, dChain_ap, seqOf_lst, seqOf_tup, seqOf_scr, gLen_lst, gLen_tup, gLen_scr, gCat_lst, gAdd_int, gSub_int, gMul_int, gMod_int, gDiv_int, gLt_int, gLe_int, gGt_int, gGe_int, gMax2_int, gMin2_int, gIsi_lst, gEq_int, gNe_int, bindS, mapS, rng_len, Int.toNat_natCast, List.getElem?_cons_zero, List.getElem?_cons_succ, List.set_cons_zero, List.set_cons_succ, List.append_nil, List.nil_append, List.cons_append, List.replicate_succ, List.replicate_zero, List.length_map, List.length_cons, List.length_nil, Bool.not_true, Bool.not_false, decide_true, decide_false, reduceIte, Bool.false_eq_true, and_true, true_and, or_true, true_or, and_self, Bool.and_true, Bool.true_and, Bool.and_false, Bool.false_and, Bool.or_false, Bool.false_or, Bool.or_true, Bool.true_or, Int.reduceLT, Int.reduceLE, Int.reducePow, Int.reduceNeg, Int.reduceAdd, Int.reduceSub, Int.reduceMul, Int.reduceToNat, Nat.reduceLT, Nat.reduceAdd, Nat.reduceLeDiff, Nat.reducePow, dDGet2_ap, dPut_ap, dForE_ap, forEK_some, dMethPop_ap, dImm_ap, gIsN_non, gNotN_non, isNon_int, isNon_non, flat_int, in_int, notIn_int, eq_ints, ne_ints, eq_nil, ne_nil, gDIn_dict, gDNotIn_dict, getD'_dict, dSetM_ap, setmK_non, setmK_lst, isNon_lst, gIsi_list_non, notIn_tup, in_tup, gLen_encT, gNeg_int, dCutT_ap, cutTK_enc, catT_enc, catT_one, gRevT_enc, gTupOf_ints, gIsB_bl, gIsnotB_bl, gEq_bl, gNe_bl, gIsi_bool_bl, gIsi_bool_int, gIsi_tup, ne_tup0, eq_tup0, plV_ap, plVK_some, plF_ap, plFK_obj, plK_ap, plG_ap, outO_some, dPlSet_ap, plSetK_some, dPlPut_ap, dPlPutN_ap, dPlApp_ap, dPlSetd_ap, dSh_ap, xFun_ap, xFunK_some, xOut_ok, xOut_exc, xOK_some, xEK_some, dDropE_ap, dropEK_val, dropEK_exc, dAsgE_ap, asgEK_val, dIfE_ap, ifEK_t, ifEK_f, ifEK_exc, runO_ap, runOK_nx, runOK_reto, runOK_exc, dReto_ap, retoK_some, seqK_reto, dDropX_ap, dropXK_ok, dropXK_exc, dMethX_ap, methXK_obj, dCallF_ap, g, ea]
  rw [List.filter_eq_self.mpr fun _ _ => rfl] at lc
  have lc2 : lcD (uName 2) tTrue (dFun (fnR_l_alike m) (dConsA (d2 gIx (dVar 0) (dVar 2)) (dConsA (d2 gIx (dVar 1) (dVar 2)) dNilA)) []) [d, d, .non] (rng 0 xs.length) = some (((List.range xs.length).map fun _ => true).map .bl) := lc
  have ga : gAll [.lst (((List.range xs.length).map fun _ => true).map .bl)] = some (.bl true) := by
    show ((some ((List.map (fun _ => true) (List.range xs.length)).map D.bl)).bind asBools).map (fun bs => D.bl (bs.all id)) = _
    rw [Option.bind_some, asBools_map]
    show some (D.bl ((List.map (fun _ => true) (List.range xs.length)).all id)) = _
    congr 2
    rw [List.all_eq_true]
    intro b hb
    obtain ⟨_, _, rfl⟩ := List.mem_map.mp hb
    rfl
  have q1 : decide (t1 = t1) = true := decide_eq_true rfl
  have q2 : decide (t2 = t2) = true := decide_eq_true rfl
  have q3 : decide ((xs.length : Int) = (xs.length : Int)) = true := decide_eq_true rfl
  unfold sm_l_alike
  simp only [bindS, mapS, rng_len, dSeq_ap, seqK_nx, seqK_ret, seqK_cont, seqK_brk, seqK_exc, dNext_ap, dAsg_ap, asgK_some, dRet_ap, retK_some, dIfS_ap, ifK_true, ifK_false, dDrop_ap, dropK_some, dApp_ap, appK_some, dExt_ap, extK_some, dClear_ap, clearK_some, dFor_ap, forK_some, dUnpk_ap, unpK_some, dFst_ap, fstK_some, dRaise_ap, raiK_some, runF_ap, runK_ret, runK_nx, runK_exc, runI_ap, runIK_nx, runIK_exc, dVar_ap, dC_ap, d1_ap, d2_ap, tB_ap, asB_bl, tAndF_ap, tOrF_ap, tNotF_ap, dAnd_ap, dOr_ap, dNot_ap, dIf_ap, ite_and, ite_or, ite_andD, ite_orD, dNilA_ap, dConsA_ap, dTup_ap, dLst_ap, dImm_ap, oNone_ap, oSome_ap, asI_int, dCut_ap, cutK_lst, cutK_scr, dFld_ap, fldK_obj, dCall_ap, dCallN_ap, dFun_ap, okR_ok, dFunN_ap, okRN_lst, okRN_dI, okRN_dT, dMethN_ap, dMeth_ap, isObj_obj, uName_ap, uNil_ap, uCons_ap, uTup_ap, iLst_ap, lstOf_lst, lstOf_scr, iTupD_ap, tupOf_tup, iRev_ap, iEnum_ap, iRange1_ap, rng1K_int, iRange2_ap, rng2K_int, dLc_ap, tTrue_ap, dChain_ap, seqOf_lst, seqOf_tup, seqOf_scr, gLen_lst, gLen_tup, gLen_scr, gCat_lst, gAdd_int, gSub_int, gMul_int, gMod_int, gDiv_int, gLt_int, gLe_int, gGt_int, gGe_int, gMax2_int, gMin2_int, gIsi_lst, gEq_int, gNe_int, bindS, mapS, rng_len, Int.toNat_natCast, List.getElem?_cons_zero, List.getElem?_cons_succ, List.set_cons_zero, List.set_cons_succ, List.append_nil, List.nil_append, List.cons_append, List.replicate_succ, List.replicate_zero, List.length_map, List.length_cons, List.length_nil, Bool.not_true, Bool.not_false, decide_true, decide_false, reduceIte, Bool.false_eq_true, and_true, true_and, or_true, true_or, and_self, Bool.and_true, Bool.true_and, Bool.and_false, Bool.false_and, Bool.or_false, Bool.false_or, Bool.or_true, Bool.true_or, Int.reduceLT, Int.reduceLE, Int.reducePow, Int.reduceNeg, Int.reduceAdd, Int.reduceSub, Int.reduceMul, Int.reduceToNat, Nat.reduceLT, Nat.reduceAdd, Nat.reduceLeDiff, Nat.reducePow, dDGet2_ap, dPut_ap, dForE_ap, forEK_some, dMethPop_ap, dImm_ap, gIsN_non, gNotN_non, isNon_int, isNon_non, flat_int, in_int, notIn_int, eq_ints, ne_ints, eq_nil, ne_nil, gDIn_dict, gDNotIn_dict, getD'_dict, dSetM_ap, setmK_non, setmK_lst, isNon_lst, gIsi_list_non, notIn_tup, in_tup, gLen_encT, gNeg_int, dCutT_ap, cutTK_enc, catT_enc, catT_one, gRevT_enc, gTupOf_ints, gIsB_bl, gIsnotB_bl, gEq_bl, gNe_bl, gIsi_bool_bl, gIsi_bool_int, gIsi_tup, ne_tup0, eq_tup0, plV_ap, plVK_some, plF_ap, plFK_obj, plK_ap, plG_ap, outO_some, dPlSet_ap, plSetK_some, dPlPut_ap, dPlPutN_ap, dPlApp_ap, dPlSetd_ap, dSh_ap, xFun_ap, xFunK_some, xOut_ok, xOut_exc, xOK_some, xEK_some, dDropE_ap, dropEK_val, dropEK_exc, dAsgE_ap, asgEK_val, dIfE_ap, ifEK_t, ifEK_f, ifEK_exc, runO_ap, runOK_nx, runOK_reto, runOK_exc, dReto_ap, retoK_some, seqK_reto, dDropX_ap, dropXK_ok, dropXK_exc, dMethX_ap, methXK_obj, dCallF_ap, h1, hb, hn, hs, ht, hli, q1, q2, hl, q3, rng1K_int hrn, few, lc2, ga]
theorem alike_self : ∀ {m : Nat} {d : D}, al m d = true → fnR_l_alike m [d, d] = .ok (.bl true)
  | 0, _, h => nomatch h
  | m + 1, .non, _ => by
    show runF false 1 (sm_l_alike (fnR_l_alike m)) [.non, .non] = _
    have h1 : isNon .non = true := rfl
    unfold sm_l_alike
    simp only [bindS, mapS, rng_len, dSeq_ap, seqK_nx, seqK_ret, seqK_cont, seqK_brk, seqK_exc, dNext_ap, dAsg_ap, asgK_some, dRet_ap, retK_some, dIfS_ap, ifK_true, ifK_false, dDrop_ap, dropK_some, dApp_ap, appK_some, dExt_ap, extK_some, dClear_ap, clearK_some, dFor_ap, forK_some, dUnpk_ap, unpK_some, dFst_ap, fstK_some, dRaise_ap, raiK_some, runF_ap, runK_ret, runK_nx, runK_exc, runI_ap, runIK_nx, runIK_exc, dVar_ap, dC_ap, d1_ap, d2_ap, tB_ap, asB_bl, tAndF_ap, tOrF_ap, tNotF_ap, dAnd_ap, dOr_ap, dNot_ap, dIf_ap, ite_and, ite_or, ite_andD, ite_orD, dNilA_ap, dConsA_ap, dTup_ap, dLst_ap, dImm_ap, oNone_ap, oSome_ap, asI_int, dCut_ap, cutK_lst, cutK_scr, dFld_ap, fldK_obj, dCall_ap, dCallN_ap, dFun_ap, okR_ok, dFunN_ap, okRN_lst, okRN_dI, okRN_dT, dMethN_ap, dMeth_ap, isObj_obj, uName_ap, uNil_ap, uCons_ap, uTup_ap, iLst_ap, lstOf_lst, lstOf_scr, iTupD_ap, tupOf_tup, iRev_ap, iEnum_ap, iRange1_ap, rng1K_int, iRange2_ap, rng2K_int, dLc_ap, tTrue_ap, dChain_ap, seqOf_lst, seqOf_tup, seqOf_scr, gLen_lst, gLen_tup, gLen_scr, gCat_lst, gAdd_int, gSub_int, gMul_int, gMod_int, gDiv_int, gLt_int, gLe_int, gGt_int, gGe_int, gMax2_int, gMin2_int, gIsi_lst, gEq_int, gNe_int, bindS, mapS, rng_len, Int.toNat_natCast, List.getElem?_cons_zero, List.getElem?_cons_succ, List.set_cons_zero, List.set_cons_succ, List.append_nil, List.nil_append, List.cons_append, List.replicate_succ, List.replicate_zero, List.length_map, List.length_cons, List.length_nil, Bool.not_true, Bool.not_false, decide_true, decide_false, reduceIte, Bool.false_eq_true, and_true, true_and, or_true, true_or, and_self, Bool.and_true, Bool.true_and, Bool.and_false, Bool.false_and, Bool.or_false, Bool.false_or, Bool.or_true, Bool.true_or, Int.reduceLT, Int.reduceLE, Int.reducePow, Int.reduceNeg, Int.reduceAdd, Int.reduceSub, Int.reduceMul, Int.reduceToNat, Nat.reduceLT, Nat.reduceAdd, Nat.reduceLeDiff, Nat.reducePow, dDGet2_ap, dPut_ap, dForE_ap, forEK_some, dMethPop_ap, dImm_ap, gIsN_non, gNotN_non, isNon_int, isNon_non, flat_int, in_int, notIn_int, eq_ints, ne_ints, eq_nil, ne_nil, gDIn_dict, gDNotIn_dict, getD'_dict, dSetM_ap, setmK_non, setmK_lst, isNon_lst, gIsi_list_non, notIn_tup, in_tup, gLen_encT, gNeg_int, dCutT_ap, cutTK_enc, catT_enc, catT_one, gRevT_enc, gTupOf_ints, gIsB_bl, gIsnotB_bl, gEq_bl, gNe_bl, gIsi_bool_bl, gIsi_bool_int, gIsi_tup, ne_tup0, eq_tup0, plV_ap, plVK_some, plF_ap, plFK_obj, plK_ap, plG_ap, outO_some, dPlSet_ap, plSetK_some, dPlPut_ap, dPlPutN_ap, dPlApp_ap, dPlSetd_ap, dSh_ap, xFun_ap, xFunK_some, xOut_ok, xOut_exc, xOK_some, xEK_some, dDropE_ap, dropEK_val, dropEK_exc, dAsgE_ap, asgEK_val, dIfE_ap, ifEK_t, ifEK_f, ifEK_exc, runO_ap, runOK_nx, runOK_reto, runOK_exc, dReto_ap, retoK_some, seqK_reto, dDropX_ap, dropXK_ok, dropXK_exc, dMethX_ap, methXK_obj, dCallF_ap, h1]
  | m + 1, .bl b, _ => by
    show runF false 1 (sm_l_alike (fnR_l_alike m)) [.bl b, .bl b] = _
    have h1 : isNon (.bl b) = false := rfl
    have h2 := gIsi_bool_bl b
    have h3 : decide (b = b) = true := decide_eq_true rfl
    unfold sm_l_alike
    simp only [bindS, mapS, rng_len, dSeq_ap, seqK_nx, seqK_ret, seqK_cont, seqK_brk, seqK_exc, dNext_ap, dAsg_ap, asgK_some, dRet_ap, retK_some, dIfS_ap, ifK_true, ifK_false, dDrop_ap, dropK_some, dApp_ap, appK_some, dExt_ap, extK_some, dClear_ap, clearK_some, dFor_ap, forK_some, dUnpk_ap, unpK_some, dFst_ap, fstK_some, dRaise_ap, raiK_some, runF_ap, runK_ret, runK_nx, runK_exc, runI_ap, runIK_nx, runIK_exc, dVar_ap, dC_ap, d1_ap, d2_ap, tB_ap, asB_bl, tAndF_ap, tOrF_ap, tNotF_ap, dAnd_ap, dOr_ap, dNot_ap, dIf_ap, ite_and, ite_or, ite_andD, ite_orD, dNilA_ap, dConsA_ap, dTup_ap, dLst_ap, dImm_ap, oNone_ap, oSome_ap, asI_int, dCut_ap, cutK_lst, cutK_scr, dFld_ap, fldK_obj, dCall_ap, dCallN_ap, dFun_ap, okR_ok, dFunN_ap, okRN_lst, okRN_dI, okRN_dT, dMethN_ap, dMeth_ap, isObj_obj, uName_ap, uNil_ap, uCons_ap, uTup_ap, iLst_ap, lstOf_lst, lstOf_scr, iTupD_ap, tupOf_tup, iRev_ap, iEnum_ap, iRange1_ap, rng1K_int, iRange2_ap, rng2K_int, dLc_ap, tTrue_ap, dChain_ap, seqOf_lst, seqOf_tup, seqOf_scr, gLen_lst, gLen_tup, gLen_scr, gCat_lst, gAdd_int, gSub_int, gMul_int, gMod_int, gDiv_int, gLt_int, gLe_int, gGt_int, gGe_int, gMax2_int, gMin2_int, gIsi_lst, gEq_int, gNe_int, bindS, mapS, rng_len, Int.toNat_natCast, List.getElem?_cons_zero, List.getElem?_cons_succ, List.set_cons_zero, List.set_cons_succ, List.append_nil, List.nil_append, List.cons_append, List.replicate_succ, List.replicate_zero, List.length_map, List.length_cons, List.length_nil, Bool.not_true, Bool.not_false, decide_true, decide_false, reduceIte, Bool.false_eq_true, and_true, true_and, or_true, true_or, and_self, Bool.and_true, Bool.true_and, Bool.and_false, Bool.false_and, Bool.or_false, Bool.false_or, Bool.or_true, Bool.true_or, Int.reduceLT, Int.reduceLE, Int.reducePow, Int.reduceNeg, Int.reduceAdd, Int.reduceSub, Int.reduceMul, Int.reduceToNat, Nat.reduceLT, Nat.reduceAdd, Nat.reduceLeDiff, Nat.reducePow, dDGet2_ap, dPut_ap, dForE_ap, forEK_some, dMethPop_ap, dImm_ap, gIsN_non, gNotN_non, isNon_int, isNon_non, flat_int, in_int, notIn_int, eq_ints, ne_ints, eq_nil, ne_nil, gDIn_dict, gDNotIn_dict, getD'_dict, dSetM_ap, setmK_non, setmK_lst, isNon_lst, gIsi_list_non, notIn_tup, in_tup, gLen_encT, gNeg_int, dCutT_ap, cutTK_enc, catT_enc, catT_one, gRevT_enc, gTupOf_ints, gIsB_bl, gIsnotB_bl, gEq_bl, gNe_bl, gIsi_bool_bl, gIsi_bool_int, gIsi_tup, ne_tup0, eq_tup0, plV_ap, plVK_some, plF_ap, plFK_obj, plK_ap, plG_ap, outO_some, dPlSet_ap, plSetK_some, dPlPut_ap, dPlPutN_ap, dPlApp_ap, dPlSetd_ap, dSh_ap, xFun_ap, xFunK_some, xOut_ok, xOut_exc, xOK_some, xEK_some, dDropE_ap, dropEK_val, dropEK_exc, dAsgE_ap, asgEK_val, dIfE_ap, ifEK_t, ifEK_f, ifEK_exc, runO_ap, runOK_nx, runOK_reto, runOK_exc, dReto_ap, retoK_some, seqK_reto, dDropX_ap, dropXK_ok, dropXK_exc, dMethX_ap, methXK_obj, dCallF_ap, h1, h2, h3]
  | m + 1, .int i, _ => by
    show runF false 1 (sm_l_alike (fnR_l_alike m)) [.int i, .int i] = _
    have h1 : isNon (.int i) = false := rfl
    have h2 : gIsi "int" (.int i) = some (.bl true) := by show (kitB "int" "int").map D.bl = _; rfl
    have h3 : decide (i = i) = true := decide_eq_true rfl
    unfold sm_l_alike
    simp only [bindS, mapS, rng_len, dSeq_ap, seqK_nx, seqK_ret, seqK_cont, seqK_brk, seqK_exc, dNext_ap, dAsg_ap, asgK_some, dRet_ap, retK_some, dIfS_ap, ifK_true, ifK_false, dDrop_ap, dropK_some, dApp_ap, appK_some, dExt_ap, extK_some, dClear_ap, clearK_some, dFor_ap, forK_some, dUnpk_ap, unpK_some, dFst_ap, fstK_some, dRaise_ap, raiK_some, runF_ap, runK_ret, runK_nx, runK_exc, runI_ap, runIK_nx, runIK_exc, dVar_ap, dC_ap, d1_ap, d2_ap, tB_ap, asB_bl, tAndF_ap, tOrF_ap, tNotF_ap, dAnd_ap, dOr_ap, dNot_ap, dIf_ap, ite_and, ite_or, ite_andD, ite_orD, dNilA_ap, dConsA_ap, dTup_ap, dLst_ap, dImm_ap, oNone_ap, oSome_ap, asI_int, dCut_ap, cutK_lst, cutK_scr, dFld_ap, fldK_obj, dCall_ap, dCallN_ap, dFun_ap, okR_ok, dFunN_ap, okRN_lst, okRN_dI, okRN_dT, dMethN_ap, dMeth_ap, isObj_obj, uName_ap, uNil_ap, uCons_ap, uTup_ap, iLst_ap, lstOf_lst, lstOf_scr, iTupD_ap, tupOf_tup, iRev_ap, iEnum_ap, iRange1_ap, rng1K_int, iRange2_ap, rng2K_int, dLc_ap, tTrue_ap, dChain_ap, seqOf_lst, seqOf_tup, seqOf_scr, gLen_lst, gLen_tup, gLen_scr, gCat_lst, gAdd_int, gSub_int, gMul_int, gMod_int, gDiv_int, gLt_int, gLe_int, gGt_int, gGe_int, gMax2_int, gMin2_int, gIsi_lst, gEq_int, gNe_int, bindS, mapS, rng_len, Int.toNat_natCast, List.getElem?_cons_zero, List.getElem?_cons_succ, List.set_cons_zero, List.set_cons_succ, List.append_nil, List.nil_append, List.cons_append, List.replicate_succ, List.replicate_zero, List.length_map, List.length_cons, List.length_nil, Bool.not_true, Bool.not_false, decide_true, decide_false, reduceIte, Bool.false_eq_true, and_true, true_and, or_true, true_or, and_self, Bool.and_true, Bool.true_and, Bool.and_false, Bool.false_and, Bool.or_false, Bool.false_or, Bool.or_true, Bool.true_or, Int.reduceLT, Int.reduceLE, Int.reducePow, Int.reduceNeg, Int.reduceAdd, Int.reduceSub, Int.reduceMul, Int.reduceToNat, Nat.reduceLT, Nat.reduceAdd, Nat.reduceLeDiff, Nat.reducePow, dDGet2_ap, dPut_ap, dForE_ap, forEK_some, dMethPop_ap, dImm_ap, gIsN_non, gNotN_non, isNon_int, isNon_non, flat_int, in_int, notIn_int, eq_ints, ne_ints, eq_nil, ne_nil, gDIn_dict, gDNotIn_dict, getD'_dict, dSetM_ap, setmK_non, setmK_lst, isNon_lst, gIsi_list_non, notIn_tup, in_tup, gLen_encT, gNeg_int, dCutT_ap, cutTK_enc, catT_enc, catT_one, gRevT_enc, gTupOf_ints, gIsB_bl, gIsnotB_bl, gEq_bl, gNe_bl, gIsi_bool_bl, gIsi_bool_int, gIsi_tup, ne_tup0, eq_tup0, plV_ap, plVK_some, plF_ap, plFK_obj, plK_ap, plG_ap, outO_some, dPlSet_ap, plSetK_some, dPlPut_ap, dPlPutN_ap, dPlApp_ap, dPlSetd_ap, dSh_ap, xFun_ap, xFunK_some, xOut_ok, xOut_exc, xOK_some, xEK_some, dDropE_ap, dropEK_val, dropEK_exc, dAsgE_ap, asgEK_val, dIfE_ap, ifEK_t, ifEK_f, ifEK_exc, runO_ap, runOK_nx, runOK_reto, runOK_exc, dReto_ap, retoK_some, seqK_reto, dDropX_ap, dropXK_ok, dropXK_exc, dMethX_ap, methXK_obj, dCallF_ap, h1, h2, gIsi_bool_int, h3]
  | m + 1, .str s, _ => by
    show runF false 1 (sm_l_alike (fnR_l_alike m)) [.str s, .str s] = _
    have h1 : isNon (.str s) = false := rfl
    have h2 : gIsi "bool" (.str s) = some (.bl false) := by show (kitB "str" "bool").map D.bl = _; rfl
    have h3 : gIsi "int" (.str s) = some (.bl false) := by show (kitB "str" "int").map D.bl = _; rfl
    have h4 : gIsi "str" (.str s) = some (.bl true) := by show (kitB "str" "str").map D.bl = _; rfl
    have h5 : gEq (.str s) (.str s) = some (.bl true) := gEq_self (n := 0) rfl (by decide)
    unfold sm_l_alike
    simp only [bindS, mapS, rng_len, dSeq_ap, seqK_nx, seqK_ret, seqK_cont, seqK_brk, seqK_exc, dNext_ap, dAsg_ap, asgK_some, dRet_ap, retK_some, dIfS_ap, ifK_true, ifK_false, dDrop_ap, dropK_some, dApp_ap, appK_some, dExt_ap, extK_some, dClear_ap, clearK_some, dFor_ap, forK_some, dUnpk_ap, unpK_some, dFst_ap, fstK_some, dRaise_ap, raiK_some, runF_ap, runK_ret, runK_nx, runK_exc, runI_ap, runIK_nx, runIK_exc, dVar_ap, dC_ap, d1_ap, d2_ap, tB_ap, asB_bl, tAndF_ap, tOrF_ap, tNotF_ap, dAnd_ap, dOr_ap, dNot_ap, dIf_ap, ite_and, ite_or, ite_andD, ite_orD, dNilA_ap, dConsA_ap, dTup_ap, dLst_ap, dImm_ap, oNone_ap, oSome_ap, asI_int, dCut_ap, cutK_lst, cutK_scr, dFld_ap, fldK_obj, dCall_ap, dCallN_ap, dFun_ap, okR_ok, dFunN_ap, okRN_lst, okRN_dI, okRN_dT, dMethN_ap, dMeth_ap, isObj_obj, uName_ap, uNil_ap, uCons_ap, uTup_ap, iLst_ap, lstOf_lst, lstOf_scr, iTupD_ap, tupOf_tup, iRev_ap, iEnum_ap, iRange1_ap, rng1K_int, iRange2_ap, rng2K_int, dLc_ap, tTrue_ap, dChain_ap, seqOf_lst, seqOf_tup, seqOf_scr, gLen_lst, gLen_tup, gLen_scr, gCat_lst, gAdd_int, gSub_int, gMul_int, gMod_int, gDiv_int, gLt_int, gLe_int, gGt_int, gGe_int, gMax2_int, gMin2_int, gIsi_lst, gEq_int, gNe_int, bindS, mapS, rng_len, Int.toNat_natCast, List.getElem?_cons_zero, List.getElem?_cons_succ, List.set_cons_zero, List.set_cons_succ, List.append_nil, List.nil_append, List.cons_append, List.replicate_succ, List.replicate_zero, List.length_map, List.length_cons, List.length_nil, Bool.not_true, Bool.not_false, decide_true, decide_false, reduceIte, Bool.false_eq_true, and_true, true_and, or_true, true_or, and_self, Bool.and_true, Bool.true_and, Bool.and_false, Bool.false_and, Bool.or_false, Bool.false_or, Bool.or_true, Bool.true_or, Int.reduceLT, Int.reduceLE, Int.reducePow, Int.reduceNeg, Int.reduceAdd, Int.reduceSub, Int.reduceMul, Int.reduceToNat, Nat.reduceLT, Nat.reduceAdd, Nat.reduceLeDiff, Nat.reducePow, dDGet2_ap, dPut_ap, dForE_ap, forEK_some, dMethPop_ap, dImm_ap, gIsN_non, gNotN_non, isNon_int, isNon_non, flat_int, in_int, notIn_int, eq_ints, ne_ints, eq_nil, ne_nil, gDIn_dict, gDNotIn_dict, getD'_dict, dSetM_ap, setmK_non, setmK_lst, isNon_lst, gIsi_list_non, notIn_tup, in_tup, gLen_encT, gNeg_int, dCutT_ap, cutTK_enc, catT_enc, catT_one, gRevT_enc, gTupOf_ints, gIsB_bl, gIsnotB_bl, gEq_bl, gNe_bl, gIsi_bool_bl, gIsi_bool_int, gIsi_tup, ne_tup0, eq_tup0, plV_ap, plVK_some, plF_ap, plFK_obj, plK_ap, plG_ap, outO_some, dPlSet_ap, plSetK_some, dPlPut_ap, dPlPutN_ap, dPlApp_ap, dPlSetd_ap, dSh_ap, xFun_ap, xFunK_some, xOut_ok, xOut_exc, xOK_some, xEK_some, dDropE_ap, dropEK_val, dropEK_exc, dAsgE_ap, asgEK_val, dIfE_ap, ifEK_t, ifEK_f, ifEK_exc, runO_ap, runOK_nx, runOK_reto, runOK_exc, dReto_ap, retoK_some, seqK_reto, dDropX_ap, dropXK_ok, dropXK_exc, dMethX_ap, methXK_obj, dCallF_ap, h1, h2, h3, h4, h5]
  | m + 1, .tup xs, h => by
    have h' : (xs.all (al m) && decide (xs.length ≤ 100000)) = true := h
    rw [Bool.and_eq_true, decide_eq_true_eq] at h'
    refine alike_seq (xs := xs) ?_ (fun k x e => ?_) rfl ?_ ?_ ?_ true false ?_ ?_ h'.2 fun x hx => alike_self (List.all_eq_true.mp h'.1 x hx)
    · exact gLen_tup
    · have q := gIx_nn (en := fun d : D => d) (xs := xs) (i := (k : Int)) (x := x) (by omega) (by rw [Int.toNat_natCast]; exact e)
      rw [List.map_id'] at q
      exact q
    · show (kitB "tuple" "bool").map D.bl = _; rfl
    · show (kitB "tuple" "int").map D.bl = _; rfl
    · show (kitB "tuple" "str").map D.bl = _; rfl
    · show (kitB "tuple" "tuple").map D.bl = _; rfl
    · show (kitB "tuple" "list").map D.bl = _; rfl
  | m + 1, .lst xs, h => by
    have h' : (xs.all (al m) && decide (xs.length ≤ 100000)) = true := h
    rw [Bool.and_eq_true, decide_eq_true_eq] at h'
    refine alike_seq (xs := xs) ?_ (fun k x e => ?_) rfl ?_ ?_ ?_ false true ?_ ?_ h'.2 fun x hx => alike_self (List.all_eq_true.mp h'.1 x hx)
    · exact gLen_lst
    · have q := gIx_nn (en := fun d : D => d) (xs := xs) (i := (k : Int)) (x := x) (by omega) (by rw [Int.toNat_natCast]; exact e)
      rw [List.map_id'] at q
      exact q
    · show (kitB "list" "bool").map D.bl = _; rfl
    · show (kitB "list" "int").map D.bl = _; rfl
    · show (kitB "list" "str").map D.bl = _; rfl
    · show (kitB "list" "tuple").map D.bl = _; rfl
    · show (kitB "list" "list").map D.bl = _; rfl
  | m + 1, .scr _, h => nomatch h
  | m + 1, .dI _, h => nomatch h
  | m + 1, .dT _, h => nomatch h
  | m + 1, .dS _, h => nomatch h
  | m + 1, .obj _ _, h => nomatch h
theorem al_pair {m : Nat} (p : Int × Int) : al (m + 2) (enc p) = true := rfl
theorem al_map {α : Type} {f : α → D} {m : Nat} (hf : ∀ x, al m (f x) = true) {xs : List α} (h : xs.length ≤ 100000) : al (m + 1) (.lst (xs.map f)) = true := by
  show ((xs.map f).all (al m) && decide ((xs.map f).length ≤ 100000)) = true
  rw [List.length_map, decide_eq_true h, Bool.and_true, List.all_eq_true]
  intro d hd
  obtain ⟨x, _, rfl⟩ := List.mem_map.mp hd
  exact hf x

/-! ### rows of a free hand -/
theorem turn_eq0 {P : D} {fr : List Int} {L : Led} : fn_Ledger_turn [ledD P fr L] = .ok (.int L.now) := by
  have w2 : fldK .Ledger 2 (ledD P fr L) = some (.int L.now) := fldK_obj
  unfold fn_Ledger_turn sm_Ledger_turn
  simp only [bindS, mapS, rng_len, dSeq_ap, seqK_nx, seqK_ret, seqK_cont, seqK_brk, seqK_exc, dNext_ap, dAsg_ap, asgK_some, dRet_ap, retK_some, dIfS_ap, ifK_true, ifK_false, dDrop_ap, dropK_some, dApp_ap, appK_some, dExt_ap, extK_some, dClear_ap, clearK_some, dFor_ap, forK_some, dUnpk_ap, unpK_some, dFst_ap, fstK_some, dRaise_ap, raiK_some, runF_ap, runK_ret, runK_nx, runK_exc, runI_ap, runIK_nx, runIK_exc, dVar_ap, dC_ap, d1_ap, d2_ap, tB_ap, asB_bl, tAndF_ap, tOrF_ap, tNotF_ap, dAnd_ap, dOr_ap, dNot_ap, dIf_ap, ite_and, ite_or, ite_andD, ite_orD, dNilA_ap, dConsA_ap, dTup_ap, dLst_ap, dImm_ap, oNone_ap, oSome_ap, asI_int, dCut_ap, cutK_lst, cutK_scr, dFld_ap, fldK_obj, dCall_ap, dCallN_ap, dFun_ap, okR_ok, dFunN_ap, okRN_lst, okRN_dI, okRN_dT, dMethN_ap, dMeth_ap, isObj_obj, uName_ap, uNil_ap, uCons_ap, uTup_ap, iLst_ap, lstOf_lst, lstOf_scr, iTupD_ap, tupOf_tup, iRev_ap, iEnum_ap, iRange1_ap, rng1K_int, iRange2_ap, rng2K_int, dLc_ap, tTrue_ap, dChain_ap, seqOf_lst, seqOf_tup, seqOf_scr, gLen_lst, gLen_tup, gLen_scr, gCat_lst, gAdd_int, gSub_int, gMul_int, gMod_int, gDiv_int, gLt_int, gLe_int, gGt_int, gGe_int, gMax2_int, gMin2_int, gIsi_lst, gEq_int, gNe_int, bindS, mapS, rng_len, Int.toNat_natCast, List.getElem?_cons_zero, List.getElem?_cons_succ, List.set_cons_zero, List.set_cons_succ, List.append_nil, List.nil_append, List.cons_append, List.replicate_succ, List.replicate_zero, List.length_map, List.length_cons, List.length_nil, Bool.not_true, Bool.not_false, decide_true, decide_false, reduceIte, Bool.false_eq_true, and_true, true_and, or_true, true_or, and_self, Bool.and_true, Bool.true_and, Bool.and_false, Bool.false_and, Bool.or_false, Bool.false_or, Bool.or_true, Bool.true_or, Int.reduceLT, Int.reduceLE, Int.reducePow, Int.reduceNeg, Int.reduceAdd, Int.reduceSub, Int.reduceMul, Int.reduceToNat, Nat.reduceLT, Nat.reduceAdd, Nat.reduceLeDiff, Nat.reducePow, dDGet2_ap, dPut_ap, dForE_ap, forEK_some, dMethPop_ap, dImm_ap, gIsN_non, gNotN_non, isNon_int, isNon_non, flat_int, in_int, notIn_int, eq_ints, ne_ints, eq_nil, ne_nil, gDIn_dict, gDNotIn_dict, getD'_dict, dSetM_ap, setmK_non, setmK_lst, isNon_lst, gIsi_list_non, notIn_tup, in_tup, gLen_encT, gNeg_int, dCutT_ap, cutTK_enc, catT_enc, catT_one, gRevT_enc, gTupOf_ints, gIsB_bl, gIsnotB_bl, gEq_bl, gNe_bl, gIsi_bool_bl, gIsi_bool_int, gIsi_tup, ne_tup0, eq_tup0, plV_ap, plVK_some, plF_ap, plFK_obj, plK_ap, plG_ap, outO_some, dPlSet_ap, plSetK_some, dPlPut_ap, dPlPutN_ap, dPlApp_ap, dPlSetd_ap, dSh_ap, xFun_ap, xFunK_some, xOut_ok, xOut_exc, xOK_some, xEK_some, dDropE_ap, dropEK_val, dropEK_exc, dAsgE_ap, asgEK_val, dIfE_ap, ifEK_t, ifEK_f, ifEK_exc, runO_ap, runOK_nx, runOK_reto, runOK_exc, dReto_ap, retoK_some, seqK_reto, dDropX_ap, dropXK_ok, dropXK_exc, dMethX_ap, methXK_obj, dCallF_ap, w2]
theorem laid_nil {P : D} {fr : List Int} {t : Int} : fn_Ledger_laid [ledD P fr ⟨t, [], [], []⟩] = .ok (.lst []) := by
  have w3 : fldK .Ledger 3 (ledD P fr ⟨t, [], [], []⟩) = some (.dT []) := fldK_obj
  have g : gSortKeysT (.dT []) = some (.lst []) := by
    show (if okSort [] = true then some (D.lst (sortD [])) else none) = _
    rw [if_pos (by decide)]
    unfold sortD
    rw [List.mergeSort_nil]
  unfold fn_Ledger_laid sm_Ledger_laid
  simp only [bindS, mapS, rng_len, dSeq_ap, seqK_nx, seqK_ret, seqK_cont, seqK_brk, seqK_exc, dNext_ap, dAsg_ap, asgK_some, dRet_ap, retK_some, dIfS_ap, ifK_true, ifK_false, dDrop_ap, dropK_some, dApp_ap, appK_some, dExt_ap, extK_some, dClear_ap, clearK_some, dFor_ap, forK_some, dUnpk_ap, unpK_some, dFst_ap, fstK_some, dRaise_ap, raiK_some, runF_ap, runK_ret, runK_nx, runK_exc, runI_ap, runIK_nx, runIK_exc, dVar_ap, dC_ap, d1_ap, d2_ap, tB_ap, asB_bl, tAndF_ap, tOrF_ap, tNotF_ap, dAnd_ap, dOr_ap, dNot_ap, dIf_ap, ite_and, ite_or, ite_andD, ite_orD, dNilA_ap, dConsA_ap, dTup_ap, dLst_ap, dImm_ap, oNone_ap, oSome_ap, asI_int, dCut_ap, cutK_lst, cutK_scr, dFld_ap, fldK_obj, dCall_ap, dCallN_ap, dFun_ap, okR_ok, dFunN_ap, okRN_lst, okRN_dI, okRN_dT, dMethN_ap, dMeth_ap, isObj_obj, uName_ap, uNil_ap, uCons_ap, uTup_ap, iLst_ap, lstOf_lst, lstOf_scr, iTupD_ap, tupOf_tup, iRev_ap, iEnum_ap, iRange1_ap, rng1K_int, iRange2_ap, rng2K_int, dLc_ap, tTrue_ap, dChain_ap, seqOf_lst, seqOf_tup, seqOf_scr, gLen_lst, gLen_tup, gLen_scr, gCat_lst, gAdd_int, gSub_int, gMul_int, gMod_int, gDiv_int, gLt_int, gLe_int, gGt_int, gGe_int, gMax2_int, gMin2_int, gIsi_lst, gEq_int, gNe_int, bindS, mapS, rng_len, Int.toNat_natCast, List.getElem?_cons_zero, List.getElem?_cons_succ, List.set_cons_zero, List.set_cons_succ, List.append_nil, List.nil_append, List.cons_append, List.replicate_succ, List.replicate_zero, List.length_map, List.length_cons, List.length_nil, Bool.not_true, Bool.not_false, decide_true, decide_false, reduceIte, Bool.false_eq_true, and_true, true_and, or_true, true_or, and_self, Bool.and_true, Bool.true_and, Bool.and_false, Bool.false_and, Bool.or_false, Bool.false_or, Bool.or_true, Bool.true_or, Int.reduceLT, Int.reduceLE, Int.reducePow, Int.reduceNeg, Int.reduceAdd, Int.reduceSub, Int.reduceMul, Int.reduceToNat, Nat.reduceLT, Nat.reduceAdd, Nat.reduceLeDiff, Nat.reducePow, dDGet2_ap, dPut_ap, dForE_ap, forEK_some, dMethPop_ap, dImm_ap, gIsN_non, gNotN_non, isNon_int, isNon_non, flat_int, in_int, notIn_int, eq_ints, ne_ints, eq_nil, ne_nil, gDIn_dict, gDNotIn_dict, getD'_dict, dSetM_ap, setmK_non, setmK_lst, isNon_lst, gIsi_list_non, notIn_tup, in_tup, gLen_encT, gNeg_int, dCutT_ap, cutTK_enc, catT_enc, catT_one, gRevT_enc, gTupOf_ints, gIsB_bl, gIsnotB_bl, gEq_bl, gNe_bl, gIsi_bool_bl, gIsi_bool_int, gIsi_tup, ne_tup0, eq_tup0, plV_ap, plVK_some, plF_ap, plFK_obj, plK_ap, plG_ap, outO_some, dPlSet_ap, plSetK_some, dPlPut_ap, dPlPutN_ap, dPlApp_ap, dPlSetd_ap, dSh_ap, xFun_ap, xFunK_some, xOut_ok, xOut_exc, xOK_some, xEK_some, dDropE_ap, dropEK_val, dropEK_exc, dAsgE_ap, asgEK_val, dIfE_ap, ifEK_t, ifEK_f, ifEK_exc, runO_ap, runOK_nx, runOK_reto, runOK_exc, dReto_ap, retoK_some, seqK_reto, dDropX_ap, dropXK_ok, dropXK_exc, dMethX_ap, methXK_obj, dCallF_ap, w3, g]
def fiveL : List D := [.tup [.str "lay", .tup [.int 0, .int 1]], .tup [.str "say", .tup [.int 1, .int 0], .tup [.int 0]], .tup [.str "say", .tup [.int 0, .int 1], .tup [.int 1, .int 0]], .tup [.str "wait"], .tup [.str "lay", .tup [.int 5, .int 5]]]
def deedF (x : Int) : D := fiveL.getD (x % 5).toNat .non
theorem deedF_mem (x : Int) : deedF x ∈ fiveL := by
  have h1 := Int.emod_nonneg x (show (5 : Int) ≠ 0 by decide)
  have h2 := Int.emod_lt_of_pos x (show (0 : Int) < 5 by decide)
  have h : (x % 5).toNat < fiveL.length := by show _ < 5; omega
  unfold deedF
  rw [List.getD_eq_getElem?_getD, List.getElem?_eq_getElem h]
  exact List.getElem_mem h
theorem fiveL_flat : ∀ d ∈ fiveL, flat d = true ∧ gd 2 d = true ∧ al 3 d = true := by
  intro d hd
  unfold fiveL at hd
  simp only [List.mem_cons, List.not_mem_nil, or_false] at hd
  rcases hd with rfl | rfl | rfl | rfl | rfl
  all_goals exact ⟨by simp [flat, flats], by simp [gd], by simp [al]⟩
theorem l_deed_eq (x : Int) : fn_l_deed [.int x] = .ok (deedF x) := by
  have g : gMod (.int x) (.int 5) = some (.int (x % 5)) := gMod_int (by decide)
  have h1 := Int.emod_nonneg x (show (5 : Int) ≠ 0 by decide)
  have h2 := Int.emod_lt_of_pos x (show (0 : Int) < 5 by decide)
  have i : gIx (.lst (fiveL.map fun d => d)) (.int (x % 5)) = some (deedF x) := by
    refine gIx_nn (en := fun d : D => d) h1 ?_
    unfold deedF
    have h : (x % 5).toNat < fiveL.length := by show _ < 5; omega
    rw [List.getD_eq_getElem?_getD, List.getElem?_eq_getElem h]
    rfl
  rw [List.map_id'] at i
  unfold fiveL at i
  unfold fn_l_deed sm_l_deed
  simp only [bindS, mapS, rng_len, dSeq_ap, seqK_nx, seqK_ret, seqK_cont, seqK_brk, seqK_exc, dNext_ap, dAsg_ap, asgK_some, dRet_ap, retK_some, dIfS_ap, ifK_true, ifK_false, dDrop_ap, dropK_some, dApp_ap, appK_some, dExt_ap, extK_some, dClear_ap, clearK_some, dFor_ap, forK_some, dUnpk_ap, unpK_some, dFst_ap, fstK_some, dRaise_ap, raiK_some, runF_ap, runK_ret, runK_nx, runK_exc, runI_ap, runIK_nx, runIK_exc, dVar_ap, dC_ap, d1_ap, d2_ap, tB_ap, asB_bl, tAndF_ap, tOrF_ap, tNotF_ap, dAnd_ap, dOr_ap, dNot_ap, dIf_ap, ite_and, ite_or, ite_andD, ite_orD, dNilA_ap, dConsA_ap, dTup_ap, dLst_ap, dImm_ap, oNone_ap, oSome_ap, asI_int, dCut_ap, cutK_lst, cutK_scr, dFld_ap, fldK_obj, dCall_ap, dCallN_ap, dFun_ap, okR_ok, dFunN_ap, okRN_lst, okRN_dI, okRN_dT, dMethN_ap, dMeth_ap, isObj_obj, uName_ap, uNil_ap, uCons_ap, uTup_ap, iLst_ap, lstOf_lst, lstOf_scr, iTupD_ap, tupOf_tup, iRev_ap, iEnum_ap, iRange1_ap, rng1K_int, iRange2_ap, rng2K_int, dLc_ap, tTrue_ap, dChain_ap, seqOf_lst, seqOf_tup, seqOf_scr, gLen_lst, gLen_tup, gLen_scr, gCat_lst, gAdd_int, gSub_int, gMul_int, gMod_int, gDiv_int, gLt_int, gLe_int, gGt_int, gGe_int, gMax2_int, gMin2_int, gIsi_lst, gEq_int, gNe_int, bindS, mapS, rng_len, Int.toNat_natCast, List.getElem?_cons_zero, List.getElem?_cons_succ, List.set_cons_zero, List.set_cons_succ, List.append_nil, List.nil_append, List.cons_append, List.replicate_succ, List.replicate_zero, List.length_map, List.length_cons, List.length_nil, Bool.not_true, Bool.not_false, decide_true, decide_false, reduceIte, Bool.false_eq_true, and_true, true_and, or_true, true_or, and_self, Bool.and_true, Bool.true_and, Bool.and_false, Bool.false_and, Bool.or_false, Bool.false_or, Bool.or_true, Bool.true_or, Int.reduceLT, Int.reduceLE, Int.reducePow, Int.reduceNeg, Int.reduceAdd, Int.reduceSub, Int.reduceMul, Int.reduceToNat, Nat.reduceLT, Nat.reduceAdd, Nat.reduceLeDiff, Nat.reducePow, dDGet2_ap, dPut_ap, dForE_ap, forEK_some, dMethPop_ap, dImm_ap, gIsN_non, gNotN_non, isNon_int, isNon_non, flat_int, in_int, notIn_int, eq_ints, ne_ints, eq_nil, ne_nil, gDIn_dict, gDNotIn_dict, getD'_dict, dSetM_ap, setmK_non, setmK_lst, isNon_lst, gIsi_list_non, notIn_tup, in_tup, gLen_encT, gNeg_int, dCutT_ap, cutTK_enc, catT_enc, catT_one, gRevT_enc, gTupOf_ints, gIsB_bl, gIsnotB_bl, gEq_bl, gNe_bl, gIsi_bool_bl, gIsi_bool_int, gIsi_tup, ne_tup0, eq_tup0, plV_ap, plVK_some, plF_ap, plFK_obj, plK_ap, plG_ap, outO_some, dPlSet_ap, plSetK_some, dPlPut_ap, dPlPutN_ap, dPlApp_ap, dPlSetd_ap, dSh_ap, xFun_ap, xFunK_some, xOut_ok, xOut_exc, xOK_some, xEK_some, dDropE_ap, dropEK_val, dropEK_exc, dAsgE_ap, asgEK_val, dIfE_ap, ifEK_t, ifEK_f, ifEK_exc, runO_ap, runOK_nx, runOK_reto, runOK_exc, dReto_ap, retoK_some, seqK_reto, dDropX_ap, dropXK_ok, dropXK_exc, dMethX_ap, methXK_obj, dCallF_ap, g, i]
def rowD (q : Int × D) : D := .tup [.int q.1, q.2]
theorem rows_flat {rows : List (Int × D)} (h : ∀ q ∈ rows, q.2 ∈ fiveL) : flats (rows.map rowD) = true := by
  induction rows with
  | nil => rw [List.map_nil, flats]
  | cons q qs ih =>
    rw [List.map_cons, flats, ih fun x hx => h x (.tail _ hx)]
    unfold rowD
    rw [flat, flats, flats, flats, flat, (fiveL_flat _ (h q (.head _))).1]
    rfl
theorem Free_init_eq {rows : List (Int × D)} (h : ∀ q ∈ rows, q.2 ∈ fiveL) (hl : rows.length ≤ 1000) : fn_Free_init [.lst (rows.map rowD)] = .ok (.obj .Free [.lst (rows.map rowD), .non]) := by
  have f0 : ∀ d ρ, fstK 0 .Free 0 (some d) (some (.obj .Free [])) ρ = .nx (ρ.set 0 (.obj .Free [d])) := fun _ _ => rfl
  have f1 : ∀ a d ρ, fstK 0 .Free 1 (some d) (some (.obj .Free [a])) ρ = .nx (ρ.set 0 (.obj .Free [a, d])) := fun _ _ _ => rfl
  have is : gIsi "list" (.lst (rows.map rowD)) = some (.bl true) := rfl
  have ps : ∀ x s, plSetK .Free 0 (some x) (some (.obj .Free [.lst [], .non], s)) = outO (s (.obj .Free [x, .non])) := fun _ _ => rfl
  have so : seqOf (.lst (rows.map rowD)) = some (rows.map rowD) := rfl
  unfold fn_Free_init sm_Free_init
  simp only [bindS, mapS, rng_len, dSeq_ap, seqK_nx, seqK_ret, seqK_cont, seqK_brk, seqK_exc, dNext_ap, dAsg_ap, asgK_some, dRet_ap, retK_some, dIfS_ap, ifK_true, ifK_false, dDrop_ap, dropK_some, dApp_ap, appK_some, dExt_ap, extK_some, dClear_ap, clearK_some, dFor_ap, forK_some, dUnpk_ap, unpK_some, dFst_ap, fstK_some, dRaise_ap, raiK_some, runF_ap, runK_ret, runK_nx, runK_exc, runI_ap, runIK_nx, runIK_exc, dVar_ap, dC_ap, d1_ap, d2_ap, tB_ap, asB_bl, tAndF_ap, tOrF_ap, tNotF_ap, dAnd_ap, dOr_ap, dNot_ap, dIf_ap, ite_and, ite_or, ite_andD, ite_orD, dNilA_ap, dConsA_ap, dTup_ap, dLst_ap, dImm_ap, oNone_ap, oSome_ap, asI_int, dCut_ap, cutK_lst, cutK_scr, dFld_ap, fldK_obj, dCall_ap, dCallN_ap, dFun_ap, okR_ok, dFunN_ap, okRN_lst, okRN_dI, okRN_dT, dMethN_ap, dMeth_ap, isObj_obj, uName_ap, uNil_ap, uCons_ap, uTup_ap, iLst_ap, lstOf_lst, lstOf_scr, iTupD_ap, tupOf_tup, iRev_ap, iEnum_ap, iRange1_ap, rng1K_int, iRange2_ap, rng2K_int, dLc_ap, tTrue_ap, dChain_ap, seqOf_lst, seqOf_tup, seqOf_scr, gLen_lst, gLen_tup, gLen_scr, gCat_lst, gAdd_int, gSub_int, gMul_int, gMod_int, gDiv_int, gLt_int, gLe_int, gGt_int, gGe_int, gMax2_int, gMin2_int, gIsi_lst, gEq_int, gNe_int, bindS, mapS, rng_len, Int.toNat_natCast, List.getElem?_cons_zero, List.getElem?_cons_succ, List.set_cons_zero, List.set_cons_succ, List.append_nil, List.nil_append, List.cons_append, List.replicate_succ, List.replicate_zero, List.length_map, List.length_cons, List.length_nil, Bool.not_true, Bool.not_false, decide_true, decide_false, reduceIte, Bool.false_eq_true, and_true, true_and, or_true, true_or, and_self, Bool.and_true, Bool.true_and, Bool.and_false, Bool.false_and, Bool.or_false, Bool.false_or, Bool.or_true, Bool.true_or, Int.reduceLT, Int.reduceLE, Int.reducePow, Int.reduceNeg, Int.reduceAdd, Int.reduceSub, Int.reduceMul, Int.reduceToNat, Nat.reduceLT, Nat.reduceAdd, Nat.reduceLeDiff, Nat.reducePow, dDGet2_ap, dPut_ap, dForE_ap, forEK_some, dMethPop_ap, dImm_ap, gIsN_non, gNotN_non, isNon_int, isNon_non, flat_int, in_int, notIn_int, eq_ints, ne_ints, eq_nil, ne_nil, gDIn_dict, gDNotIn_dict, getD'_dict, dSetM_ap, setmK_non, setmK_lst, isNon_lst, gIsi_list_non, notIn_tup, in_tup, gLen_encT, gNeg_int, dCutT_ap, cutTK_enc, catT_enc, catT_one, gRevT_enc, gTupOf_ints, gIsB_bl, gIsnotB_bl, gEq_bl, gNe_bl, gIsi_bool_bl, gIsi_bool_int, gIsi_tup, ne_tup0, eq_tup0, plV_ap, plVK_some, plF_ap, plFK_obj, plK_ap, plG_ap, outO_some, dPlSet_ap, plSetK_some, dPlPut_ap, dPlPutN_ap, dPlApp_ap, dPlSetd_ap, dSh_ap, xFun_ap, xFunK_some, xOut_ok, xOut_exc, xOK_some, xEK_some, dDropE_ap, dropEK_val, dropEK_exc, dAsgE_ap, asgEK_val, dIfE_ap, ifEK_t, ifEK_f, ifEK_exc, runO_ap, runOK_nx, runOK_reto, runOK_exc, dReto_ap, retoK_some, seqK_reto, dDropX_ap, dropXK_ok, dropXK_exc, dMethX_ap, methXK_obj, dCallF_ap, f0, f1, is, so, callFK_flat (rows_flat h), ps]
theorem Free_deeds_eq {P : D} {fr : List Int} {L : Led} {rows : List (Int × D)} (h : ∀ q ∈ rows, q.2 ∈ fiveL) (hl : rows.length ≤ 1000) : fn_Free_deeds [.obj .Free [.lst (rows.map rowD), .non], ledD P fr L] = .ok (.lst ((rows.filter fun q => decide (q.1 = L.now)).map (·.2))) := by
  have f1 : fldK .Free 1 (.obj .Free [.lst (rows.map rowD), .non]) = some .non := fldK_obj
  have f0 : fldK .Free 0 (.obj .Free [.lst (rows.map rowD), .non]) = some (.lst (rows.map rowD)) := fldK_obj
  have ob : isObj .Ledger (ledD P fr L) = true := rfl
  have tn := turn_eq0 (P := P) (fr := fr) (L := L)
  have lc := lcD_map (en := rowD) (en' := fun d : D => d) (u := uTup (uCons (uName 3) (uCons (uName 4) uNil))) (t := DL.tB (d2 gEq (dVar 3) (dMeth .Ledger fn_Ledger_turn (dVar 1) dNilA []))) (f := dImm (dVar 4)) (ρ := [.obj .Free [.lst (rows.map rowD), .non], ledD P fr L, .non, .non, .non]) (fun q => decide (q.1 = L.now)) (fun q => q.2) (xs := rows) fun q hq => by
    have fl := (fiveL_flat _ (h q hq)).1
    refine ⟨_, rfl, by simp only [bindS, mapS, rng_len, dSeq_ap, seqK_nx, seqK_ret, seqK_cont, seqK_brk, seqK_exc, dNext_ap, dAsg_ap, asgK_some, dRet_ap, retK_some, dIfS_ap, ifK_true, ifK_false, dDrop_ap, dropK_some, dApp_ap, appK_some, dExt_ap, extK_some, dClear_ap, clearK_some, dFor_ap, forK_some, dUnpk_ap, unpK_some, dFst_ap, fstK_some, dRaise_ap, raiK_some, runF_ap, runK_ret, runK_nx, runK_exc, runI_ap, runIK_nx, runIK_exc, dVar_ap, dC_ap, d1_ap, d2_ap, tB_ap, asB_bl, tAndF_ap, tOrF_ap, tNotF_ap, dAnd_ap, dOr_ap, dNot_ap, dIf_ap, ite_and, ite_or, ite_andD, ite_orD, dNilA_ap, dConsA_ap, dTup_ap, dLst_ap, dImm_ap, oNone_ap, oSome_ap, asI_int, dCut_ap, cutK_lst, cutK_scr, dFld_ap, fldK_obj, dCall_ap, dCallN_ap, dFun_ap, okR_ok, dFunN_ap, okRN_lst, okRN_dI, okRN_dT, dMethN_ap, dMeth_ap, isObj_obj, uName_ap, uNil_ap, uCons_ap, uTup_ap, iLst_ap, lstOf_lst, lstOf_scr, iTupD_ap, tupOf_tup, iRev_ap, iEnum_ap, iRange1_ap, rng1K_int, iRange2_ap, rng2K_int, dLc_ap, tTrue_ap, dChain_ap, seqOf_lst, seqOf_tup, seqOf_scr, gLen_lst, gLen_tup, gLen_scr, gCat_lst, gAdd_int, gSub_int, gMul_int, gMod_int, gDiv_int, gLt_int, gLe_int, gGt_int, gGe_int, gMax2_int, gMin2_int, gIsi_lst, gEq_int, gNe_int, bindS, mapS, rng_len, Int.toNat_natCast, List.getElem?_cons_zero, List.getElem?_cons_succ, List.set_cons_zero, List.set_cons_succ, List.append_nil, List.nil_append, List.cons_append, List.replicate_succ, List.replicate_zero, List.length_map, List.length_cons, List.length_nil, Bool.not_true, Bool.not_false, decide_true, decide_false, reduceIte, Bool.false_eq_true, and_true, true_and, or_true, true_or, and_self, Bool.and_true, Bool.true_and, Bool.and_false, Bool.false_and, Bool.or_false, Bool.false_or, Bool.or_true, Bool.true_or, Int.reduceLT, Int.reduceLE, Int.reducePow, Int.reduceNeg, Int.reduceAdd, Int.reduceSub, Int.reduceMul, Int.reduceToNat, Nat.reduceLT, Nat.reduceAdd, Nat.reduceLeDiff, Nat.reducePow, dDGet2_ap, dPut_ap, dForE_ap, forEK_some, dMethPop_ap, dImm_ap, gIsN_non, gNotN_non, isNon_int, isNon_non, flat_int, in_int, notIn_int, eq_ints, ne_ints, eq_nil, ne_nil, gDIn_dict, gDNotIn_dict, getD'_dict, dSetM_ap, setmK_non, setmK_lst, isNon_lst, gIsi_list_non, notIn_tup, in_tup, gLen_encT, gNeg_int, dCutT_ap, cutTK_enc, catT_enc, catT_one, gRevT_enc, gTupOf_ints, gIsB_bl, gIsnotB_bl, gEq_bl, gNe_bl, gIsi_bool_bl, gIsi_bool_int, gIsi_tup, ne_tup0, eq_tup0, plV_ap, plVK_some, plF_ap, plFK_obj, plK_ap, plG_ap, outO_some, dPlSet_ap, plSetK_some, dPlPut_ap, dPlPutN_ap, dPlApp_ap, dPlSetd_ap, dSh_ap, xFun_ap, xFunK_some, xOut_ok, xOut_exc, xOK_some, xEK_some, dDropE_ap, dropEK_val, dropEK_exc, dAsgE_ap, asgEK_val, dIfE_ap, ifEK_t, ifEK_f, ifEK_exc, runO_ap, runOK_nx, runOK_reto, runOK_exc, dReto_ap, retoK_some, seqK_reto, dDropX_ap, dropXK_ok, dropXK_exc, dMethX_ap, methXK_obj, dCallF_ap, ob, tn], fun _ => ?_⟩
    simp only [bindS, mapS, rng_len, dSeq_ap, seqK_nx, seqK_ret, seqK_cont, seqK_brk, seqK_exc, dNext_ap, dAsg_ap, asgK_some, dRet_ap, retK_some, dIfS_ap, ifK_true, ifK_false, dDrop_ap, dropK_some, dApp_ap, appK_some, dExt_ap, extK_some, dClear_ap, clearK_some, dFor_ap, forK_some, dUnpk_ap, unpK_some, dFst_ap, fstK_some, dRaise_ap, raiK_some, runF_ap, runK_ret, runK_nx, runK_exc, runI_ap, runIK_nx, runIK_exc, dVar_ap, dC_ap, d1_ap, d2_ap, tB_ap, asB_bl, tAndF_ap, tOrF_ap, tNotF_ap, dAnd_ap, dOr_ap, dNot_ap, dIf_ap, ite_and, ite_or, ite_andD, ite_orD, dNilA_ap, dConsA_ap, dTup_ap, dLst_ap, dImm_ap, oNone_ap, oSome_ap, asI_int, dCut_ap, cutK_lst, cutK_scr, dFld_ap, fldK_obj, dCall_ap, dCallN_ap, dFun_ap, okR_ok, dFunN_ap, okRN_lst, okRN_dI, okRN_dT, dMethN_ap, dMeth_ap, isObj_obj, uName_ap, uNil_ap, uCons_ap, uTup_ap, iLst_ap, lstOf_lst, lstOf_scr, iTupD_ap, tupOf_tup, iRev_ap, iEnum_ap, iRange1_ap, rng1K_int, iRange2_ap, rng2K_int, dLc_ap, tTrue_ap, dChain_ap, seqOf_lst, seqOf_tup, seqOf_scr, gLen_lst, gLen_tup, gLen_scr, gCat_lst, gAdd_int, gSub_int, gMul_int, gMod_int, gDiv_int, gLt_int, gLe_int, gGt_int, gGe_int, gMax2_int, gMin2_int, gIsi_lst, gEq_int, gNe_int, bindS, mapS, rng_len, Int.toNat_natCast, List.getElem?_cons_zero, List.getElem?_cons_succ, List.set_cons_zero, List.set_cons_succ, List.append_nil, List.nil_append, List.cons_append, List.replicate_succ, List.replicate_zero, List.length_map, List.length_cons, List.length_nil, Bool.not_true, Bool.not_false, decide_true, decide_false, reduceIte, Bool.false_eq_true, and_true, true_and, or_true, true_or, and_self, Bool.and_true, Bool.true_and, Bool.and_false, Bool.false_and, Bool.or_false, Bool.false_or, Bool.or_true, Bool.true_or, Int.reduceLT, Int.reduceLE, Int.reducePow, Int.reduceNeg, Int.reduceAdd, Int.reduceSub, Int.reduceMul, Int.reduceToNat, Nat.reduceLT, Nat.reduceAdd, Nat.reduceLeDiff, Nat.reducePow, dDGet2_ap, dPut_ap, dForE_ap, forEK_some, dMethPop_ap, dImm_ap, gIsN_non, gNotN_non, isNon_int, isNon_non, flat_int, in_int, notIn_int, eq_ints, ne_ints, eq_nil, ne_nil, gDIn_dict, gDNotIn_dict, getD'_dict, dSetM_ap, setmK_non, setmK_lst, isNon_lst, gIsi_list_non, notIn_tup, in_tup, gLen_encT, gNeg_int, dCutT_ap, cutTK_enc, catT_enc, catT_one, gRevT_enc, gTupOf_ints, gIsB_bl, gIsnotB_bl, gEq_bl, gNe_bl, gIsi_bool_bl, gIsi_bool_int, gIsi_tup, ne_tup0, eq_tup0, plV_ap, plVK_some, plF_ap, plFK_obj, plK_ap, plG_ap, outO_some, dPlSet_ap, plSetK_some, dPlPut_ap, dPlPutN_ap, dPlApp_ap, dPlSetd_ap, dSh_ap, xFun_ap, xFunK_some, xOut_ok, xOut_exc, xOK_some, xEK_some, dDropE_ap, dropEK_val, dropEK_exc, dAsgE_ap, asgEK_val, dIfE_ap, ifEK_t, ifEK_f, ifEK_exc, runO_ap, runOK_nx, runOK_reto, runOK_exc, dReto_ap, retoK_some, seqK_reto, dDropX_ap, dropXK_ok, dropXK_exc, dMethX_ap, methXK_obj, dCallF_ap, fl]
  rw [List.map_id'] at lc
  have ll : (rows.map rowD).length ≤ 100000 := by rw [List.length_map]; omega
  have ll2 : rows.length ≤ 100000 := by omega
  unfold fn_Free_deeds sm_Free_deeds
  simp only [bindS, mapS, rng_len, dSeq_ap, seqK_nx, seqK_ret, seqK_cont, seqK_brk, seqK_exc, dNext_ap, dAsg_ap, asgK_some, dRet_ap, retK_some, dIfS_ap, ifK_true, ifK_false, dDrop_ap, dropK_some, dApp_ap, appK_some, dExt_ap, extK_some, dClear_ap, clearK_some, dFor_ap, forK_some, dUnpk_ap, unpK_some, dFst_ap, fstK_some, dRaise_ap, raiK_some, runF_ap, runK_ret, runK_nx, runK_exc, runI_ap, runIK_nx, runIK_exc, dVar_ap, dC_ap, d1_ap, d2_ap, tB_ap, asB_bl, tAndF_ap, tOrF_ap, tNotF_ap, dAnd_ap, dOr_ap, dNot_ap, dIf_ap, ite_and, ite_or, ite_andD, ite_orD, dNilA_ap, dConsA_ap, dTup_ap, dLst_ap, dImm_ap, oNone_ap, oSome_ap, asI_int, dCut_ap, cutK_lst, cutK_scr, dFld_ap, fldK_obj, dCall_ap, dCallN_ap, dFun_ap, okR_ok, dFunN_ap, okRN_lst, okRN_dI, okRN_dT, dMethN_ap, dMeth_ap, isObj_obj, uName_ap, uNil_ap, uCons_ap, uTup_ap, iLst_ap, lstOf_lst, lstOf_scr, iTupD_ap, tupOf_tup, iRev_ap, iEnum_ap, iRange1_ap, rng1K_int, iRange2_ap, rng2K_int, dLc_ap, tTrue_ap, dChain_ap, seqOf_lst, seqOf_tup, seqOf_scr, gLen_lst, gLen_tup, gLen_scr, gCat_lst, gAdd_int, gSub_int, gMul_int, gMod_int, gDiv_int, gLt_int, gLe_int, gGt_int, gGe_int, gMax2_int, gMin2_int, gIsi_lst, gEq_int, gNe_int, bindS, mapS, rng_len, Int.toNat_natCast, List.getElem?_cons_zero, List.getElem?_cons_succ, List.set_cons_zero, List.set_cons_succ, List.append_nil, List.nil_append, List.cons_append, List.replicate_succ, List.replicate_zero, List.length_map, List.length_cons, List.length_nil, Bool.not_true, Bool.not_false, decide_true, decide_false, reduceIte, Bool.false_eq_true, and_true, true_and, or_true, true_or, and_self, Bool.and_true, Bool.true_and, Bool.and_false, Bool.false_and, Bool.or_false, Bool.false_or, Bool.or_true, Bool.true_or, Int.reduceLT, Int.reduceLE, Int.reducePow, Int.reduceNeg, Int.reduceAdd, Int.reduceSub, Int.reduceMul, Int.reduceToNat, Nat.reduceLT, Nat.reduceAdd, Nat.reduceLeDiff, Nat.reducePow, dDGet2_ap, dPut_ap, dForE_ap, forEK_some, dMethPop_ap, dImm_ap, gIsN_non, gNotN_non, isNon_int, isNon_non, flat_int, in_int, notIn_int, eq_ints, ne_ints, eq_nil, ne_nil, gDIn_dict, gDNotIn_dict, getD'_dict, dSetM_ap, setmK_non, setmK_lst, isNon_lst, gIsi_list_non, notIn_tup, in_tup, gLen_encT, gNeg_int, dCutT_ap, cutTK_enc, catT_enc, catT_one, gRevT_enc, gTupOf_ints, gIsB_bl, gIsnotB_bl, gEq_bl, gNe_bl, gIsi_bool_bl, gIsi_bool_int, gIsi_tup, ne_tup0, eq_tup0, plV_ap, plVK_some, plF_ap, plFK_obj, plK_ap, plG_ap, outO_some, dPlSet_ap, plSetK_some, dPlPut_ap, dPlPutN_ap, dPlApp_ap, dPlSetd_ap, dSh_ap, xFun_ap, xFunK_some, xOut_ok, xOut_exc, xOK_some, xEK_some, dDropE_ap, dropEK_val, dropEK_exc, dAsgE_ap, asgEK_val, dIfE_ap, ifEK_t, ifEK_f, ifEK_exc, runO_ap, runOK_nx, runOK_reto, runOK_exc, dReto_ap, retoK_some, seqK_reto, dDropX_ap, dropXK_ok, dropXK_exc, dMethX_ap, methXK_obj, dCallF_ap, f1, f0, ll2, lc]
theorem Keeper0 (x : Int) : fn_Keeper_init [.int x] = .ok (.obj .Keeper [.int x]) := by
  have f0 : ∀ d ρ, fstK 0 .Keeper 0 (some d) (some (.obj .Keeper [])) ρ = .nx (ρ.set 0 (.obj .Keeper [d])) := fun _ _ => rfl
  unfold fn_Keeper_init sm_Keeper_init
  simp only [bindS, mapS, rng_len, dSeq_ap, seqK_nx, seqK_ret, seqK_cont, seqK_brk, seqK_exc, dNext_ap, dAsg_ap, asgK_some, dRet_ap, retK_some, dIfS_ap, ifK_true, ifK_false, dDrop_ap, dropK_some, dApp_ap, appK_some, dExt_ap, extK_some, dClear_ap, clearK_some, dFor_ap, forK_some, dUnpk_ap, unpK_some, dFst_ap, fstK_some, dRaise_ap, raiK_some, runF_ap, runK_ret, runK_nx, runK_exc, runI_ap, runIK_nx, runIK_exc, dVar_ap, dC_ap, d1_ap, d2_ap, tB_ap, asB_bl, tAndF_ap, tOrF_ap, tNotF_ap, dAnd_ap, dOr_ap, dNot_ap, dIf_ap, ite_and, ite_or, ite_andD, ite_orD, dNilA_ap, dConsA_ap, dTup_ap, dLst_ap, dImm_ap, oNone_ap, oSome_ap, asI_int, dCut_ap, cutK_lst, cutK_scr, dFld_ap, fldK_obj, dCall_ap, dCallN_ap, dFun_ap, okR_ok, dFunN_ap, okRN_lst, okRN_dI, okRN_dT, dMethN_ap, dMeth_ap, isObj_obj, uName_ap, uNil_ap, uCons_ap, uTup_ap, iLst_ap, lstOf_lst, lstOf_scr, iTupD_ap, tupOf_tup, iRev_ap, iEnum_ap, iRange1_ap, rng1K_int, iRange2_ap, rng2K_int, dLc_ap, tTrue_ap, dChain_ap, seqOf_lst, seqOf_tup, seqOf_scr, gLen_lst, gLen_tup, gLen_scr, gCat_lst, gAdd_int, gSub_int, gMul_int, gMod_int, gDiv_int, gLt_int, gLe_int, gGt_int, gGe_int, gMax2_int, gMin2_int, gIsi_lst, gEq_int, gNe_int, bindS, mapS, rng_len, Int.toNat_natCast, List.getElem?_cons_zero, List.getElem?_cons_succ, List.set_cons_zero, List.set_cons_succ, List.append_nil, List.nil_append, List.cons_append, List.replicate_succ, List.replicate_zero, List.length_map, List.length_cons, List.length_nil, Bool.not_true, Bool.not_false, decide_true, decide_false, reduceIte, Bool.false_eq_true, and_true, true_and, or_true, true_or, and_self, Bool.and_true, Bool.true_and, Bool.and_false, Bool.false_and, Bool.or_false, Bool.false_or, Bool.or_true, Bool.true_or, Int.reduceLT, Int.reduceLE, Int.reducePow, Int.reduceNeg, Int.reduceAdd, Int.reduceSub, Int.reduceMul, Int.reduceToNat, Nat.reduceLT, Nat.reduceAdd, Nat.reduceLeDiff, Nat.reducePow, dDGet2_ap, dPut_ap, dForE_ap, forEK_some, dMethPop_ap, dImm_ap, gIsN_non, gNotN_non, isNon_int, isNon_non, flat_int, in_int, notIn_int, eq_ints, ne_ints, eq_nil, ne_nil, gDIn_dict, gDNotIn_dict, getD'_dict, dSetM_ap, setmK_non, setmK_lst, isNon_lst, gIsi_list_non, notIn_tup, in_tup, gLen_encT, gNeg_int, dCutT_ap, cutTK_enc, catT_enc, catT_one, gRevT_enc, gTupOf_ints, gIsB_bl, gIsnotB_bl, gEq_bl, gNe_bl, gIsi_bool_bl, gIsi_bool_int, gIsi_tup, ne_tup0, eq_tup0, plV_ap, plVK_some, plF_ap, plFK_obj, plK_ap, plG_ap, outO_some, dPlSet_ap, plSetK_some, dPlPut_ap, dPlPutN_ap, dPlApp_ap, dPlSetd_ap, dSh_ap, xFun_ap, xFunK_some, xOut_ok, xOut_exc, xOK_some, xEK_some, dDropE_ap, dropEK_val, dropEK_exc, dAsgE_ap, asgEK_val, dIfE_ap, ifEK_t, ifEK_f, ifEK_exc, runO_ap, runOK_nx, runOK_reto, runOK_exc, dReto_ap, retoK_some, seqK_reto, dDropX_ap, dropXK_ok, dropXK_exc, dMethX_ap, methXK_obj, dCallF_ap, f0]
theorem law_true (ns : List Int) (h : ns.length ≤ 63) : fn_law [.scr ns] = .ok (.bl true) := by
  obtain ⟨c, hc⟩ : ∃ c : Int, ns.getD 0 0 = c := ⟨_, rfl⟩
  have ca : fn_l_cell_at [.scr ns, .int 0] = .ok (.int c) := by rw [← hc]; exact cell_at_eq ns 0
  have v : Valid (2 : Nat) [((0 : Int), (1 : Int)), (1, 0)] := ⟨by decide, fun p hp => by
    rcases List.mem_cons.mp hp with rfl | hp
    · decide
    · rw [List.mem_singleton.mp hp]; decide⟩
  have wi := Web_init_eq (n := 2) (by decide) (by decide) v (by decide)
  have wi' : fn_Web_init [.int 2, .lst [.tup [.int 0, .int 1], .tup [.int 1, .int 0]]] = .ok (webD 2 [(0, 1), (1, 0)]) := wi
  have gl : GoodL 2 [0] := ⟨by decide, List.pairwise_singleton .., fun x hx => by rw [List.mem_singleton.mp hx]; decide, by decide⟩
  have pi := Plan_init_eq (kvs := [((0, 1), 2), ((1, 0), 2)]) (lim := fun _ => 2) v (by decide) gl fun p hp => by
    rcases List.mem_cons.mp hp with rfl | hp
    · rfl
    · rw [List.mem_singleton.mp hp]; rfl
  obtain ⟨P, hP⟩ : ∃ P, planD (2 : Nat) [((0 : Int), (1 : Int)), (1, 0)] [0] (fun _ => 2) = P := ⟨_, rfl⟩
  rw [hP] at pi
  have pi' : fn_Plan_init [webD 2 [(0, 1), (1, 0)], .lst [.int 0], .dT [([0, 1], .int 2), ([1, 0], .int 2)]] = .ok P := pi
  have dd : ∀ ρ : List D, dDispT2 (dTup (dConsA (dC (.int 0)) (dConsA (dC (.int 1)) dNilA))) (dC (.int 2)) (dTup (dConsA (dC (.int 1)) (dConsA (dC (.int 0)) dNilA))) (dC (.int 2)) ρ = some (.dT [([0, 1], .int 2), ([1, 0], .int 2)]) := fun ρ => rfl
  have li := Ledger_init_eq (P := P) (fr := [0, 1]) (by decide)
  have li' : fn_Ledger_init [P, .lst [.int 0, .int 1]] = .ok (ledD P [0, 1] ⟨1, [], [], []⟩) := li
  -- the rows
  obtain ⟨cs, hcs⟩ : ∃ cs, (ns.drop 1).take 30 = cs := ⟨_, rfl⟩
  have csl : cs.length ≤ 30 := by rw [← hcs, List.length_take]; omega
  have cut : cutD (ns.map D.int) (some 1) (some 31) = cs.map .int := by
    unfold cutD
    rw [List.length_map, sIx_nn (by decide), sIx_nn (by decide), ← hcs, List.map_take, List.map_drop]
    rcases Nat.lt_or_ge ns.length 1 with q | q
    · have e : ns = [] := List.length_eq_zero_iff.mp (by omega)
      rw [e]
      rfl
    · rw [show min (1 : Int).toNat ns.length = 1 by omega]
      refine List.take_eq_take_iff.mpr ?_
      rw [List.length_drop, List.length_map]
      omega
  obtain ⟨rows, hrows⟩ : ∃ rows, cs.map (fun x => (1 + x / 5 % 9, deedF x)) = rows := ⟨_, rfl⟩
  have rin : ∀ q ∈ rows, q.2 ∈ fiveL := fun q hq => by
    rw [← hrows] at hq
    obtain ⟨x, _, rfl⟩ := List.mem_map.mp hq
    exact deedF_mem x
  have rl : rows.length ≤ 30 := by rw [← hrows, List.length_map]; exact csl
  have l3 := lcD_map (en := D.int) (en' := rowD) (u := uName 9) (t := tTrue) (f := dTup (dConsA (d2 gAdd (dC (.int 1)) (d2 gMod (d2 gDiv (dVar 9) (dC (.int 5))) (dC (.int 9)))) (dConsA (dFun fn_l_deed (dConsA (dVar 9) dNilA) []) dNilA))) (ρ := [.scr ns, P, ledD P [0, 1] ⟨1, [], [], []⟩, .non, .non, .non, .non, .non, .non, .non, .non, .non]) (fun _ => true) (fun x => (1 + x / 5 % 9, deedF x)) (xs := cs) fun x hx => by
    refine ⟨_, rfl, rfl, fun _ => ?_⟩
    have d5 : gDiv (.int x) (.int 5) = some (.int (x / 5)) := gDiv_int (by decide)
    have m9 : gMod (.int (x / 5)) (.int 9) = some (.int (x / 5 % 9)) := gMod_int (by decide)
    have ld := l_deed_eq x
    simp only [bindS, mapS, rng_len, dSeq_ap, seqK_nx, seqK_ret, seqK_cont, seqK_brk, seqK_exc, dNext_ap, dAsg_ap, asgK_some, dRet_ap, retK_some, dIfS_ap, ifK_true, ifK_false, dDrop_ap, dropK_some, dApp_ap, appK_some, dExt_ap, extK_some, dClear_ap, clearK_some, dFor_ap, forK_some, dUnpk_ap, unpK_some, dFst_ap, fstK_some, dRaise_ap, raiK_some, runF_ap, runK_ret, runK_nx, runK_exc, runI_ap, runIK_nx, runIK_exc, dVar_ap, dC_ap, d1_ap, d2_ap, tB_ap, asB_bl, tAndF_ap, tOrF_ap, tNotF_ap, dAnd_ap, dOr_ap, dNot_ap, dIf_ap, ite_and, ite_or, ite_andD, ite_orD, dNilA_ap, dConsA_ap, dTup_ap, dLst_ap, dImm_ap, oNone_ap, oSome_ap, asI_int, dCut_ap, cutK_lst, cutK_scr, dFld_ap, fldK_obj, dCall_ap, dCallN_ap, dFun_ap, okR_ok, dFunN_ap, okRN_lst, okRN_dI, okRN_dT, dMethN_ap, dMeth_ap, isObj_obj, uName_ap, uNil_ap, uCons_ap, uTup_ap, iLst_ap, lstOf_lst, lstOf_scr, iTupD_ap, tupOf_tup, iRev_ap, iEnum_ap, iRange1_ap, rng1K_int, iRange2_ap, rng2K_int, dLc_ap, tTrue_ap, dChain_ap, seqOf_lst, seqOf_tup, seqOf_scr, gLen_lst, gLen_tup, gLen_scr, gCat_lst, gAdd_int, gSub_int, gMul_int, gMod_int, gDiv_int, gLt_int, gLe_int, gGt_int, gGe_int, gMax2_int, gMin2_int, gIsi_lst, gEq_int, gNe_int, bindS, mapS, rng_len, Int.toNat_natCast, List.getElem?_cons_zero, List.getElem?_cons_succ, List.set_cons_zero, List.set_cons_succ, List.append_nil, List.nil_append, List.cons_append, List.replicate_succ, List.replicate_zero, List.length_map, List.length_cons, List.length_nil, Bool.not_true, Bool.not_false, decide_true, decide_false, reduceIte, Bool.false_eq_true, and_true, true_and, or_true, true_or, and_self, Bool.and_true, Bool.true_and, Bool.and_false, Bool.false_and, Bool.or_false, Bool.false_or, Bool.or_true, Bool.true_or, Int.reduceLT, Int.reduceLE, Int.reducePow, Int.reduceNeg, Int.reduceAdd, Int.reduceSub, Int.reduceMul, Int.reduceToNat, Nat.reduceLT, Nat.reduceAdd, Nat.reduceLeDiff, Nat.reducePow, dDGet2_ap, dPut_ap, dForE_ap, forEK_some, dMethPop_ap, dImm_ap, gIsN_non, gNotN_non, isNon_int, isNon_non, flat_int, in_int, notIn_int, eq_ints, ne_ints, eq_nil, ne_nil, gDIn_dict, gDNotIn_dict, getD'_dict, dSetM_ap, setmK_non, setmK_lst, isNon_lst, gIsi_list_non, notIn_tup, in_tup, gLen_encT, gNeg_int, dCutT_ap, cutTK_enc, catT_enc, catT_one, gRevT_enc, gTupOf_ints, gIsB_bl, gIsnotB_bl, gEq_bl, gNe_bl, gIsi_bool_bl, gIsi_bool_int, gIsi_tup, ne_tup0, eq_tup0, plV_ap, plVK_some, plF_ap, plFK_obj, plK_ap, plG_ap, outO_some, dPlSet_ap, plSetK_some, dPlPut_ap, dPlPutN_ap, dPlApp_ap, dPlSetd_ap, dSh_ap, xFun_ap, xFunK_some, xOut_ok, xOut_exc, xOK_some, xEK_some, dDropE_ap, dropEK_val, dropEK_exc, dAsgE_ap, asgEK_val, dIfE_ap, ifEK_t, ifEK_f, ifEK_exc, runO_ap, runOK_nx, runOK_reto, runOK_exc, dReto_ap, retoK_some, seqK_reto, dDropX_ap, dropXK_ok, dropXK_exc, dMethX_ap, methXK_obj, dCallF_ap, d5, m9, ld]
    rfl
  rw [List.filter_eq_self.mpr fun _ _ => rfl, hrows] at l3
  have csl2 : cs.length ≤ 100000 := by omega
  have fi := Free_init_eq rin (by omega)
  obtain ⟨RW, hRW⟩ : ∃ RW, rows.map rowD = RW := ⟨_, rfl⟩
  have RWl : RW.length ≤ 30 := by rw [← hRW, List.length_map]; exact rl
  obtain ⟨X, hX⟩ : ∃ X : D, D.tup [.int 1, .tup [.str "lay", .tup [.int 1, .int 0]]] = X := ⟨_, rfl⟩
  have cut2 : cutD (RW ++ [X]) none (some (-1)) = RW := by
    unfold cutD
    rw [HT.sIx_none, Nat.sub_zero, List.drop_zero]
    show (RW ++ [X]).take (if (-1 : Int) < 0 then ((-1 : Int) + ((RW ++ [X]).length : Int)).toNat else min (-1 : Int).toNat (RW ++ [X]).length) = RW
    rw [if_pos (by decide), List.length_append, show ((-1 : Int) + ((RW.length + [X].length : Nat) : Int)).toNat = RW.length by
      show ((-1 : Int) + ((RW.length + 1 : Nat) : Int)).toNat = _
      omega, List.take_left']
    rfl
  have gdR : gd 4 (.lst RW) = true := by
    rw [← hRW]
    unfold gd
    rw [List.all_eq_true]
    intro d hd
    obtain ⟨q, hq, rfl⟩ := List.mem_map.mp hd
    show (gd 2 (.int q.1) && (gd 2 q.2 && true)) = true
    rw [(fiveL_flat _ (rin q hq)).2.1]
    rfl
  have ne := gNe_self gdR (by decide)
  have k0 := Keeper0 0
  have k1 := Keeper0 1
  rw [hRW] at fi l3
  obtain ⟨F, hF⟩ : ∃ F, D.obj .Free [.lst RW, .non] = F := ⟨_, rfl⟩
  rw [hF] at fi
  have i1 : gIsI [.Free, .Keeper] .Hand F = some (.bl true) := by rw [← hF]; rfl
  have i2 : ∀ x : Int, gIsI [.Free, .Keeper] .Hand (.obj .Keeper [.int x]) = some (.bl true) := fun _ => rfl
  have i3 : gIsI [.Free, .Keeper] .Keeper F = some (.bl false) := by rw [← hF]; rfl
  have i4 : ∀ x : Int, gIsI [.Free, .Keeper] .Free (.obj .Keeper [.int x]) = some (.bl false) := fun _ => rfl
  have dlen : (rows.map rowD).length < 100000 := by rw [List.length_map]; omega
  have sq : seqOf (.lst RW) = some RW := rfl
  have RWl2 : RW.length < 100000 := by omega
  -- the turns
  have g12 : gMod (.int c) (.int 12) = some (.int (c % 12)) := gMod_int (by decide)
  have q1 := Int.emod_nonneg c (show (12 : Int) ≠ 0 by decide)
  have q2 := Int.emod_lt_of_pos c (show (0 : Int) < 12 by decide)
  have rg : rng2K (.int 1) (.int (1 + c % 12)) = some (rng 1 (c % 12).toNat) := by
    rw [rng2K_int (by omega), show (1 + c % 12 - 1).toNat = (c % 12).toNat by omega]
  obtain ⟨m, hm⟩ : ∃ m, (c % 12).toNat = m := ⟨_, rfl⟩
  rw [hm] at rg
  have obF : isObj .Free F = true := by rw [← hF]; rfl
  have obL : ∀ L, isObj .Ledger (ledD P [0, 1] L) = true := fun _ => rfl
  have obH : isObj .Hand (.obj .Hand []) = true := rfl
  obtain ⟨ρ', e, z6, z7, z8, rfl⟩ := forD_rng (u := uName 6) (F := sb_law_0) (lo := 1) (n := m) (ρ := [.scr ns, P, ledD P [0, 1] ⟨1, [], [], []⟩, .lst RW, .lst (RW ++ [X]), F, .non, .non, .non, .non, .non, .non])
    (fun i ρ => ∃ z6 z7 z8 : D, ρ = [.scr ns, P, ledD P [0, 1] ⟨1 + (i : Int), [], [], []⟩, .lst RW, .lst (RW ++ [X]), F, z6, z7, z8, .non, .non, .non]) ⟨_, _, _, rfl⟩ fun i ρ hi ⟨z6, z7, z8, e⟩ => by
      subst e
      obtain ⟨t, ht⟩ : ∃ t : Int, 1 + (i : Int) = t := ⟨_, rfl⟩
      rw [show (1 : Int) + ((i + 1 : Nat) : Int) = t + 1 by omega, ht]
      have fd := Free_deeds_eq (P := P) (fr := [0, 1]) (L := ⟨t, [], [], []⟩) rin (by omega)
      rw [hRW, hF] at fd
      obtain ⟨ds, hds⟩ : ∃ ds, (rows.filter fun q => decide (q.1 = t)).map (·.2) = ds := ⟨_, rfl⟩
      have dsl : ds.length ≤ 30 := by rw [← hds, List.length_map]; exact Nat.le_trans (List.length_filter_le _ _) rl
      have fd' : fn_Free_deeds [F, ledD P [0, 1] ⟨t, [], [], []⟩] = .ok (.lst ds) := by rw [← hds]; exact fd
      have okn : okRN (.ok (.lst ds)) = some (.lst ds) := rfl
      have l8 := lcD_map (en := rowD) (en' := fun d : D => d) (u := uTup (uCons (uName 10) (uCons (uName 11) uNil))) (t := DL.tB (d2 gEq (dVar 10) (dVar 6))) (f := dVar 11) (ρ := [.scr ns, P, ledD P [0, 1] ⟨t, [], [], []⟩, .lst RW, .lst (RW ++ [X]), F, .int t, .lst ds, z8, .non, .non, .non]) (fun q => decide (q.1 = t)) (fun q => q.2) (xs := rows) fun q hq => ⟨_, rfl, by simp only [bindS, mapS, rng_len, dSeq_ap, seqK_nx, seqK_ret, seqK_cont, seqK_brk, seqK_exc, dNext_ap, dAsg_ap, asgK_some, dRet_ap, retK_some, dIfS_ap, ifK_true, ifK_false, dDrop_ap, dropK_some, dApp_ap, appK_some, dExt_ap, extK_some, dClear_ap, clearK_some, dFor_ap, forK_some, dUnpk_ap, unpK_some, dFst_ap, fstK_some, dRaise_ap, raiK_some, runF_ap, runK_ret, runK_nx, runK_exc, runI_ap, runIK_nx, runIK_exc, dVar_ap, dC_ap, d1_ap, d2_ap, tB_ap, asB_bl, tAndF_ap, tOrF_ap, tNotF_ap, dAnd_ap, dOr_ap, dNot_ap, dIf_ap, ite_and, ite_or, ite_andD, ite_orD, dNilA_ap, dConsA_ap, dTup_ap, dLst_ap, dImm_ap, oNone_ap, oSome_ap, asI_int, dCut_ap, cutK_lst, cutK_scr, dFld_ap, fldK_obj, dCall_ap, dCallN_ap, dFun_ap, okR_ok, dFunN_ap, okRN_lst, okRN_dI, okRN_dT, dMethN_ap, dMeth_ap, isObj_obj, uName_ap, uNil_ap, uCons_ap, uTup_ap, iLst_ap, lstOf_lst, lstOf_scr, iTupD_ap, tupOf_tup, iRev_ap, iEnum_ap, iRange1_ap, rng1K_int, iRange2_ap, rng2K_int, dLc_ap, tTrue_ap, dChain_ap, seqOf_lst, seqOf_tup, seqOf_scr, gLen_lst, gLen_tup, gLen_scr, gCat_lst, gAdd_int, gSub_int, gMul_int, gMod_int, gDiv_int, gLt_int, gLe_int, gGt_int, gGe_int, gMax2_int, gMin2_int, gIsi_lst, gEq_int, gNe_int, bindS, mapS, rng_len, Int.toNat_natCast, List.getElem?_cons_zero, List.getElem?_cons_succ, List.set_cons_zero, List.set_cons_succ, List.append_nil, List.nil_append, List.cons_append, List.replicate_succ, List.replicate_zero, List.length_map, List.length_cons, List.length_nil, Bool.not_true, Bool.not_false, decide_true, decide_false, reduceIte, Bool.false_eq_true, and_true, true_and, or_true, true_or, and_self, Bool.and_true, Bool.true_and, Bool.and_false, Bool.false_and, Bool.or_false, Bool.false_or, Bool.or_true, Bool.true_or, Int.reduceLT, Int.reduceLE, Int.reducePow, Int.reduceNeg, Int.reduceAdd, Int.reduceSub, Int.reduceMul, Int.reduceToNat, Nat.reduceLT, Nat.reduceAdd, Nat.reduceLeDiff, Nat.reducePow, dDGet2_ap, dPut_ap, dForE_ap, forEK_some, dMethPop_ap, dImm_ap, gIsN_non, gNotN_non, isNon_int, isNon_non, flat_int, in_int, notIn_int, eq_ints, ne_ints, eq_nil, ne_nil, gDIn_dict, gDNotIn_dict, getD'_dict, dSetM_ap, setmK_non, setmK_lst, isNon_lst, gIsi_list_non, notIn_tup, in_tup, gLen_encT, gNeg_int, dCutT_ap, cutTK_enc, catT_enc, catT_one, gRevT_enc, gTupOf_ints, gIsB_bl, gIsnotB_bl, gEq_bl, gNe_bl, gIsi_bool_bl, gIsi_bool_int, gIsi_tup, ne_tup0, eq_tup0, plV_ap, plVK_some, plF_ap, plFK_obj, plK_ap, plG_ap, outO_some, dPlSet_ap, plSetK_some, dPlPut_ap, dPlPutN_ap, dPlApp_ap, dPlSetd_ap, dSh_ap, xFun_ap, xFunK_some, xOut_ok, xOut_exc, xOK_some, xEK_some, dDropE_ap, dropEK_val, dropEK_exc, dAsgE_ap, asgEK_val, dIfE_ap, ifEK_t, ifEK_f, ifEK_exc, runO_ap, runOK_nx, runOK_reto, runOK_exc, dReto_ap, retoK_some, seqK_reto, dDropX_ap, dropXK_ok, dropXK_exc, dMethX_ap, methXK_obj, dCallF_ap], fun _ => rfl⟩
      rw [List.map_id', hds, hRW] at l8
      have RWl3 : RW.length ≤ 100000 := by omega
      have alk : fn_l_alike [.lst ds, .lst ds] = .ok (.bl true) := by
        refine alike_self (m := 5) ?_
        show (ds.all (al 4) && decide (ds.length ≤ 100000)) = true
        rw [decide_eq_true (by omega), Bool.and_true, List.all_eq_true]
        intro d hd
        rw [← hds] at hd
        obtain ⟨q, hq, rfl⟩ := List.mem_map.mp hd
        have a3 := (fiveL_flat _ (rin q (List.mem_filter.mp hq).1)).2.2
        have hin := rin q (List.mem_filter.mp hq).1
        unfold fiveL at hin
        simp only [List.mem_cons, List.not_mem_nil, or_false] at hin
        rcases hin with e | e | e | e | e <;> rw [e] <;> simp [al]
      have hd0 : fn_Hand_deeds [.obj .Hand [], ledD P [0, 1] ⟨t, [], [], []⟩] = .ok (.lst []) := by
        unfold fn_Hand_deeds sm_Hand_deeds
        simp only [bindS, mapS, rng_len, dSeq_ap, seqK_nx, seqK_ret, seqK_cont, seqK_brk, seqK_exc, dNext_ap, dAsg_ap, asgK_some, dRet_ap, retK_some, dIfS_ap, ifK_true, ifK_false, dDrop_ap, dropK_some, dApp_ap, appK_some, dExt_ap, extK_some, dClear_ap, clearK_some, dFor_ap, forK_some, dUnpk_ap, unpK_some, dFst_ap, fstK_some, dRaise_ap, raiK_some, runF_ap, runK_ret, runK_nx, runK_exc, runI_ap, runIK_nx, runIK_exc, dVar_ap, dC_ap, d1_ap, d2_ap, tB_ap, asB_bl, tAndF_ap, tOrF_ap, tNotF_ap, dAnd_ap, dOr_ap, dNot_ap, dIf_ap, ite_and, ite_or, ite_andD, ite_orD, dNilA_ap, dConsA_ap, dTup_ap, dLst_ap, dImm_ap, oNone_ap, oSome_ap, asI_int, dCut_ap, cutK_lst, cutK_scr, dFld_ap, fldK_obj, dCall_ap, dCallN_ap, dFun_ap, okR_ok, dFunN_ap, okRN_lst, okRN_dI, okRN_dT, dMethN_ap, dMeth_ap, isObj_obj, uName_ap, uNil_ap, uCons_ap, uTup_ap, iLst_ap, lstOf_lst, lstOf_scr, iTupD_ap, tupOf_tup, iRev_ap, iEnum_ap, iRange1_ap, rng1K_int, iRange2_ap, rng2K_int, dLc_ap, tTrue_ap, dChain_ap, seqOf_lst, seqOf_tup, seqOf_scr, gLen_lst, gLen_tup, gLen_scr, gCat_lst, gAdd_int, gSub_int, gMul_int, gMod_int, gDiv_int, gLt_int, gLe_int, gGt_int, gGe_int, gMax2_int, gMin2_int, gIsi_lst, gEq_int, gNe_int, bindS, mapS, rng_len, Int.toNat_natCast, List.getElem?_cons_zero, List.getElem?_cons_succ, List.set_cons_zero, List.set_cons_succ, List.append_nil, List.nil_append, List.cons_append, List.replicate_succ, List.replicate_zero, List.length_map, List.length_cons, List.length_nil, Bool.not_true, Bool.not_false, decide_true, decide_false, reduceIte, Bool.false_eq_true, and_true, true_and, or_true, true_or, and_self, Bool.and_true, Bool.true_and, Bool.and_false, Bool.false_and, Bool.or_false, Bool.false_or, Bool.or_true, Bool.true_or, Int.reduceLT, Int.reduceLE, Int.reducePow, Int.reduceNeg, Int.reduceAdd, Int.reduceSub, Int.reduceMul, Int.reduceToNat, Nat.reduceLT, Nat.reduceAdd, Nat.reduceLeDiff, Nat.reducePow, dDGet2_ap, dPut_ap, dForE_ap, forEK_some, dMethPop_ap, dImm_ap, gIsN_non, gNotN_non, isNon_int, isNon_non, flat_int, in_int, notIn_int, eq_ints, ne_ints, eq_nil, ne_nil, gDIn_dict, gDNotIn_dict, getD'_dict, dSetM_ap, setmK_non, setmK_lst, isNon_lst, gIsi_list_non, notIn_tup, in_tup, gLen_encT, gNeg_int, dCutT_ap, cutTK_enc, catT_enc, catT_one, gRevT_enc, gTupOf_ints, gIsB_bl, gIsnotB_bl, gEq_bl, gNe_bl, gIsi_bool_bl, gIsi_bool_int, gIsi_tup, ne_tup0, eq_tup0, plV_ap, plVK_some, plF_ap, plFK_obj, plK_ap, plG_ap, outO_some, dPlSet_ap, plSetK_some, dPlPut_ap, dPlPutN_ap, dPlApp_ap, dPlSetd_ap, dSh_ap, xFun_ap, xFunK_some, xOut_ok, xOut_exc, xOK_some, xEK_some, dDropE_ap, dropEK_val, dropEK_exc, dAsgE_ap, asgEK_val, dIfE_ap, ifEK_t, ifEK_f, ifEK_exc, runO_ap, runOK_nx, runOK_reto, runOK_exc, dReto_ap, retoK_some, seqK_reto, dDropX_ap, dropXK_ok, dropXK_exc, dMethX_ap, methXK_obj, dCallF_ap]
      have nn : gNe (.lst []) (.lst []) = some (.bl false) := gNe_self (n := 1) rfl (by decide)
      have ap2 : ds.length < 100000 := by omega
      have la := laid_nil (P := P) (fr := [0, 1]) (t := t)
      have okn0 : okRN (.ok (.lst [])) = some (.lst []) := rfl
      have tn := turn_eq0 (P := P) (fr := [0, 1]) (L := ⟨t, [], [], []⟩)
      have mv := Ledger_move_eq (P := P) (fr := [0, 1]) (L := ⟨t, [], [], []⟩)
      refine ⟨_, _, rfl, .inl ?_, .int t, .lst (ds ++ [.tup [.str "lay", .tup [.int 0, .int 1]]]), .lst ds, rfl⟩
      unfold sb_law_0
      simp only [bindS, mapS, rng_len, dSeq_ap, seqK_nx, seqK_ret, seqK_cont, seqK_brk, seqK_exc, dNext_ap, dAsg_ap, asgK_some, dRet_ap, retK_some, dIfS_ap, ifK_true, ifK_false, dDrop_ap, dropK_some, dApp_ap, appK_some, dExt_ap, extK_some, dClear_ap, clearK_some, dFor_ap, forK_some, dUnpk_ap, unpK_some, dFst_ap, fstK_some, dRaise_ap, raiK_some, runF_ap, runK_ret, runK_nx, runK_exc, runI_ap, runIK_nx, runIK_exc, dVar_ap, dC_ap, d1_ap, d2_ap, tB_ap, asB_bl, tAndF_ap, tOrF_ap, tNotF_ap, dAnd_ap, dOr_ap, dNot_ap, dIf_ap, ite_and, ite_or, ite_andD, ite_orD, dNilA_ap, dConsA_ap, dTup_ap, dLst_ap, dImm_ap, oNone_ap, oSome_ap, asI_int, dCut_ap, cutK_lst, cutK_scr, dFld_ap, fldK_obj, dCall_ap, dCallN_ap, dFun_ap, okR_ok, dFunN_ap, okRN_lst, okRN_dI, okRN_dT, dMethN_ap, dMeth_ap, isObj_obj, uName_ap, uNil_ap, uCons_ap, uTup_ap, iLst_ap, lstOf_lst, lstOf_scr, iTupD_ap, tupOf_tup, iRev_ap, iEnum_ap, iRange1_ap, rng1K_int, iRange2_ap, rng2K_int, dLc_ap, tTrue_ap, dChain_ap, seqOf_lst, seqOf_tup, seqOf_scr, gLen_lst, gLen_tup, gLen_scr, gCat_lst, gAdd_int, gSub_int, gMul_int, gMod_int, gDiv_int, gLt_int, gLe_int, gGt_int, gGe_int, gMax2_int, gMin2_int, gIsi_lst, gEq_int, gNe_int, bindS, mapS, rng_len, Int.toNat_natCast, List.getElem?_cons_zero, List.getElem?_cons_succ, List.set_cons_zero, List.set_cons_succ, List.append_nil, List.nil_append, List.cons_append, List.replicate_succ, List.replicate_zero, List.length_map, List.length_cons, List.length_nil, Bool.not_true, Bool.not_false, decide_true, decide_false, reduceIte, Bool.false_eq_true, and_true, true_and, or_true, true_or, and_self, Bool.and_true, Bool.true_and, Bool.and_false, Bool.false_and, Bool.or_false, Bool.false_or, Bool.or_true, Bool.true_or, Int.reduceLT, Int.reduceLE, Int.reducePow, Int.reduceNeg, Int.reduceAdd, Int.reduceSub, Int.reduceMul, Int.reduceToNat, Nat.reduceLT, Nat.reduceAdd, Nat.reduceLeDiff, Nat.reducePow, dDGet2_ap, dPut_ap, dForE_ap, forEK_some, dMethPop_ap, dImm_ap, gIsN_non, gNotN_non, isNon_int, isNon_non, flat_int, in_int, notIn_int, eq_ints, ne_ints, eq_nil, ne_nil, gDIn_dict, gDNotIn_dict, getD'_dict, dSetM_ap, setmK_non, setmK_lst, isNon_lst, gIsi_list_non, notIn_tup, in_tup, gLen_encT, gNeg_int, dCutT_ap, cutTK_enc, catT_enc, catT_one, gRevT_enc, gTupOf_ints, gIsB_bl, gIsnotB_bl, gEq_bl, gNe_bl, gIsi_bool_bl, gIsi_bool_int, gIsi_tup, ne_tup0, eq_tup0, plV_ap, plVK_some, plF_ap, plFK_obj, plK_ap, plG_ap, outO_some, dPlSet_ap, plSetK_some, dPlPut_ap, dPlPutN_ap, dPlApp_ap, dPlSetd_ap, dSh_ap, xFun_ap, xFunK_some, xOut_ok, xOut_exc, xOK_some, xEK_some, dDropE_ap, dropEK_val, dropEK_exc, dAsgE_ap, asgEK_val, dIfE_ap, ifEK_t, ifEK_f, ifEK_exc, runO_ap, runOK_nx, runOK_reto, runOK_exc, dReto_ap, retoK_some, seqK_reto, dDropX_ap, dropXK_ok, dropXK_exc, dMethX_ap, methXK_obj, dCallF_ap, obF, fd', okn, RWl3, l8, alk, obH, hd0, nn, appK_some ap2, obL, la, okn0, tn, mv, decide_eq_true]
      rfl
  unfold fn_law sm_law
  rw [runF_ap]
  simp only [List.replicate, List.cons_append, List.nil_append]
  rw [seq_nx (ρ1 := [.scr ns, P, .non, .non, .non, .non, .non, .non, .non, .non, .non, .non]) (by simp only [bindS, mapS, rng_len, dSeq_ap, seqK_nx, seqK_ret, seqK_cont, seqK_brk, seqK_exc, dNext_ap, dAsg_ap, asgK_some, dRet_ap, retK_some, dIfS_ap, ifK_true, ifK_false, dDrop_ap, dropK_some, dApp_ap, appK_some, dExt_ap, extK_some, dClear_ap, clearK_some, dFor_ap, forK_some, dUnpk_ap, unpK_some, dFst_ap, fstK_some, dRaise_ap, raiK_some, runF_ap, runK_ret, runK_nx, runK_exc, runI_ap, runIK_nx, runIK_exc, dVar_ap, dC_ap, d1_ap, d2_ap, tB_ap, asB_bl, tAndF_ap, tOrF_ap, tNotF_ap, dAnd_ap, dOr_ap, dNot_ap, dIf_ap, ite_and, ite_or, ite_andD, ite_orD, dNilA_ap, dConsA_ap, dTup_ap, dLst_ap, dImm_ap, oNone_ap, oSome_ap, asI_int, dCut_ap, cutK_lst, cutK_scr, dFld_ap, fldK_obj, dCall_ap, dCallN_ap, dFun_ap, okR_ok, dFunN_ap, okRN_lst, okRN_dI, okRN_dT, dMethN_ap, dMeth_ap, isObj_obj, uName_ap, uNil_ap, uCons_ap, uTup_ap, iLst_ap, lstOf_lst, lstOf_scr, iTupD_ap, tupOf_tup, iRev_ap, iEnum_ap, iRange1_ap, rng1K_int, iRange2_ap, rng2K_int, dLc_ap, tTrue_ap, dChain_ap, seqOf_lst, seqOf_tup, seqOf_scr, gLen_lst, gLen_tup, gLen_scr, gCat_lst, gAdd_int, gSub_int, gMul_int, gMod_int, gDiv_int, gLt_int, gLe_int, gGt_int, gGe_int, gMax2_int, gMin2_int, gIsi_lst, gEq_int, gNe_int, bindS, mapS, rng_len, Int.toNat_natCast, List.getElem?_cons_zero, List.getElem?_cons_succ, List.set_cons_zero, List.set_cons_succ, List.append_nil, List.nil_append, List.cons_append, List.replicate_succ, List.replicate_zero, List.length_map, List.length_cons, List.length_nil, Bool.not_true, Bool.not_false, decide_true, decide_false, reduceIte, Bool.false_eq_true, and_true, true_and, or_true, true_or, and_self, Bool.and_true, Bool.true_and, Bool.and_false, Bool.false_and, Bool.or_false, Bool.false_or, Bool.or_true, Bool.true_or, Int.reduceLT, Int.reduceLE, Int.reducePow, Int.reduceNeg, Int.reduceAdd, Int.reduceSub, Int.reduceMul, Int.reduceToNat, Nat.reduceLT, Nat.reduceAdd, Nat.reduceLeDiff, Nat.reducePow, dDGet2_ap, dPut_ap, dForE_ap, forEK_some, dMethPop_ap, dImm_ap, gIsN_non, gNotN_non, isNon_int, isNon_non, flat_int, in_int, notIn_int, eq_ints, ne_ints, eq_nil, ne_nil, gDIn_dict, gDNotIn_dict, getD'_dict, dSetM_ap, setmK_non, setmK_lst, isNon_lst, gIsi_list_non, notIn_tup, in_tup, gLen_encT, gNeg_int, dCutT_ap, cutTK_enc, catT_enc, catT_one, gRevT_enc, gTupOf_ints, gIsB_bl, gIsnotB_bl, gEq_bl, gNe_bl, gIsi_bool_bl, gIsi_bool_int, gIsi_tup, ne_tup0, eq_tup0, plV_ap, plVK_some, plF_ap, plFK_obj, plK_ap, plG_ap, outO_some, dPlSet_ap, plSetK_some, dPlPut_ap, dPlPutN_ap, dPlApp_ap, dPlSetd_ap, dSh_ap, xFun_ap, xFunK_some, xOut_ok, xOut_exc, xOK_some, xEK_some, dDropE_ap, dropEK_val, dropEK_exc, dAsgE_ap, asgEK_val, dIfE_ap, ifEK_t, ifEK_f, ifEK_exc, runO_ap, runOK_nx, runOK_reto, runOK_exc, dReto_ap, retoK_some, seqK_reto, dDropX_ap, dropXK_ok, dropXK_exc, dMethX_ap, methXK_obj, dCallF_ap, wi', dd, pi'])]
  rw [seq_nx (ρ1 := [.scr ns, P, ledD P [0, 1] ⟨1, [], [], []⟩, .non, .non, .non, .non, .non, .non, .non, .non, .non]) (by simp only [bindS, mapS, rng_len, dSeq_ap, seqK_nx, seqK_ret, seqK_cont, seqK_brk, seqK_exc, dNext_ap, dAsg_ap, asgK_some, dRet_ap, retK_some, dIfS_ap, ifK_true, ifK_false, dDrop_ap, dropK_some, dApp_ap, appK_some, dExt_ap, extK_some, dClear_ap, clearK_some, dFor_ap, forK_some, dUnpk_ap, unpK_some, dFst_ap, fstK_some, dRaise_ap, raiK_some, runF_ap, runK_ret, runK_nx, runK_exc, runI_ap, runIK_nx, runIK_exc, dVar_ap, dC_ap, d1_ap, d2_ap, tB_ap, asB_bl, tAndF_ap, tOrF_ap, tNotF_ap, dAnd_ap, dOr_ap, dNot_ap, dIf_ap, ite_and, ite_or, ite_andD, ite_orD, dNilA_ap, dConsA_ap, dTup_ap, dLst_ap, dImm_ap, oNone_ap, oSome_ap, asI_int, dCut_ap, cutK_lst, cutK_scr, dFld_ap, fldK_obj, dCall_ap, dCallN_ap, dFun_ap, okR_ok, dFunN_ap, okRN_lst, okRN_dI, okRN_dT, dMethN_ap, dMeth_ap, isObj_obj, uName_ap, uNil_ap, uCons_ap, uTup_ap, iLst_ap, lstOf_lst, lstOf_scr, iTupD_ap, tupOf_tup, iRev_ap, iEnum_ap, iRange1_ap, rng1K_int, iRange2_ap, rng2K_int, dLc_ap, tTrue_ap, dChain_ap, seqOf_lst, seqOf_tup, seqOf_scr, gLen_lst, gLen_tup, gLen_scr, gCat_lst, gAdd_int, gSub_int, gMul_int, gMod_int, gDiv_int, gLt_int, gLe_int, gGt_int, gGe_int, gMax2_int, gMin2_int, gIsi_lst, gEq_int, gNe_int, bindS, mapS, rng_len, Int.toNat_natCast, List.getElem?_cons_zero, List.getElem?_cons_succ, List.set_cons_zero, List.set_cons_succ, List.append_nil, List.nil_append, List.cons_append, List.replicate_succ, List.replicate_zero, List.length_map, List.length_cons, List.length_nil, Bool.not_true, Bool.not_false, decide_true, decide_false, reduceIte, Bool.false_eq_true, and_true, true_and, or_true, true_or, and_self, Bool.and_true, Bool.true_and, Bool.and_false, Bool.false_and, Bool.or_false, Bool.false_or, Bool.or_true, Bool.true_or, Int.reduceLT, Int.reduceLE, Int.reducePow, Int.reduceNeg, Int.reduceAdd, Int.reduceSub, Int.reduceMul, Int.reduceToNat, Nat.reduceLT, Nat.reduceAdd, Nat.reduceLeDiff, Nat.reducePow, dDGet2_ap, dPut_ap, dForE_ap, forEK_some, dMethPop_ap, dImm_ap, gIsN_non, gNotN_non, isNon_int, isNon_non, flat_int, in_int, notIn_int, eq_ints, ne_ints, eq_nil, ne_nil, gDIn_dict, gDNotIn_dict, getD'_dict, dSetM_ap, setmK_non, setmK_lst, isNon_lst, gIsi_list_non, notIn_tup, in_tup, gLen_encT, gNeg_int, dCutT_ap, cutTK_enc, catT_enc, catT_one, gRevT_enc, gTupOf_ints, gIsB_bl, gIsnotB_bl, gEq_bl, gNe_bl, gIsi_bool_bl, gIsi_bool_int, gIsi_tup, ne_tup0, eq_tup0, plV_ap, plVK_some, plF_ap, plFK_obj, plK_ap, plG_ap, outO_some, dPlSet_ap, plSetK_some, dPlPut_ap, dPlPutN_ap, dPlApp_ap, dPlSetd_ap, dSh_ap, xFun_ap, xFunK_some, xOut_ok, xOut_exc, xOK_some, xEK_some, dDropE_ap, dropEK_val, dropEK_exc, dAsgE_ap, asgEK_val, dIfE_ap, ifEK_t, ifEK_f, ifEK_exc, runO_ap, runOK_nx, runOK_reto, runOK_exc, dReto_ap, retoK_some, seqK_reto, dDropX_ap, dropXK_ok, dropXK_exc, dMethX_ap, methXK_obj, dCallF_ap, li'])]
  rw [seq_nx (ρ1 := [.scr ns, P, ledD P [0, 1] ⟨1, [], [], []⟩, .lst RW, .non, .non, .non, .non, .non, .non, .non, .non]) (by simp only [bindS, mapS, rng_len, dSeq_ap, seqK_nx, seqK_ret, seqK_cont, seqK_brk, seqK_exc, dNext_ap, dAsg_ap, asgK_some, dRet_ap, retK_some, dIfS_ap, ifK_true, ifK_false, dDrop_ap, dropK_some, dApp_ap, appK_some, dExt_ap, extK_some, dClear_ap, clearK_some, dFor_ap, forK_some, dUnpk_ap, unpK_some, dFst_ap, fstK_some, dRaise_ap, raiK_some, runF_ap, runK_ret, runK_nx, runK_exc, runI_ap, runIK_nx, runIK_exc, dVar_ap, dC_ap, d1_ap, d2_ap, tB_ap, asB_bl, tAndF_ap, tOrF_ap, tNotF_ap, dAnd_ap, dOr_ap, dNot_ap, dIf_ap, ite_and, ite_or, ite_andD, ite_orD, dNilA_ap, dConsA_ap, dTup_ap, dLst_ap, dImm_ap, oNone_ap, oSome_ap, asI_int, dCut_ap, cutK_lst, cutK_scr, dFld_ap, fldK_obj, dCall_ap, dCallN_ap, dFun_ap, okR_ok, dFunN_ap, okRN_lst, okRN_dI, okRN_dT, dMethN_ap, dMeth_ap, isObj_obj, uName_ap, uNil_ap, uCons_ap, uTup_ap, iLst_ap, lstOf_lst, lstOf_scr, iTupD_ap, tupOf_tup, iRev_ap, iEnum_ap, iRange1_ap, rng1K_int, iRange2_ap, rng2K_int, dLc_ap, tTrue_ap, dChain_ap, seqOf_lst, seqOf_tup, seqOf_scr, gLen_lst, gLen_tup, gLen_scr, gCat_lst, gAdd_int, gSub_int, gMul_int, gMod_int, gDiv_int, gLt_int, gLe_int, gGt_int, gGe_int, gMax2_int, gMin2_int, gIsi_lst, gEq_int, gNe_int, bindS, mapS, rng_len, Int.toNat_natCast, List.getElem?_cons_zero, List.getElem?_cons_succ, List.set_cons_zero, List.set_cons_succ, List.append_nil, List.nil_append, List.cons_append, List.replicate_succ, List.replicate_zero, List.length_map, List.length_cons, List.length_nil, Bool.not_true, Bool.not_false, decide_true, decide_false, reduceIte, Bool.false_eq_true, and_true, true_and, or_true, true_or, and_self, Bool.and_true, Bool.true_and, Bool.and_false, Bool.false_and, Bool.or_false, Bool.false_or, Bool.or_true, Bool.true_or, Int.reduceLT, Int.reduceLE, Int.reducePow, Int.reduceNeg, Int.reduceAdd, Int.reduceSub, Int.reduceMul, Int.reduceToNat, Nat.reduceLT, Nat.reduceAdd, Nat.reduceLeDiff, Nat.reducePow, dDGet2_ap, dPut_ap, dForE_ap, forEK_some, dMethPop_ap, dImm_ap, gIsN_non, gNotN_non, isNon_int, isNon_non, flat_int, in_int, notIn_int, eq_ints, ne_ints, eq_nil, ne_nil, gDIn_dict, gDNotIn_dict, getD'_dict, dSetM_ap, setmK_non, setmK_lst, isNon_lst, gIsi_list_non, notIn_tup, in_tup, gLen_encT, gNeg_int, dCutT_ap, cutTK_enc, catT_enc, catT_one, gRevT_enc, gTupOf_ints, gIsB_bl, gIsnotB_bl, gEq_bl, gNe_bl, gIsi_bool_bl, gIsi_bool_int, gIsi_tup, ne_tup0, eq_tup0, plV_ap, plVK_some, plF_ap, plFK_obj, plK_ap, plG_ap, outO_some, dPlSet_ap, plSetK_some, dPlPut_ap, dPlPutN_ap, dPlApp_ap, dPlSetd_ap, dSh_ap, xFun_ap, xFunK_some, xOut_ok, xOut_exc, xOK_some, xEK_some, dDropE_ap, dropEK_val, dropEK_exc, dAsgE_ap, asgEK_val, dIfE_ap, ifEK_t, ifEK_f, ifEK_exc, runO_ap, runOK_nx, runOK_reto, runOK_exc, dReto_ap, retoK_some, seqK_reto, dDropX_ap, dropXK_ok, dropXK_exc, dMethX_ap, methXK_obj, dCallF_ap, cut, csl2, l3])]
  rw [seq_nx (ρ1 := [.scr ns, P, ledD P [0, 1] ⟨1, [], [], []⟩, .lst RW, .lst RW, .non, .non, .non, .non, .non, .non, .non]) (by simp only [bindS, mapS, rng_len, dSeq_ap, seqK_nx, seqK_ret, seqK_cont, seqK_brk, seqK_exc, dNext_ap, dAsg_ap, asgK_some, dRet_ap, retK_some, dIfS_ap, ifK_true, ifK_false, dDrop_ap, dropK_some, dApp_ap, appK_some, dExt_ap, extK_some, dClear_ap, clearK_some, dFor_ap, forK_some, dUnpk_ap, unpK_some, dFst_ap, fstK_some, dRaise_ap, raiK_some, runF_ap, runK_ret, runK_nx, runK_exc, runI_ap, runIK_nx, runIK_exc, dVar_ap, dC_ap, d1_ap, d2_ap, tB_ap, asB_bl, tAndF_ap, tOrF_ap, tNotF_ap, dAnd_ap, dOr_ap, dNot_ap, dIf_ap, ite_and, ite_or, ite_andD, ite_orD, dNilA_ap, dConsA_ap, dTup_ap, dLst_ap, dImm_ap, oNone_ap, oSome_ap, asI_int, dCut_ap, cutK_lst, cutK_scr, dFld_ap, fldK_obj, dCall_ap, dCallN_ap, dFun_ap, okR_ok, dFunN_ap, okRN_lst, okRN_dI, okRN_dT, dMethN_ap, dMeth_ap, isObj_obj, uName_ap, uNil_ap, uCons_ap, uTup_ap, iLst_ap, lstOf_lst, lstOf_scr, iTupD_ap, tupOf_tup, iRev_ap, iEnum_ap, iRange1_ap, rng1K_int, iRange2_ap, rng2K_int, dLc_ap, tTrue_ap, dChain_ap, seqOf_lst, seqOf_tup, seqOf_scr, gLen_lst, gLen_tup, gLen_scr, gCat_lst, gAdd_int, gSub_int, gMul_int, gMod_int, gDiv_int, gLt_int, gLe_int, gGt_int, gGe_int, gMax2_int, gMin2_int, gIsi_lst, gEq_int, gNe_int, bindS, mapS, rng_len, Int.toNat_natCast, List.getElem?_cons_zero, List.getElem?_cons_succ, List.set_cons_zero, List.set_cons_succ, List.append_nil, List.nil_append, List.cons_append, List.replicate_succ, List.replicate_zero, List.length_map, List.length_cons, List.length_nil, Bool.not_true, Bool.not_false, decide_true, decide_false, reduceIte, Bool.false_eq_true, and_true, true_and, or_true, true_or, and_self, Bool.and_true, Bool.true_and, Bool.and_false, Bool.false_and, Bool.or_false, Bool.false_or, Bool.or_true, Bool.true_or, Int.reduceLT, Int.reduceLE, Int.reducePow, Int.reduceNeg, Int.reduceAdd, Int.reduceSub, Int.reduceMul, Int.reduceToNat, Nat.reduceLT, Nat.reduceAdd, Nat.reduceLeDiff, Nat.reducePow, dDGet2_ap, dPut_ap, dForE_ap, forEK_some, dMethPop_ap, dImm_ap, gIsN_non, gNotN_non, isNon_int, isNon_non, flat_int, in_int, notIn_int, eq_ints, ne_ints, eq_nil, ne_nil, gDIn_dict, gDNotIn_dict, getD'_dict, dSetM_ap, setmK_non, setmK_lst, isNon_lst, gIsi_list_non, notIn_tup, in_tup, gLen_encT, gNeg_int, dCutT_ap, cutTK_enc, catT_enc, catT_one, gRevT_enc, gTupOf_ints, gIsB_bl, gIsnotB_bl, gEq_bl, gNe_bl, gIsi_bool_bl, gIsi_bool_int, gIsi_tup, ne_tup0, eq_tup0, plV_ap, plVK_some, plF_ap, plFK_obj, plK_ap, plG_ap, outO_some, dPlSet_ap, plSetK_some, dPlPut_ap, dPlPutN_ap, dPlApp_ap, dPlSetd_ap, dSh_ap, xFun_ap, xFunK_some, xOut_ok, xOut_exc, xOK_some, xEK_some, dDropE_ap, dropEK_val, dropEK_exc, dAsgE_ap, asgEK_val, dIfE_ap, ifEK_t, ifEK_f, ifEK_exc, runO_ap, runOK_nx, runOK_reto, runOK_exc, dReto_ap, retoK_some, seqK_reto, dDropX_ap, dropXK_ok, dropXK_exc, dMethX_ap, methXK_obj, dCallF_ap, sq])]
  rw [seq_nx (ρ1 := [.scr ns, P, ledD P [0, 1] ⟨1, [], [], []⟩, .lst RW, .lst RW, F, .non, .non, .non, .non, .non, .non]) (by simp only [bindS, mapS, rng_len, dSeq_ap, seqK_nx, seqK_ret, seqK_cont, seqK_brk, seqK_exc, dNext_ap, dAsg_ap, asgK_some, dRet_ap, retK_some, dIfS_ap, ifK_true, ifK_false, dDrop_ap, dropK_some, dApp_ap, appK_some, dExt_ap, extK_some, dClear_ap, clearK_some, dFor_ap, forK_some, dUnpk_ap, unpK_some, dFst_ap, fstK_some, dRaise_ap, raiK_some, runF_ap, runK_ret, runK_nx, runK_exc, runI_ap, runIK_nx, runIK_exc, dVar_ap, dC_ap, d1_ap, d2_ap, tB_ap, asB_bl, tAndF_ap, tOrF_ap, tNotF_ap, dAnd_ap, dOr_ap, dNot_ap, dIf_ap, ite_and, ite_or, ite_andD, ite_orD, dNilA_ap, dConsA_ap, dTup_ap, dLst_ap, dImm_ap, oNone_ap, oSome_ap, asI_int, dCut_ap, cutK_lst, cutK_scr, dFld_ap, fldK_obj, dCall_ap, dCallN_ap, dFun_ap, okR_ok, dFunN_ap, okRN_lst, okRN_dI, okRN_dT, dMethN_ap, dMeth_ap, isObj_obj, uName_ap, uNil_ap, uCons_ap, uTup_ap, iLst_ap, lstOf_lst, lstOf_scr, iTupD_ap, tupOf_tup, iRev_ap, iEnum_ap, iRange1_ap, rng1K_int, iRange2_ap, rng2K_int, dLc_ap, tTrue_ap, dChain_ap, seqOf_lst, seqOf_tup, seqOf_scr, gLen_lst, gLen_tup, gLen_scr, gCat_lst, gAdd_int, gSub_int, gMul_int, gMod_int, gDiv_int, gLt_int, gLe_int, gGt_int, gGe_int, gMax2_int, gMin2_int, gIsi_lst, gEq_int, gNe_int, bindS, mapS, rng_len, Int.toNat_natCast, List.getElem?_cons_zero, List.getElem?_cons_succ, List.set_cons_zero, List.set_cons_succ, List.append_nil, List.nil_append, List.cons_append, List.replicate_succ, List.replicate_zero, List.length_map, List.length_cons, List.length_nil, Bool.not_true, Bool.not_false, decide_true, decide_false, reduceIte, Bool.false_eq_true, and_true, true_and, or_true, true_or, and_self, Bool.and_true, Bool.true_and, Bool.and_false, Bool.false_and, Bool.or_false, Bool.false_or, Bool.or_true, Bool.true_or, Int.reduceLT, Int.reduceLE, Int.reducePow, Int.reduceNeg, Int.reduceAdd, Int.reduceSub, Int.reduceMul, Int.reduceToNat, Nat.reduceLT, Nat.reduceAdd, Nat.reduceLeDiff, Nat.reducePow, dDGet2_ap, dPut_ap, dForE_ap, forEK_some, dMethPop_ap, dImm_ap, gIsN_non, gNotN_non, isNon_int, isNon_non, flat_int, in_int, notIn_int, eq_ints, ne_ints, eq_nil, ne_nil, gDIn_dict, gDNotIn_dict, getD'_dict, dSetM_ap, setmK_non, setmK_lst, isNon_lst, gIsi_list_non, notIn_tup, in_tup, gLen_encT, gNeg_int, dCutT_ap, cutTK_enc, catT_enc, catT_one, gRevT_enc, gTupOf_ints, gIsB_bl, gIsnotB_bl, gEq_bl, gNe_bl, gIsi_bool_bl, gIsi_bool_int, gIsi_tup, ne_tup0, eq_tup0, plV_ap, plVK_some, plF_ap, plFK_obj, plK_ap, plG_ap, outO_some, dPlSet_ap, plSetK_some, dPlPut_ap, dPlPutN_ap, dPlApp_ap, dPlSetd_ap, dSh_ap, xFun_ap, xFunK_some, xOut_ok, xOut_exc, xOK_some, xEK_some, dDropE_ap, dropEK_val, dropEK_exc, dAsgE_ap, asgEK_val, dIfE_ap, ifEK_t, ifEK_f, ifEK_exc, runO_ap, runOK_nx, runOK_reto, runOK_exc, dReto_ap, retoK_some, seqK_reto, dDropX_ap, dropXK_ok, dropXK_exc, dMethX_ap, methXK_obj, dCallF_ap, fi])]
  rw [seq_nx (ρ1 := [.scr ns, P, ledD P [0, 1] ⟨1, [], [], []⟩, .lst RW, .lst (RW ++ [X]), F, .non, .non, .non, .non, .non, .non]) (by simp only [bindS, mapS, rng_len, dSeq_ap, seqK_nx, seqK_ret, seqK_cont, seqK_brk, seqK_exc, dNext_ap, dAsg_ap, asgK_some, dRet_ap, retK_some, dIfS_ap, ifK_true, ifK_false, dDrop_ap, dropK_some, dApp_ap, appK_some, dExt_ap, extK_some, dClear_ap, clearK_some, dFor_ap, forK_some, dUnpk_ap, unpK_some, dFst_ap, fstK_some, dRaise_ap, raiK_some, runF_ap, runK_ret, runK_nx, runK_exc, runI_ap, runIK_nx, runIK_exc, dVar_ap, dC_ap, d1_ap, d2_ap, tB_ap, asB_bl, tAndF_ap, tOrF_ap, tNotF_ap, dAnd_ap, dOr_ap, dNot_ap, dIf_ap, ite_and, ite_or, ite_andD, ite_orD, dNilA_ap, dConsA_ap, dTup_ap, dLst_ap, dImm_ap, oNone_ap, oSome_ap, asI_int, dCut_ap, cutK_lst, cutK_scr, dFld_ap, fldK_obj, dCall_ap, dCallN_ap, dFun_ap, okR_ok, dFunN_ap, okRN_lst, okRN_dI, okRN_dT, dMethN_ap, dMeth_ap, isObj_obj, uName_ap, uNil_ap, uCons_ap, uTup_ap, iLst_ap, lstOf_lst, lstOf_scr, iTupD_ap, tupOf_tup, iRev_ap, iEnum_ap, iRange1_ap, rng1K_int, iRange2_ap, rng2K_int, dLc_ap, tTrue_ap, dChain_ap, seqOf_lst, seqOf_tup, seqOf_scr, gLen_lst, gLen_tup, gLen_scr, gCat_lst, gAdd_int, gSub_int, gMul_int, gMod_int, gDiv_int, gLt_int, gLe_int, gGt_int, gGe_int, gMax2_int, gMin2_int, gIsi_lst, gEq_int, gNe_int, bindS, mapS, rng_len, Int.toNat_natCast, List.getElem?_cons_zero, List.getElem?_cons_succ, List.set_cons_zero, List.set_cons_succ, List.append_nil, List.nil_append, List.cons_append, List.replicate_succ, List.replicate_zero, List.length_map, List.length_cons, List.length_nil, Bool.not_true, Bool.not_false, decide_true, decide_false, reduceIte, Bool.false_eq_true, and_true, true_and, or_true, true_or, and_self, Bool.and_true, Bool.true_and, Bool.and_false, Bool.false_and, Bool.or_false, Bool.false_or, Bool.or_true, Bool.true_or, Int.reduceLT, Int.reduceLE, Int.reducePow, Int.reduceNeg, Int.reduceAdd, Int.reduceSub, Int.reduceMul, Int.reduceToNat, Nat.reduceLT, Nat.reduceAdd, Nat.reduceLeDiff, Nat.reducePow, dDGet2_ap, dPut_ap, dForE_ap, forEK_some, dMethPop_ap, dImm_ap, gIsN_non, gNotN_non, isNon_int, isNon_non, flat_int, in_int, notIn_int, eq_ints, ne_ints, eq_nil, ne_nil, gDIn_dict, gDNotIn_dict, getD'_dict, dSetM_ap, setmK_non, setmK_lst, isNon_lst, gIsi_list_non, notIn_tup, in_tup, gLen_encT, gNeg_int, dCutT_ap, cutTK_enc, catT_enc, catT_one, gRevT_enc, gTupOf_ints, gIsB_bl, gIsnotB_bl, gEq_bl, gNe_bl, gIsi_bool_bl, gIsi_bool_int, gIsi_tup, ne_tup0, eq_tup0, plV_ap, plVK_some, plF_ap, plFK_obj, plK_ap, plG_ap, outO_some, dPlSet_ap, plSetK_some, dPlPut_ap, dPlPutN_ap, dPlApp_ap, dPlSetd_ap, dSh_ap, xFun_ap, xFunK_some, xOut_ok, xOut_exc, xOK_some, xEK_some, dDropE_ap, dropEK_val, dropEK_exc, dAsgE_ap, asgEK_val, dIfE_ap, ifEK_t, ifEK_f, ifEK_exc, runO_ap, runOK_nx, runOK_reto, runOK_exc, dReto_ap, retoK_some, seqK_reto, dDropX_ap, dropXK_ok, dropXK_exc, dMethX_ap, methXK_obj, dCallF_ap, appK_some RWl2, hX])]
  rw [seq_nx (ρ1 := [.scr ns, P, ledD P [0, 1] ⟨1, [], [], []⟩, .lst RW, .lst (RW ++ [X]), F, .non, .non, .non, .non, .non, .non]) (by simp only [bindS, mapS, rng_len, dSeq_ap, seqK_nx, seqK_ret, seqK_cont, seqK_brk, seqK_exc, dNext_ap, dAsg_ap, asgK_some, dRet_ap, retK_some, dIfS_ap, ifK_true, ifK_false, dDrop_ap, dropK_some, dApp_ap, appK_some, dExt_ap, extK_some, dClear_ap, clearK_some, dFor_ap, forK_some, dUnpk_ap, unpK_some, dFst_ap, fstK_some, dRaise_ap, raiK_some, runF_ap, runK_ret, runK_nx, runK_exc, runI_ap, runIK_nx, runIK_exc, dVar_ap, dC_ap, d1_ap, d2_ap, tB_ap, asB_bl, tAndF_ap, tOrF_ap, tNotF_ap, dAnd_ap, dOr_ap, dNot_ap, dIf_ap, ite_and, ite_or, ite_andD, ite_orD, dNilA_ap, dConsA_ap, dTup_ap, dLst_ap, dImm_ap, oNone_ap, oSome_ap, asI_int, dCut_ap, cutK_lst, cutK_scr, dFld_ap, fldK_obj, dCall_ap, dCallN_ap, dFun_ap, okR_ok, dFunN_ap, okRN_lst, okRN_dI, okRN_dT, dMethN_ap, dMeth_ap, isObj_obj, uName_ap, uNil_ap, uCons_ap, uTup_ap, iLst_ap, lstOf_lst, lstOf_scr, iTupD_ap, tupOf_tup, iRev_ap, iEnum_ap, iRange1_ap, rng1K_int, iRange2_ap, rng2K_int, dLc_ap, tTrue_ap, dChain_ap, seqOf_lst, seqOf_tup, seqOf_scr, gLen_lst, gLen_tup, gLen_scr, gCat_lst, gAdd_int, gSub_int, gMul_int, gMod_int, gDiv_int, gLt_int, gLe_int, gGt_int, gGe_int, gMax2_int, gMin2_int, gIsi_lst, gEq_int, gNe_int, bindS, mapS, rng_len, Int.toNat_natCast, List.getElem?_cons_zero, List.getElem?_cons_succ, List.set_cons_zero, List.set_cons_succ, List.append_nil, List.nil_append, List.cons_append, List.replicate_succ, List.replicate_zero, List.length_map, List.length_cons, List.length_nil, Bool.not_true, Bool.not_false, decide_true, decide_false, reduceIte, Bool.false_eq_true, and_true, true_and, or_true, true_or, and_self, Bool.and_true, Bool.true_and, Bool.and_false, Bool.false_and, Bool.or_false, Bool.false_or, Bool.or_true, Bool.true_or, Int.reduceLT, Int.reduceLE, Int.reducePow, Int.reduceNeg, Int.reduceAdd, Int.reduceSub, Int.reduceMul, Int.reduceToNat, Nat.reduceLT, Nat.reduceAdd, Nat.reduceLeDiff, Nat.reducePow, dDGet2_ap, dPut_ap, dForE_ap, forEK_some, dMethPop_ap, dImm_ap, gIsN_non, gNotN_non, isNon_int, isNon_non, flat_int, in_int, notIn_int, eq_ints, ne_ints, eq_nil, ne_nil, gDIn_dict, gDNotIn_dict, getD'_dict, dSetM_ap, setmK_non, setmK_lst, isNon_lst, gIsi_list_non, notIn_tup, in_tup, gLen_encT, gNeg_int, dCutT_ap, cutTK_enc, catT_enc, catT_one, gRevT_enc, gTupOf_ints, gIsB_bl, gIsnotB_bl, gEq_bl, gNe_bl, gIsi_bool_bl, gIsi_bool_int, gIsi_tup, ne_tup0, eq_tup0, plV_ap, plVK_some, plF_ap, plFK_obj, plK_ap, plG_ap, outO_some, dPlSet_ap, plSetK_some, dPlPut_ap, dPlPutN_ap, dPlApp_ap, dPlSetd_ap, dSh_ap, xFun_ap, xFunK_some, xOut_ok, xOut_exc, xOK_some, xEK_some, dDropE_ap, dropEK_val, dropEK_exc, dAsgE_ap, asgEK_val, dIfE_ap, ifEK_t, ifEK_f, ifEK_exc, runO_ap, runOK_nx, runOK_reto, runOK_exc, dReto_ap, retoK_some, seqK_reto, dDropX_ap, dropXK_ok, dropXK_exc, dMethX_ap, methXK_obj, dCallF_ap, i1, k0, i2, i3])]
  rw [seq_nx (ρ1 := [.scr ns, P, ledD P [0, 1] ⟨1, [], [], []⟩, .lst RW, .lst (RW ++ [X]), F, .non, .non, .non, .non, .non, .non]) (by simp only [bindS, mapS, rng_len, dSeq_ap, seqK_nx, seqK_ret, seqK_cont, seqK_brk, seqK_exc, dNext_ap, dAsg_ap, asgK_some, dRet_ap, retK_some, dIfS_ap, ifK_true, ifK_false, dDrop_ap, dropK_some, dApp_ap, appK_some, dExt_ap, extK_some, dClear_ap, clearK_some, dFor_ap, forK_some, dUnpk_ap, unpK_some, dFst_ap, fstK_some, dRaise_ap, raiK_some, runF_ap, runK_ret, runK_nx, runK_exc, runI_ap, runIK_nx, runIK_exc, dVar_ap, dC_ap, d1_ap, d2_ap, tB_ap, asB_bl, tAndF_ap, tOrF_ap, tNotF_ap, dAnd_ap, dOr_ap, dNot_ap, dIf_ap, ite_and, ite_or, ite_andD, ite_orD, dNilA_ap, dConsA_ap, dTup_ap, dLst_ap, dImm_ap, oNone_ap, oSome_ap, asI_int, dCut_ap, cutK_lst, cutK_scr, dFld_ap, fldK_obj, dCall_ap, dCallN_ap, dFun_ap, okR_ok, dFunN_ap, okRN_lst, okRN_dI, okRN_dT, dMethN_ap, dMeth_ap, isObj_obj, uName_ap, uNil_ap, uCons_ap, uTup_ap, iLst_ap, lstOf_lst, lstOf_scr, iTupD_ap, tupOf_tup, iRev_ap, iEnum_ap, iRange1_ap, rng1K_int, iRange2_ap, rng2K_int, dLc_ap, tTrue_ap, dChain_ap, seqOf_lst, seqOf_tup, seqOf_scr, gLen_lst, gLen_tup, gLen_scr, gCat_lst, gAdd_int, gSub_int, gMul_int, gMod_int, gDiv_int, gLt_int, gLe_int, gGt_int, gGe_int, gMax2_int, gMin2_int, gIsi_lst, gEq_int, gNe_int, bindS, mapS, rng_len, Int.toNat_natCast, List.getElem?_cons_zero, List.getElem?_cons_succ, List.set_cons_zero, List.set_cons_succ, List.append_nil, List.nil_append, List.cons_append, List.replicate_succ, List.replicate_zero, List.length_map, List.length_cons, List.length_nil, Bool.not_true, Bool.not_false, decide_true, decide_false, reduceIte, Bool.false_eq_true, and_true, true_and, or_true, true_or, and_self, Bool.and_true, Bool.true_and, Bool.and_false, Bool.false_and, Bool.or_false, Bool.false_or, Bool.or_true, Bool.true_or, Int.reduceLT, Int.reduceLE, Int.reducePow, Int.reduceNeg, Int.reduceAdd, Int.reduceSub, Int.reduceMul, Int.reduceToNat, Nat.reduceLT, Nat.reduceAdd, Nat.reduceLeDiff, Nat.reducePow, dDGet2_ap, dPut_ap, dForE_ap, forEK_some, dMethPop_ap, dImm_ap, gIsN_non, gNotN_non, isNon_int, isNon_non, flat_int, in_int, notIn_int, eq_ints, ne_ints, eq_nil, ne_nil, gDIn_dict, gDNotIn_dict, getD'_dict, dSetM_ap, setmK_non, setmK_lst, isNon_lst, gIsi_list_non, notIn_tup, in_tup, gLen_encT, gNeg_int, dCutT_ap, cutTK_enc, catT_enc, catT_one, gRevT_enc, gTupOf_ints, gIsB_bl, gIsnotB_bl, gEq_bl, gNe_bl, gIsi_bool_bl, gIsi_bool_int, gIsi_tup, ne_tup0, eq_tup0, plV_ap, plVK_some, plF_ap, plFK_obj, plK_ap, plG_ap, outO_some, dPlSet_ap, plSetK_some, dPlPut_ap, dPlPutN_ap, dPlApp_ap, dPlSetd_ap, dSh_ap, xFun_ap, xFunK_some, xOut_ok, xOut_exc, xOK_some, xEK_some, dDropE_ap, dropEK_val, dropEK_exc, dAsgE_ap, asgEK_val, dIfE_ap, ifEK_t, ifEK_f, ifEK_exc, runO_ap, runOK_nx, runOK_reto, runOK_exc, dReto_ap, retoK_some, seqK_reto, dDropX_ap, dropXK_ok, dropXK_exc, dMethX_ap, methXK_obj, dCallF_ap, k1, i4, gNeg_int, cut2, ne])]
  simp only [bindS, mapS, rng_len, dSeq_ap, seqK_nx, seqK_ret, seqK_cont, seqK_brk, seqK_exc, dNext_ap, dAsg_ap, asgK_some, dRet_ap, retK_some, dIfS_ap, ifK_true, ifK_false, dDrop_ap, dropK_some, dApp_ap, appK_some, dExt_ap, extK_some, dClear_ap, clearK_some, dFor_ap, forK_some, dUnpk_ap, unpK_some, dFst_ap, fstK_some, dRaise_ap, raiK_some, runF_ap, runK_ret, runK_nx, runK_exc, runI_ap, runIK_nx, runIK_exc, dVar_ap, dC_ap, d1_ap, d2_ap, tB_ap, asB_bl, tAndF_ap, tOrF_ap, tNotF_ap, dAnd_ap, dOr_ap, dNot_ap, dIf_ap, ite_and, ite_or, ite_andD, ite_orD, dNilA_ap, dConsA_ap, dTup_ap, dLst_ap, dImm_ap, oNone_ap, oSome_ap, asI_int, dCut_ap, cutK_lst, cutK_scr, dFld_ap, fldK_obj, dCall_ap, dCallN_ap, dFun_ap, okR_ok, dFunN_ap, okRN_lst, okRN_dI, okRN_dT, dMethN_ap, dMeth_ap, isObj_obj, uName_ap, uNil_ap, uCons_ap, uTup_ap, iLst_ap, lstOf_lst, lstOf_scr, iTupD_ap, tupOf_tup, iRev_ap, iEnum_ap, iRange1_ap, rng1K_int, iRange2_ap, rng2K_int, dLc_ap, tTrue_ap, dChain_ap, seqOf_lst, seqOf_tup, seqOf_scr, gLen_lst, gLen_tup, gLen_scr, gCat_lst, gAdd_int, gSub_int, gMul_int, gMod_int, gDiv_int, gLt_int, gLe_int, gGt_int, gGe_int, gMax2_int, gMin2_int, gIsi_lst, gEq_int, gNe_int, bindS, mapS, rng_len, Int.toNat_natCast, List.getElem?_cons_zero, List.getElem?_cons_succ, List.set_cons_zero, List.set_cons_succ, List.append_nil, List.nil_append, List.cons_append, List.replicate_succ, List.replicate_zero, List.length_map, List.length_cons, List.length_nil, Bool.not_true, Bool.not_false, decide_true, decide_false, reduceIte, Bool.false_eq_true, and_true, true_and, or_true, true_or, and_self, Bool.and_true, Bool.true_and, Bool.and_false, Bool.false_and, Bool.or_false, Bool.false_or, Bool.or_true, Bool.true_or, Int.reduceLT, Int.reduceLE, Int.reducePow, Int.reduceNeg, Int.reduceAdd, Int.reduceSub, Int.reduceMul, Int.reduceToNat, Nat.reduceLT, Nat.reduceAdd, Nat.reduceLeDiff, Nat.reducePow, dDGet2_ap, dPut_ap, dForE_ap, forEK_some, dMethPop_ap, dImm_ap, gIsN_non, gNotN_non, isNon_int, isNon_non, flat_int, in_int, notIn_int, eq_ints, ne_ints, eq_nil, ne_nil, gDIn_dict, gDNotIn_dict, getD'_dict, dSetM_ap, setmK_non, setmK_lst, isNon_lst, gIsi_list_non, notIn_tup, in_tup, gLen_encT, gNeg_int, dCutT_ap, cutTK_enc, catT_enc, catT_one, gRevT_enc, gTupOf_ints, gIsB_bl, gIsnotB_bl, gEq_bl, gNe_bl, gIsi_bool_bl, gIsi_bool_int, gIsi_tup, ne_tup0, eq_tup0, plV_ap, plVK_some, plF_ap, plFK_obj, plK_ap, plG_ap, outO_some, dPlSet_ap, plSetK_some, dPlPut_ap, dPlPutN_ap, dPlApp_ap, dPlSetd_ap, dSh_ap, xFun_ap, xFunK_some, xOut_ok, xOut_exc, xOK_some, xEK_some, dDropE_ap, dropEK_val, dropEK_exc, dAsgE_ap, asgEK_val, dIfE_ap, ifEK_t, ifEK_f, ifEK_exc, runO_ap, runOK_nx, runOK_reto, runOK_exc, dReto_ap, retoK_some, seqK_reto, dDropX_ap, dropXK_ok, dropXK_exc, dMethX_ap, methXK_obj, dCallF_ap, ca, g12, rg, e]

end DL

theorem PySem.Challenge.cw_wordswap_k31_hands_and_rows_holds : PySem.Challenge.rw_wordswap_k31_hands_and_rows.Holds := by
  exact DL.endL DL.law_true
