import PyProof.Rows.All
import Wide.All
import OpenK.AllK
import Wide.FinOn
import HandS.ForMost
import HandS.ForExc
import HandS.TupAny
import HandS.TupMul
import HandS.Wide
import HandS.IsInst
import HandS.Deep
import HandS.TupLe
import HandS.TupLen
import HandS.Text
import HandS.Style
import KE.SortData
import HandS.Small
import KE.GoesEnum
import HandS.More
import HandS.Ends
import HandS.Conv
import HandS.ExcOwn
import HandS.TryMany
import PyProof.ExcBaseAll.ValueError
import PySem.Challenge.RW_roadloans_k79_whole_flows
set_option Elab.async false
set_option linter.all false
set_option maxRecDepth 100000
set_option maxHeartbeats 2000000
namespace VL
open PySem PySem.Spec PyProof.Rows L2
/-! ### data in the heap -/
def keyD : Key → PyData
  | .inl i => .int i
  | .inr x => .str x
mutual
inductive Rep (K : PySem.W.Frag) (C : Hp) : V → PyData → Prop
  | non : Rep K C .non .none
  | bl (b : Bool) : Rep K C (.bl b) (.bool b)
  | int (i : Int) : Rep K C (.int i) (.int i)
  | str (x : Str) : Rep K C (.str x) (.str x)
  | lst {a : Addr} {xs : List V} {ds : List PyData} : Rd C a (.lst xs) → RepAll K C xs ds → Rep K C (.ref a) (.list ds)
  | tup {a : Addr} {xs : List V} {ds : List PyData} : C a = some (.tup xs) → RepAll K C xs ds → Rep K C (.ref a) (.tuple ds)
  | dct {a : Addr} {ks : List Key} {xs : List V} {ds : List PyData} : ks.length = xs.length → Rd C a (.dK (ks.zip xs)) → RepAll K C xs ds → Rep K C (.ref a) (.dict ((ks.map keyD).zip ds))
inductive RepAll (K : PySem.W.Frag) (C : Hp) : List V → List PyData → Prop
  | nil : RepAll K C [] []
  | cons {v : V} {vs : List V} {d : PyData} {ds : List PyData} : Rep K C v d → RepAll K C vs ds → RepAll K C (v :: vs) (d :: ds)
end
section
variable {K : PySem.W.Frag} {C C' H H' : Hp} {v : V} {d : PyData} {xs vs : List V} {ds : List PyData} {a : Addr}
theorem same_rd {u : HO} (e : Same C C') (h : Rd C a u) : Rd C' a u := by
  rcases h with h | ⟨o, h⟩
  · exact .inl (e _ _ h)
  · exact .inr ⟨o, e _ _ h⟩
theorem same_t (e : Same C C') (h : SqT K C a xs) : SqT K C' a xs := by
  rcases h with h | h
  · exact .inl (same_rd e h)
  · exact .inr h
theorem same_l (e : Same C C') (h : SqL K C a xs) : SqL K C' a xs := e.seq h
mutual
theorem Rep.mono (e : Same C C') : ∀ {v : V} {d : PyData}, Rep K C v d → Rep K C' v d
  | _, _, .non => .non
  | _, _, .bl b => .bl b
  | _, _, .int i => .int i
  | _, _, .str x => .str x
  | _, _, .lst h t => .lst (same_rd e h) (RepAll.mono e t)
  | _, _, .tup h t => .tup (e _ _ h) (RepAll.mono e t)
  | _, _, .dct l h t => .dct l (same_rd e h) (RepAll.mono e t)
theorem RepAll.mono (e : Same C C') : ∀ {vs : List V} {ds : List PyData}, RepAll K C vs ds → RepAll K C' vs ds
  | _, _, .nil => .nil
  | _, _, .cons h t => .cons (Rep.mono e h) (RepAll.mono e t)
end
theorem RepAll.length : ∀ {vs : List V} {ds : List PyData}, RepAll K C vs ds → vs.length = ds.length
  | _, _, .nil => rfl
  | _, _, .cons _ t => by rw [List.length_cons, List.length_cons, t.length]
theorem RepAll.append : ∀ {xs : List V} {ds : List PyData} {ys : List V} {es : List PyData}, RepAll K C xs ds → RepAll K C ys es → RepAll K C (xs ++ ys) (ds ++ es)
  | _, _, _, _, .nil, t => t
  | _, _, _, _, .cons h t, u => .cons h (t.append u)
theorem RepAll.get : ∀ {xs : List V} {ds : List PyData} {i : Nat} {x : V}, RepAll K C xs ds → xs[i]? = some x → ∃ d, ds[i]? = some d ∧ Rep K C x d
  | _, _, _, _, .nil, e => by simp at e
  | _, _, 0, _, .cons r _, e => by simp at e; subst e; exact ⟨_, rfl, r⟩
  | _, _, i + 1, x, .cons _ t, e => by
    obtain ⟨u, h1, h2⟩ := RepAll.get (i := i) (x := x) t (by simpa using e)
    exact ⟨u, by simpa using h1, h2⟩
theorem RepAll.get' : ∀ {xs : List V} {ds : List PyData} {i : Nat} {d : PyData}, RepAll K C xs ds → ds[i]? = some d → ∃ x, xs[i]? = some x ∧ Rep K C x d
  | _, _, _, _, .nil, e => by simp at e
  | _, _, 0, _, .cons r _, e => by simp at e; subst e; exact ⟨_, rfl, r⟩
  | _, _, i + 1, x, .cons _ t, e => by
    obtain ⟨u, h1, h2⟩ := RepAll.get' (i := i) (d := x) t (by simpa using e)
    exact ⟨u, by simpa using h1, h2⟩
theorem RepAll.take : ∀ {xs : List V} {ds : List PyData} (n : Nat), RepAll K C xs ds → RepAll K C (xs.take n) (ds.take n)
  | _, _, 0, _ => by simpa using .nil
  | _, _, n + 1, .nil => by simpa using .nil
  | _, _, n + 1, .cons h t => by simpa using .cons h (t.take n)
theorem RepAll.drop : ∀ {xs : List V} {ds : List PyData} (n : Nat), RepAll K C xs ds → RepAll K C (xs.drop n) (ds.drop n)
  | _, _, 0, t => by simpa using t
  | _, _, n + 1, .nil => by simpa using .nil
  | _, _, n + 1, .cons h t => by simpa using t.drop n
theorem RepAll.reverse : ∀ {xs : List V} {ds : List PyData}, RepAll K C xs ds → RepAll K C xs.reverse ds.reverse
  | _, _, .nil => by simpa using .nil
  | _, _, .cons h t => by
    rw [List.reverse_cons, List.reverse_cons]
    exact t.reverse.append (.cons h .nil)
theorem RepAll.set {x : V} {d : PyData} (r : Rep K C x d) : ∀ {xs : List V} {ds : List PyData} (i : Nat), RepAll K C xs ds → RepAll K C (xs.set i x) (ds.set i d)
  | _, _, _, .nil => by simpa using .nil
  | _, _, 0, .cons _ t => by simpa using .cons r t
  | _, _, i + 1, .cons h t => by simpa using .cons h (t.set r i)
end
/-! ### values with marks of ownership -/
inductive W where
  | c (d : PyData)
  | l (ws : List W)
  | dk (kws : List (Key × W))
  | dt (kws : List (List Key × W))
  /-- a caught exception -/
  | x (a : Addr) (d : Option Addr) (args : List (Str × PyData))
  /-- a list (true) or a tuple, maybe of the module's written part -/
  | ks (l : Bool) (ds : List PyData)
abbrev Foot := Addr → Prop
def Foot.none : Foot := fun _ => False
def Foot.or (F G : Foot) : Foot := fun a => F a ∨ G a
/-! a source: a list (true) or a tuple -/
def sqB (K : PySem.W.Frag) (b : Bool) (H : Hp) (a : Addr) (xs : List V) : Prop := match b with
  | true => SqL K H a xs
  | false => SqT K H a xs
theorem sqB_mono {K : PySem.W.Frag} {C H : Hp} {b : Bool} {a : Addr} {xs : List V} (s : Same C H) (h : sqB K b C a xs) : sqB K b H a xs := by
  cases b with
  | true => exact same_l s h
  | false => exact same_t s h
/-- an exception's fields -/
def ExD (K : PySem.W.Frag) (C : Hp) (d : Option Addr) (args : List (Str × PyData)) : Prop := (args = [] ∧ d = none) ∨ ∃ dd zs, d = some dd ∧ args.length = zs.length ∧ C dd = some (.xd ((args.map (·.1)).zip zs)) ∧ RepAll K C zs (args.map (·.2))
theorem ExD.mono {K : PySem.W.Frag} {C C' : Hp} {d : Option Addr} {args : List (Str × PyData)} (e : Same C C') (h : ExD K C d args) : ExD K C' d args := by
  rcases h with h | ⟨dd, zs, h1, h2, h3, h4⟩
  · exact .inl h
  · exact .inr ⟨dd, zs, h1, h2, e _ _ h3, h4.mono e⟩
mutual
inductive Own (K : PySem.W.Frag) (C H : Hp) : W → V → Foot → Prop
  | c {d : PyData} {v : V} {F : Foot} : Rep K C v d → (∀ a, ¬ F a) → Own K C H (.c d) v F
  | l {ws : List W} {xs : List V} {p : Addr} {F G : Foot} : H p = some (.lst xs) → C p = none → OwnAll K C H ws xs G → ¬ G p → (∀ a, F a ↔ (a = p ∨ G a)) → Own K C H (.l ws) (.ref p) F
  | dk {kws : List (Key × W)} {kvs : List (Key × V)} {p : Addr} {F G : Foot} : H p = some (.dK kvs) → C p = none → kvs.map (·.1) = kws.map (·.1) → OwnAll K C H (kws.map (·.2)) (kvs.map (·.2)) G → ¬ G p → (∀ a, F a ↔ (a = p ∨ G a)) → Own K C H (.dk kws) (.ref p) F
  | dt {kws : List (List Key × W)} {kvs : List (List Key × V)} {p : Addr} {F G : Foot} : H p = some (.dT kvs) → C p = none → kvs.map (·.1) = kws.map (·.1) → OwnAll K C H (kws.map (·.2)) (kvs.map (·.2)) G → ¬ G p → (∀ a, F a ↔ (a = p ∨ G a)) → Own K C H (.dt kws) (.ref p) F
  | x {a : Addr} {d : Option Addr} {args : List (Str × PyData)} {F : Foot} : ExD K C d args → (∀ a, ¬ F a) → Own K C H (.x a d args) (.ref a) F
  | ks {l : Bool} {a : Addr} {xs : List V} {ds : List PyData} {F : Foot} : sqB K l C a xs → RepAll K C xs ds → (∀ a, ¬ F a) → Own K C H (.ks l ds) (.ref a) F
inductive OwnAll (K : PySem.W.Frag) (C H : Hp) : List W → List V → Foot → Prop
  | nil {F : Foot} : (∀ a, ¬ F a) → OwnAll K C H [] [] F
  | cons {w : W} {ws : List W} {v : V} {vs : List V} {F G G' : Foot} : Own K C H w v G → OwnAll K C H ws vs G' → (∀ a, G a → ¬ G' a) → (∀ a, F a ↔ (G a ∨ G' a)) → OwnAll K C H (w :: ws) (v :: vs) F
end
structure Step (C H : Hp) (F : Foot) (C' H' : Hp) : Prop where
  cc : Same C C'
  fr : ∀ a o, H a = some o → ¬ F a → H' a = some o
  lim : ∀ a, C' a ≠ none → C a ≠ none ∨ F a ∨ H a = none
/-- a new footprint lies in an old one, or is new -/
def New (H : Hp) (F F' : Foot) : Prop := ∀ a, F' a → F a ∨ H a = none
section
variable {K : PySem.W.Frag} {C C' C1 C2 H H' H1 H2 : Hp} {v : V} {vs xs : List V} {w : W} {ws : List W} {d : PyData} {F F' F1 F2 G G' : Foot} {a p : Addr}
theorem Step.refl (F : Foot) : Step C H F C H := ⟨Same.refl C, fun _ _ e _ => e, fun _ h => .inl h⟩
theorem Step.trans (s : Step C H F C1 H1) (t : Step C1 H1 F1 C2 H2) (n : New H F F1) : Step C H F C2 H2 := by
  refine ⟨s.cc.trans t.cc, fun a o e nf => ?_, fun a h => ?_⟩
  · refine t.fr a o (s.fr a o e nf) fun z => ?_
    rcases n a z with q | q
    · exact nf q
    · rw [q] at e; cases e
  · by_cases hf : F a
    · exact .inr (.inl hf)
    · cases e : H a with
      | none => exact .inr (.inr rfl)
      | some o =>
        rcases t.lim a h with q | q | q
        · rcases s.lim a q with z | z | z
          · exact .inl z
          · exact .inr (.inl z)
          · rw [z] at e; cases e
        · rcases n a q with z | z
          · exact .inr (.inl z)
          · rw [z] at e; cases e
        · rw [s.fr a o e hf] at q; cases q
theorem New.trans (s : Step C H F C1 H1) (n1 : New H F F1) (n2 : New H1 F1 F2) : New H F F2 := fun a h => by
  rcases n2 a h with q | q
  · exact n1 a q
  · by_cases hf : F a
    · exact .inl hf
    · cases e : H a with
      | none => exact .inr rfl
      | some o => rw [s.fr a o e hf] at q; cases q
theorem New.refl : New H F F := fun _ h => .inl h
theorem New.zero : New H F Foot.none := fun _ h => h.elim
theorem New.mono (n : New H F G) (h : ∀ a, F a → F' a) : New H F' G := fun a z => (n a z).imp (h a) id
theorem New.sub (n : New H F G) (h : ∀ a, G' a → G a) : New H F G' := fun a z => n a (h a z)
theorem Step.mono (s : Step C H F C' H') (h : ∀ a, F a → F' a) : Step C H F' C' H' :=
  ⟨s.cc, fun a o e nf => s.fr a o e fun z => nf (h a z), fun a z => (s.lim a z).imp id (Or.imp (h a) id)⟩
mutual
theorem Own.foot : ∀ {w : W} {v : V} {F : Foot} {a : Addr}, Own K C H w v F → F a → H a ≠ none ∧ C a = none
  | _, _, _, a, .c _ n, h => (n a h).elim
  | _, _, _, a, .x _ n, h => (n a h).elim
  | _, _, _, a, .ks _ _ n, h => (n a h).elim
  | _, _, _, a, .l e c t _ q, h => by
    rcases (q a).mp h with rfl | z
    · exact ⟨by rw [e]; simp, c⟩
    · exact t.foot z
  | _, _, _, a, .dk e c _ t _ q, h => by
    rcases (q a).mp h with rfl | z
    · exact ⟨by rw [e]; simp, c⟩
    · exact t.foot z
  | _, _, _, a, .dt e c _ t _ q, h => by
    rcases (q a).mp h with rfl | z
    · exact ⟨by rw [e]; simp, c⟩
    · exact t.foot z
theorem OwnAll.foot : ∀ {ws : List W} {vs : List V} {F : Foot} {a : Addr}, OwnAll K C H ws vs F → F a → H a ≠ none ∧ C a = none
  | _, _, _, a, .nil n, h => (n a h).elim
  | _, _, _, a, .cons o t _ q, h => by
    rcases (q a).mp h with z | z
    · exact o.foot z
    · exact t.foot z
end
mutual
/-- what is owned is carried where its own objects stay and no cold object takes their places -/
theorem Own.keep (cc : Same C C') : ∀ {w : W} {v : V} {F : Foot}, Own K C H w v F → (∀ a o, F a → H a = some o → H' a = some o) → (∀ a, F a → C' a = none) → Own K C' H' w v F
  | _, _, _, .c r n, _, _ => .c (r.mono cc) n
  | _, _, _, .x r n, _, _ => .x (r.mono cc) n
  | _, _, _, .ks h r n, _, _ => .ks (sqB_mono cc h) (r.mono cc) n
  | _, _, _, .l e c t n q, k, z => .l (k _ _ ((q _).mpr (.inl rfl)) e) (z _ ((q _).mpr (.inl rfl))) (t.keep cc (fun a o h => k a o ((q a).mpr (.inr h))) fun a h => z a ((q a).mpr (.inr h))) n q
  | _, _, _, .dk e c m t n q, k, z => .dk (k _ _ ((q _).mpr (.inl rfl)) e) (z _ ((q _).mpr (.inl rfl))) m (t.keep cc (fun a o h => k a o ((q a).mpr (.inr h))) fun a h => z a ((q a).mpr (.inr h))) n q
  | _, _, _, .dt e c m t n q, k, z => .dt (k _ _ ((q _).mpr (.inl rfl)) e) (z _ ((q _).mpr (.inl rfl))) m (t.keep cc (fun a o h => k a o ((q a).mpr (.inr h))) fun a h => z a ((q a).mpr (.inr h))) n q
theorem OwnAll.keep (cc : Same C C') : ∀ {ws : List W} {vs : List V} {F : Foot}, OwnAll K C H ws vs F → (∀ a o, F a → H a = some o → H' a = some o) → (∀ a, F a → C' a = none) → OwnAll K C' H' ws vs F
  | _, _, _, .nil n, _, _ => .nil n
  | _, _, _, .cons o t n q, k, z => .cons (o.keep cc (fun a o h => k a o ((q a).mpr (.inl h))) fun a h => z a ((q a).mpr (.inl h))) (t.keep cc (fun a o h => k a o ((q a).mpr (.inr h))) fun a h => z a ((q a).mpr (.inr h))) n q
end
theorem stay_of (s : Step C H G C' H') (ft : H a ≠ none ∧ C a = none) (n : ¬ G a) : (∀ o, H a = some o → H' a = some o) ∧ C' a = none := by
  refine ⟨fun o e => s.fr a o e n, ?_⟩
  cases e : C' a with
  | none => rfl
  | some o =>
    rcases s.lim a (by rw [e]; simp) with z | z | z
    · exact (z ft.2).elim
    · exact (n z).elim
    · exact (ft.1 z).elim
theorem Own.carry (o : Own K C H w v F) (s : Step C H G C' H') (n : ∀ a, F a → ¬ G a) : Own K C' H' w v F :=
  o.keep s.cc (fun a u h e => (stay_of s (o.foot h) (n a h)).1 u e) fun a h => (stay_of s (o.foot h) (n a h)).2
theorem OwnAll.carry (o : OwnAll K C H ws vs F) (s : Step C H G C' H') (n : ∀ a, F a → ¬ G a) : OwnAll K C' H' ws vs F :=
  o.keep s.cc (fun a u h e => (stay_of s (o.foot h) (n a h)).1 u e) fun a h => (stay_of s (o.foot h) (n a h)).2
/-- an old footprint and a new one stay apart -/
theorem New.apart (n : New H F G) (ft : ∀ a, F' a → H a ≠ none) (d : ∀ a, F' a → ¬ F a) : ∀ a, F' a → ¬ G a := fun a h z => by
  rcases n a z with q | q
  · exact d a h q
  · exact ft a h q
mutual
theorem Own.congr : ∀ {w : W} {v : V} {F F' : Foot}, Own K C H w v F → (∀ a, F a ↔ F' a) → Own K C H w v F'
  | _, _, _, _, .c r n, e => .c r fun a h => n a ((e a).mpr h)
  | _, _, _, _, .x r n, e => .x r fun a h => n a ((e a).mpr h)
  | _, _, _, _, .ks r t n, e => .ks r t fun a h => n a ((e a).mpr h)
  | _, _, _, _, .l x c t n q, e => .l x c t n fun a => (e a).symm.trans (q a)
  | _, _, _, _, .dk x c m t n q, e => .dk x c m t n fun a => (e a).symm.trans (q a)
  | _, _, _, _, .dt x c m t n q, e => .dt x c m t n fun a => (e a).symm.trans (q a)
theorem OwnAll.congr : ∀ {ws : List W} {vs : List V} {F F' : Foot}, OwnAll K C H ws vs F → (∀ a, F a ↔ F' a) → OwnAll K C H ws vs F'
  | _, _, _, _, .nil n, e => .nil fun a h => n a ((e a).mpr h)
  | _, _, _, _, .cons o t n q, e => .cons o t n fun a => (e a).symm.trans (q a)
end
theorem OwnAll.length : ∀ {ws : List W} {vs : List V} {F : Foot}, OwnAll K C H ws vs F → ws.length = vs.length
  | _, _, _, .nil _ => rfl
  | _, _, _, .cons _ t _ _ => by rw [List.length_cons, List.length_cons, t.length]
end
/-! ### freezing -/
mutual
def fz : W → Option PyData
  | .c d => some d
  | .l ws => (fzAll ws).map .list
  | .dk kws => (fzKV kws).map .dict
  | .dt _ => none
  | .x _ _ _ => none
  | .ks _ _ => none
def fzAll : List W → Option (List PyData)
  | [] => some []
  | w :: ws => match fz w, fzAll ws with
    | some d, some ds => some (d :: ds)
    | _, _ => none
def fzKV : List (Key × W) → Option (List (PyData × PyData))
  | [] => some []
  | (k, w) :: ws => match fz w, fzKV ws with
    | some d, some ds => some ((keyD k, d) :: ds)
    | _, _ => none
end
theorem fzKV_eq : ∀ {kws : List (Key × W)} {kds : List (PyData × PyData)}, fzKV kws = some kds → ∃ ds, fzAll (kws.map (·.2)) = some ds ∧ kds = ((kws.map (·.1)).map keyD).zip ds
  | [], _, h => by
    simp only [fzKV, Option.some.injEq] at h
    subst h
    exact ⟨[], rfl, rfl⟩
  | (k, w) :: r, kds, h => by
    unfold fzKV at h
    cases e1 : fz w with
    | none => rw [e1] at h; simp at h
    | some d =>
      cases e2 : fzKV r with
      | none => rw [e1, e2] at h; simp at h
      | some ds =>
        rw [e1, e2] at h
        simp only [Option.some.injEq] at h
        obtain ⟨es, h1, h2⟩ := fzKV_eq e2
        subst h
        refine ⟨d :: es, ?_, ?_⟩
        · show fzAll (w :: r.map (·.2)) = _
          unfold fzAll; rw [e1, h1]
        · rw [h2]; rfl
/-! the cold heap with the objects at F -/
open Classical in
noncomputable def addF (C H : Hp) (F : Foot) : Hp := fun a => if F a then H a else C a
section
variable {K : PySem.W.Frag} {C C' H H' : Hp} {F F' G : Foot} {a : Addr}
theorem addF_in (h : F a) : addF C H F a = H a := by unfold addF; rw [if_pos h]
theorem addF_out (h : ¬ F a) : addF C H F a = C a := by unfold addF; rw [if_neg h]
theorem addF_cc (s : Same C H) : Same C (addF C H F) := fun a o e => by
  by_cases h : F a
  · rw [addF_in h]; exact s a o e
  · rw [addF_out h]; exact e
theorem addF_sub (s : Same C H) : Same (addF C H F) H := fun a o e => by
  by_cases h : F a
  · rw [addF_in h] at e; exact e
  · rw [addF_out h] at e; exact s a o e
theorem addF_step (s : Same C H) : Step C H F (addF C H F) H := ⟨addF_cc s, fun _ _ e _ => e, fun a h => by
  by_cases q : F a
  · exact .inr (.inl q)
  · rw [addF_out q] at h; exact .inl h⟩
theorem zip_map12 {α β : Type} : ∀ (l : List (α × β)), (l.map (·.1)).zip (l.map (·.2)) = l
  | [] => rfl
  | _ :: r => by simp [zip_map12 r]
mutual
theorem Own.rep (s : Same C C') : ∀ {w : W} {v : V} {F : Foot} {d : PyData}, Own K C H w v F → fz w = some d → (∀ a o, F a → H a = some o → C' a = some o) → Rep K C' v d
  | _, _, _, _, .c r n, e, _ => by
    simp only [fz, Option.some.injEq] at e
    subst e
    exact r.mono s
  | _, _, _, d, .l (ws := ws) x c t n q, e, k => by
    unfold fz at e
    cases e1 : fzAll ws with
    | none => rw [e1] at e; simp at e
    | some ds =>
      rw [e1] at e
      simp only [Option.map_some, Option.some.injEq] at e
      subst e
      exact .lst (Rd.of (k _ _ ((q _).mpr (.inl rfl)) x)) (t.rep s e1 fun a o h => k a o ((q a).mpr (.inr h)))
  | _, _, _, d, .dk (kws := kws) (kvs := kvs) x c m t n q, e, k => by
    unfold fz at e
    cases e1 : fzKV kws with
    | none => rw [e1] at e; simp at e
    | some ds =>
      rw [e1] at e
      simp only [Option.map_some, Option.some.injEq] at e
      subst e
      obtain ⟨es, h1, h2⟩ := fzKV_eq e1
      have r := t.rep s h1 fun a o h => k a o ((q a).mpr (.inr h))
      subst h2
      rw [← m]
      have hl : (kvs.map (·.1)).length = (kvs.map (·.2)).length := by simp
      have hx := k _ _ ((q _).mpr (.inl rfl)) x
      refine .dct hl (.inl ?_) r
      rw [zip_map12]; exact hx
  | _, _, _, _, .dt _ _ _ _ _ _, e, _ => by simp [fz] at e
  | _, _, _, _, .x _ _, e, _ => by simp [fz] at e
  | _, _, _, _, .ks _ _ _, e, _ => by simp [fz] at e
theorem OwnAll.rep (s : Same C C') : ∀ {ws : List W} {vs : List V} {F : Foot} {ds : List PyData}, OwnAll K C H ws vs F → fzAll ws = some ds → (∀ a o, F a → H a = some o → C' a = some o) → RepAll K C' vs ds
  | _, _, _, _, .nil n, e, _ => by
    simp only [fzAll, Option.some.injEq] at e
    subst e
    exact .nil
  | _, _, _, ds, .cons (w := w) (ws := ws) o t n q, e, k => by
    unfold fzAll at e
    cases e1 : fz w with
    | none => rw [e1] at e; simp at e
    | some d =>
      cases e2 : fzAll ws with
      | none => rw [e1, e2] at e; simp at e
      | some es =>
        rw [e1, e2] at e
        simp only [Option.some.injEq] at e
        subst e
        exact .cons (o.rep s e1 fun a o h => k a o ((q a).mpr (.inl h))) (t.rep s e2 fun a o h => k a o ((q a).mpr (.inr h)))
end
/-- read where it stands -/
theorem Own.repH {w : W} {v : V} {d : PyData} (o : Own K C H w v F) (s : Same C H) (e : fz w = some d) : Rep K H v d := o.rep s e fun _ _ _ q => q
theorem OwnAll.repH {ws : List W} {vs : List V} {ds : List PyData} (o : OwnAll K C H ws vs F) (s : Same C H) (e : fzAll ws = some ds) : RepAll K H vs ds := o.rep s e fun _ _ _ q => q
theorem Own.freeze {w : W} {v : V} {d : PyData} (o : Own K C H w v F) (s : Same C H) (e : fz w = some d) : Rep K (addF C H F) v d := o.rep (addF_cc s) e fun a _ h q => by rw [addF_in h]; exact q
theorem OwnAll.freeze {ws : List W} {vs : List V} {ds : List PyData} (o : OwnAll K C H ws vs F) (s : Same C H) (e : fzAll ws = some ds) : RepAll K (addF C H F) vs ds := o.rep (addF_cc s) e fun a _ h q => by rw [addF_in h]; exact q
end
end VL
set_option maxHeartbeats 2000000
namespace VL
open PySem PySem.Spec PyProof.Rows L2
/-! ### environments -/
abbrev Env := List (Option W)
inductive OwnEnv (K : PySem.W.Frag) (C H : Hp) : Env → L2.St → Foot → Prop
  | nil {F : Foot} : (∀ a, ¬ F a) → OwnEnv K C H [] [] F
  | non {ρ : Env} {σ : L2.St} {x : Option V} {F : Foot} : OwnEnv K C H ρ σ F → OwnEnv K C H (none :: ρ) (x :: σ) F
  | som {ρ : Env} {σ : L2.St} {w : W} {v : V} {F G G' : Foot} : Own K C H w v G → OwnEnv K C H ρ σ G' → (∀ a, G a → ¬ G' a) → (∀ a, F a ↔ (G a ∨ G' a)) → OwnEnv K C H (some w :: ρ) (some v :: σ) F
section
variable {K : PySem.W.Frag} {C C' H H' : Hp} {v : V} {w : W} {F F' G G' : Foot} {a : Addr} {ρ : Env} {σ : L2.St} {i : Nat}
theorem OwnEnv.foot : ∀ {ρ : Env} {σ : L2.St} {F : Foot} {a : Addr}, OwnEnv K C H ρ σ F → F a → H a ≠ none ∧ C a = none
  | _, _, _, a, .nil n, h => (n a h).elim
  | _, _, _, a, .non t, h => t.foot h
  | _, _, _, a, .som o t _ q, h => by
    rcases (q a).mp h with z | z
    · exact o.foot z
    · exact t.foot z
theorem OwnEnv.keep (cc : Same C C') : ∀ {ρ : Env} {σ : L2.St} {F : Foot}, OwnEnv K C H ρ σ F → (∀ a o, F a → H a = some o → H' a = some o) → (∀ a, F a → C' a = none) → OwnEnv K C' H' ρ σ F
  | _, _, _, .nil n, _, _ => .nil n
  | _, _, _, .non t, k, z => .non (t.keep cc k z)
  | _, _, _, .som o t n q, k, z => .som (o.keep cc (fun a o h => k a o ((q a).mpr (.inl h))) fun a h => z a ((q a).mpr (.inl h))) (t.keep cc (fun a o h => k a o ((q a).mpr (.inr h))) fun a h => z a ((q a).mpr (.inr h))) n q
theorem OwnEnv.carry (o : OwnEnv K C H ρ σ F) (s : Step C H G C' H') (n : ∀ a, F a → ¬ G a) : OwnEnv K C' H' ρ σ F :=
  o.keep s.cc (fun a u h e => (stay_of s (o.foot h) (n a h)).1 u e) fun a h => (stay_of s (o.foot h) (n a h)).2
theorem OwnEnv.length : ∀ {ρ : Env} {σ : L2.St} {F : Foot}, OwnEnv K C H ρ σ F → ρ.length = σ.length
  | _, _, _, .nil _ => rfl
  | _, _, _, .non t => by rw [List.length_cons, List.length_cons, t.length]
  | _, _, _, .som _ t _ _ => by rw [List.length_cons, List.length_cons, t.length]
theorem OwnEnv.congr : ∀ {ρ : Env} {σ : L2.St} {F F' : Foot}, OwnEnv K C H ρ σ F → (∀ a, F a ↔ F' a) → OwnEnv K C H ρ σ F'
  | _, _, _, _, .nil n, e => .nil fun a h => n a ((e a).mpr h)
  | _, _, _, _, .non t, e => .non (t.congr e)
  | _, _, _, _, .som o t n q, e => .som o t n fun a => (e a).symm.trans (q a)
/-- what stands at a place -/
theorem OwnEnv.at : ∀ {ρ : Env} {σ : L2.St} {F : Foot} {i : Nat} {w : W}, OwnEnv K C H ρ σ F → ρ[i]? = some (some w) → ∃ v G, σ[i]? = some (some v) ∧ Own K C H w v G ∧ ∀ a, G a → F a
  | _, _, _, _, _, .nil _, e => by simp at e
  | _, _, _, 0, _, .non _, e => by simp at e
  | _, _, _, i + 1, w, .non t, e => by
    obtain ⟨v, G, h⟩ := t.at (i := i) (w := w) (by simpa using e)
    exact ⟨v, G, by simpa using h⟩
  | _, _, _, 0, w, .som (v := v) (G := G) o t n q, e => by
    simp at e; subst e
    exact ⟨v, G, by simp, o, fun a h => (q a).mpr (.inl h)⟩
  | _, _, _, i + 1, w, .som o t n q, e => by
    obtain ⟨v, G, h1, h2, h3⟩ := t.at (i := i) (w := w) (by simpa using e)
    exact ⟨v, G, by simpa using h1, h2, fun a h => (q a).mpr (.inr (h3 a h))⟩
/-- a place is taken out: its own footprint, and the others' -/
theorem OwnEnv.out : ∀ {ρ : Env} {σ : L2.St} {F : Foot} {i : Nat} {w : W}, OwnEnv K C H ρ σ F → ρ[i]? = some (some w) →
    ∃ v G G', σ[i]? = some (some v) ∧ Own K C H w v G ∧ OwnEnv K C H (ρ.set i none) σ G' ∧ (∀ a, G a → ¬ G' a) ∧ (∀ a, F a ↔ (G a ∨ G' a))
  | _, _, _, _, _, .nil _, e => by simp at e
  | _, _, _, 0, _, .non _, e => by simp at e
  | _, _, _, i + 1, w, .non t, e => by
    obtain ⟨v, G, G', h1, h2, h3, h4⟩ := t.out (i := i) (w := w) (by simpa using e)
    exact ⟨v, G, G', by simpa using h1, h2, .non h3, h4⟩
  | _, _, _, 0, w, .som (v := v) (G := G) (G' := G') o t n q, e => by
    simp at e; subst e
    exact ⟨v, G, G', by simp, o, .non t, n, q⟩
  | _, _, F, i + 1, w, .som (G := G0) (G' := G1) o t n q, e => by
    obtain ⟨v, G, G', h1, h2, h3, h4, h5⟩ := t.out (i := i) (w := w) (by simpa using e)
    refine ⟨v, G, Foot.or G0 G', by simpa using h1, h2, .som o h3 (fun a x y => n a x ((h5 a).mpr (.inr y))) (fun a => Iff.rfl), fun a x y => ?_, fun a => ?_⟩
    · rcases y with y | y
      · exact n a y ((h5 a).mpr (.inl x))
      · exact h4 a x y
    · constructor
      · intro z
        rcases (q a).mp z with z | z
        · exact .inr (.inl z)
        · rcases (h5 a).mp z with z | z
          · exact .inl z
          · exact .inr (.inr z)
      · rintro (z | z | z)
        · exact (q a).mpr (.inr ((h5 a).mpr (.inl z)))
        · exact (q a).mpr (.inl z)
        · exact (q a).mpr (.inr ((h5 a).mpr (.inr z)))
/-- a place is emptied -/
theorem OwnEnv.wipe : ∀ {ρ : Env} {σ : L2.St} {F : Foot} (i : Nat) (x : Option V), OwnEnv K C H ρ σ F → ∃ F', OwnEnv K C H (ρ.set i none) (σ.set i x) F' ∧ ∀ a, F' a → F a
  | _, _, F, i, _, .nil n => ⟨F, by simpa using .nil n, fun _ h => h⟩
  | _, _, F, 0, _, .non t => ⟨F, by simpa using .non t, fun _ h => h⟩
  | _, _, F, 0, _, .som (G' := G') o t n q => ⟨G', by simpa using .non t, fun a h => (q a).mpr (.inr h)⟩
  | _, _, F, i + 1, x, .non t => by
    obtain ⟨F', h1, h2⟩ := t.wipe i x
    exact ⟨F', by simpa using .non h1, h2⟩
  | _, _, F, i + 1, x, .som (G := G) o t n q => by
    obtain ⟨F', h1, h2⟩ := t.wipe i x
    exact ⟨Foot.or G F', by simpa using .som o h1 (fun a p r => n a p (h2 a r)) (fun a => Iff.rfl), fun a h => by
      rcases h with h | h
      · exact (q a).mpr (.inl h)
      · exact (q a).mpr (.inr (h2 a h))⟩
/-- a place is put in -/
theorem OwnEnv.put : ∀ {ρ : Env} {σ : L2.St} {F : Foot} {i : Nat} {w : W} {v : V} {G : Foot}, OwnEnv K C H ρ σ F → Own K C H w v G → (∀ a, G a → ¬ F a) →
    ∃ F', OwnEnv K C H (ρ.set i (some w)) (σ.set i (some v)) F' ∧ ∀ a, F' a → F a ∨ G a
  | _, _, F, i, _, _, _, .nil n, o, d => ⟨F, by simpa using .nil n, fun _ h => .inl h⟩
  | _, _, F, 0, _, _, G, .non t, o, d => ⟨Foot.or G F, by simpa using .som o t d (fun a => Iff.rfl), fun a h => Or.symm h⟩
  | _, _, F, 0, _, _, G, .som (G' := G') o' t n q, o, d => ⟨Foot.or G G', by simpa using .som o t (fun a x y => d a x ((q a).mpr (.inr y))) (fun a => Iff.rfl), fun a h => by
      rcases h with h | h
      · exact .inr h
      · exact .inl ((q a).mpr (.inr h))⟩
  | _, _, F, i + 1, _, _, G, .non t, o, d => by
    obtain ⟨F', h1, h2⟩ := t.put (i := i) o d
    exact ⟨F', by simpa using .non h1, h2⟩
  | _, _, F, i + 1, _, _, G, .som (G := G0) (G' := G1) o' t n q, o, d => by
    obtain ⟨F', h1, h2⟩ := t.put (i := i) o fun a x y => d a x ((q a).mpr (.inr y))
    have dd : ∀ a, G0 a → ¬ F' a := fun a x y => by
      rcases h2 a y with z | z
      · exact n a x z
      · exact d a z ((q a).mpr (.inl x))
    refine ⟨Foot.or G0 F', by simpa using .som o' h1 dd (fun a => Iff.rfl), fun a h => ?_⟩
    rcases h with h | h
    · exact .inl ((q a).mpr (.inl h))
    · rcases h2 a h with z | z
      · exact .inl ((q a).mpr (.inr z))
      · exact .inr z
end
/-! ### what comes of an evaluation -/
structure Exn where
  cls : Str
  args : List (Str × PyData)
inductive R (α : Type) where
  | ok (a : α) (ρ : Env)
  | exn (e : Exn) (ρ : Env)
  | stuck
def R.bind {α β : Type} (r : R α) (k : α → Env → R β) : R β := match r with
  | .ok a ρ => k a ρ
  | .exn e ρ => .exn e ρ
  | .stuck => .stuck
inductive RS where
  | nx (ρ : Env)
  | rt (w : W) (ρ : Env)
  | exn (e : Exn) (ρ : Env)
  | stuck
def RS.seq (r : RS) (k : Env → RS) : RS := match r with
  | .nx ρ => k ρ
  | .rt w ρ => .rt w ρ
  | .exn e ρ => .exn e ρ
  | .stuck => .stuck
def R.toS {α : Type} (r : R α) (k : α → Env → RS) : RS := match r with
  | .ok a ρ => k a ρ
  | .exn e ρ => .exn e ρ
  | .stuck => .stuck
/-- the state: io the places that are never stored (v0 their values) -/
structure St (K : PySem.W.Frag) (io : List Nat) (v0 : L2.St) (ρ : Env) (σ : L2.St) (C H : Hp) (F : Foot) : Prop where
  env : OwnEnv K C H ρ σ F
  sub : Same C H
  fix : ∀ i ∈ io, σ[i]? = v0[i]?
def ExOk (X : Cx) (e : Exn) (cls : Value) (d : Option Addr) (C : Hp) : Prop := ∃ D, X.mg e.cls = some (.ref D) ∧ cls = .ref D ∧
  ((e.args = [] ∧ d = none) ∨ ∃ dd vs, d = some dd ∧ e.args.length = vs.length ∧ C dd = some (.xd ((e.args.map (·.1)).zip vs)) ∧ RepAll X.K C vs (e.args.map (·.2)))
/-- a step that ends in an environment -/
structure To (K : PySem.W.Frag) (io : List Nat) (v0 : L2.St) (C H : Hp) (F : Foot) (ρ' : Env) (σ' : L2.St) (C' H' : Hp) (F' : Foot) : Prop where
  step : Step C H F C' H'
  new : New H F F'
  st : St K io v0 ρ' σ' C' H' F'
/-- .. and with a value beside it -/
structure ToV (K : PySem.W.Frag) (io : List Nat) (v0 : L2.St) (C H : Hp) (F : Foot) (w : W) (v : V) (ρ' : Env) (σ' : L2.St) (C' H' : Hp) (G F' : Foot) : Prop where
  to : To K io v0 C H F ρ' σ' C' H' F'
  newv : New H F G
  dis : ∀ a, G a → ¬ F' a
  own : Own K C' H' w v G
section
variable (X : Cx) (Wx : WX) (io : List Nat) (v0 : L2.St)
def XPost (σ : L2.St) (C H : Hp) (F : Foot) (e : Exn) (ρ' : Env) : Prop := ∀ cls d C' H' F', To X.K io v0 C H F ρ' σ C' H' F' → ExOk X e cls d C' → Wx cls d σ H'
def RPost {α : Type} (σ : L2.St) (C H : Hp) (F : Foot) (r : R α) (k : α → Env → Prop) : Prop := match r with
  | .ok a ρ' => k a ρ'
  | .exn e ρ' => XPost X Wx io v0 σ C H F e ρ'
  | .stuck => False
def tW (f : Env → R W) : TE := fun σ H Q => ∃ ρ C F, St X.K io v0 ρ σ C H F ∧ RPost X Wx io v0 σ C H F (f ρ) fun w ρ' => ∀ v C' H' G F', ToV X.K io v0 C H F w v ρ' σ C' H' G F' → Q v H'
def tT (f : Env → R Bool) : TT := fun σ H Q => ∃ ρ C F, St X.K io v0 ρ σ C H F ∧ RPost X Wx io v0 σ C H F (f ρ) fun b ρ' => ∀ C' H' F', To X.K io v0 C H F ρ' σ C' H' F' → Q b H'
def SPost (C H : Hp) (F : Foot) (r : RS) (D : Ends) : Prop := match r with
  | .nx ρ' => ∀ σ' C' H' F', To X.K io v0 C H F ρ' σ' C' H' F' → D.nx σ' H'
  | .rt w ρ' => ∀ v σ' C' H' G F', ToV X.K io v0 C H F w v ρ' σ' C' H' G F' → D.rt v H'
  | .exn e ρ' => ∀ σ' cls d C' H' F', To X.K io v0 C H F ρ' σ' C' H' F' → ExOk X e cls d C' → Wx cls d σ' H'
  | .stuck => False
def tS (g : Env → RS) : TS := fun D σ H => ∃ ρ C F, St X.K io v0 ρ σ C H F ∧ SPost X Wx io v0 C H F (g ρ) D
def VE (e : Expr) (f : Env → R W) : Prop := PE X e (tW X Wx io v0 f)
def VT (e : Expr) (f : Env → R Bool) : Prop := PT X e (tT X Wx io v0 f)
def VS (st : Stmt) (g : Env → RS) : Prop := PS X st (tS X Wx io v0 g)
def VSs (st : List Stmt) (g : Env → RS) : Prop := PSs X st (tS X Wx io v0 g)
end
theorem pe_mono {X : Cx} {e : Expr} {t t' : TE} (h : PE X e t) (m : ∀ σ H Q, t' σ H Q → t σ H Q) : PE X e t' := ⟨fun pins s σ H Q I q => h.run pins s σ H Q I (m σ H Q q)⟩
theorem pt_mono {X : Cx} {e : Expr} {t t' : TT} (h : PT X e t) (m : ∀ σ H Q, t' σ H Q → t σ H Q) : PT X e t' := ⟨fun pins s σ H Q I q => h.run pins s σ H Q I (m σ H Q q)⟩
theorem pa_mono {X : Cx} {e : List Expr} {t t' : TA} (h : PA X e t) (m : ∀ σ H Q, t' σ H Q → t σ H Q) : PA X e t' := ⟨fun pos pins s σ H Q I q => h.run pos pins s σ H Q I (m σ H Q q)⟩
theorem ps_mono {X : Cx} {e : Stmt} {t t' : TS} (h : PS X e t) (m : ∀ D σ H, t' D σ H → t D σ H) : PS X e t' := ⟨fun pins s σ H D I q => h.run pins s σ H D I (m D σ H q)⟩
theorem pss_mono {X : Cx} {e : List Stmt} {t t' : TS} (h : PSs X e t) (m : ∀ D σ H, t' D σ H → t D σ H) : PSs X e t' := ⟨fun pins s σ H D I q => h.run pins s σ H D I (m D σ H q)⟩
section
variable {X : Cx} {Wx : WX} {io : List Nat} {v0 : L2.St} {C C' C1 H H' H1 : Hp} {F F' F1 G G1 : Foot} {ρ ρ' ρ1 : Env} {σ σ' : L2.St} {w : W} {v : V}
theorem St.carry (s : St X.K io v0 ρ σ C H F) (t : Step C H G C' H') (n : ∀ a, F a → ¬ G a) (sub : Same C' H') : St X.K io v0 ρ σ C' H' F := ⟨s.env.carry t n, sub, s.fix⟩
theorem To.refl (s : St X.K io v0 ρ σ C H F) : To X.K io v0 C H F ρ σ C H F := ⟨Step.refl F, New.refl, s⟩
theorem To.trans {σ1 : L2.St} (a : To X.K io v0 C H F ρ1 σ1 C1 H1 F1) (b : To X.K io v0 C1 H1 F1 ρ' σ' C' H' F') : To X.K io v0 C H F ρ' σ' C' H' F' := ⟨a.step.trans b.step a.new, New.trans a.step a.new b.new, b.st⟩
theorem To.transV {σ1 : L2.St} (a : To X.K io v0 C H F ρ1 σ1 C1 H1 F1) (b : ToV X.K io v0 C1 H1 F1 w v ρ' σ' C' H' G F') : ToV X.K io v0 C H F w v ρ' σ' C' H' G F' := ⟨a.trans b.to, New.trans a.step a.new b.newv, b.dis, b.own⟩
theorem XPost.shift {σ1 : L2.St} {e : Exn} (x : XPost X Wx io v0 σ C H F e ρ') (a : To X.K io v0 C H F ρ1 σ1 C1 H1 F1) : XPost X Wx io v0 σ C1 H1 F1 e ρ' := fun cls d C' H' F' b k => x cls d C' H' F' (a.trans b) k
/-- from a later state -/
theorem RPost.shift {α : Type} {r : R α} {k k' : α → Env → Prop} (x : RPost X Wx io v0 σ C H F r k) {σ1 : L2.St} (a : To X.K io v0 C H F ρ1 σ1 C1 H1 F1) (h : ∀ b ρ, r = .ok b ρ → k b ρ → k' b ρ) : RPost X Wx io v0 σ C1 H1 F1 r k' := by
  cases r with
  | ok b ρ => exact h b ρ rfl x
  | exn e ρ => exact XPost.shift x a
  | stuck => exact x
theorem RPost.imp {α : Type} {r : R α} {k k' : α → Env → Prop} (x : RPost X Wx io v0 σ C H F r k) (h : ∀ b ρ, r = .ok b ρ → k b ρ → k' b ρ) : RPost X Wx io v0 σ C H F r k' := by
  cases r with
  | ok b ρ => exact h b ρ rfl x
  | exn e ρ => exact x
  | stuck => exact x
theorem RPost.of_bind {α β : Type} {r : R α} {f : α → Env → R β} {k : β → Env → Prop} (x : RPost X Wx io v0 σ C H F (r.bind f) k) : RPost X Wx io v0 σ C H F r fun a ρ => RPost X Wx io v0 σ C H F (f a ρ) k := by
  cases r with
  | ok b ρ => exact x
  | exn e ρ => exact x
  | stuck => exact x
end
/-! ### operands: a value made, or a name read where the operation reads it -/
inductive Opd where
  | val (f : Env → R W)
  | bor (i : Nat)
inductive AV where
  | v (w : W)
  | r (i : Nat)
def evs : List Opd → Env → R (List AV)
  | [], ρ => .ok [] ρ
  | .val f :: os, ρ => (f ρ).bind fun w ρ1 => (evs os ρ1).bind fun ts ρ2 => .ok (.v w :: ts) ρ2
  | .bor i :: os, ρ => match ρ[i]? with
    | some (some _) => (evs os ρ).bind fun ts ρ2 => .ok (.r i :: ts) ρ2
    | _ => .stuck
def rd (ρ : Env) : AV → Option W
  | .v w => some w
  | .r i => match ρ[i]? with
    | some o => o
    | none => none
def rds (ρ : Env) : List AV → Option (List W)
  | [] => some []
  | t :: ts => match rd ρ t, rds ρ ts with
    | some w, some ws => some (w :: ws)
    | _, _ => none
inductive OwnTs (K : PySem.W.Frag) (C H : Hp) (σ : L2.St) : List AV → List V → Foot → Prop
  | nil {F : Foot} : (∀ a, ¬ F a) → OwnTs K C H σ [] [] F
  | v {w : W} {ts : List AV} {v : V} {vs : List V} {F G G' : Foot} : Own K C H w v G → OwnTs K C H σ ts vs G' → (∀ a, G a → ¬ G' a) → (∀ a, F a ↔ (G a ∨ G' a)) → OwnTs K C H σ (.v w :: ts) (v :: vs) F
  | r {i : Nat} {ts : List AV} {v : V} {vs : List V} {F : Foot} : σ[i]? = some (some v) → OwnTs K C H σ ts vs F → OwnTs K C H σ (.r i :: ts) (v :: vs) F
/-- values, each with a footprint of its own -/
inductive OwnL (K : PySem.W.Frag) (C H : Hp) : List W → List V → Prop
  | nil : OwnL K C H [] []
  | cons {w : W} {ws : List W} {v : V} {vs : List V} {F : Foot} : Own K C H w v F → OwnL K C H ws vs → OwnL K C H (w :: ws) (v :: vs)
structure ToT (K : PySem.W.Frag) (io : List Nat) (v0 : L2.St) (C H : Hp) (F : Foot) (ts : List AV) (vs : List V) (ρ' : Env) (σ' : L2.St) (C' H' : Hp) (G F' : Foot) : Prop where
  to : To K io v0 C H F ρ' σ' C' H' F'
  newv : New H F G
  dis : ∀ a, G a → ¬ F' a
  own : OwnTs K C' H' σ' ts vs G
def tAs (X : Cx) (Wx : WX) (io : List Nat) (v0 : L2.St) (os : List Opd) : TA := fun σ H Q => ∃ ρ C F, St X.K io v0 ρ σ C H F ∧ RPost X Wx io v0 σ C H F (evs os ρ) fun ts ρ' => ∀ vs C' H' G F', ToT X.K io v0 C H F ts vs ρ' σ C' H' G F' → Q vs H'
def tO (X : Cx) (Wx : WX) (io : List Nat) (v0 : L2.St) : Opd → TE
  | .val f => tW X Wx io v0 f
  | .bor i => tVar i
def VO (X : Cx) (Wx : WX) (io : List Nat) (v0 : L2.St) (e : Expr) (o : Opd) : Prop := PE X e (tO X Wx io v0 o)
def VA (X : Cx) (Wx : WX) (io : List Nat) (v0 : L2.St) (es : List Expr) (os : List Opd) : Prop := PA X es (tAs X Wx io v0 os)
section
variable {X : Cx} {Wx : WX} {io : List Nat} {v0 : L2.St} {C C' C1 H H' H1 : Hp} {F F' F1 G G1 : Foot} {ρ ρ' ρ1 : Env} {σ σ' : L2.St} {w : W} {v : V} {K : PySem.W.Frag} {e : Expr} {es : List Expr} {o : Opd} {os : List Opd}
theorem OwnTs.foot : ∀ {ts : List AV} {vs : List V} {F : Foot} {a : Addr}, OwnTs K C H σ ts vs F → F a → H a ≠ none ∧ C a = none
  | _, _, _, a, .nil n, h => (n a h).elim
  | _, _, _, a, .v o t _ q, h => by
    rcases (q a).mp h with z | z
    · exact o.foot z
    · exact t.foot z
  | _, _, _, a, .r _ t, h => t.foot h
/-- each temporary, each name that is read -/
theorem OwnTs.all (en : OwnEnv K C H ρ σ F) : ∀ {ts : List AV} {vs : List V} {ws : List W} {G : Foot}, OwnTs K C H σ ts vs G → rds ρ ts = some ws → OwnL K C H ws vs
  | _, _, _, _, .nil _, e => by
    simp only [rds, Option.some.injEq] at e
    subst e; exact .nil
  | _, _, ws, _, .v (w := w) (ts := ts) o t _ _, e => by
    unfold rds at e
    have e1 : rd ρ (.v w) = some w := rfl
    rw [e1] at e
    cases e2 : rds ρ ts with
    | none => rw [e2] at e; simp at e
    | some us =>
      rw [e2] at e
      simp only [Option.some.injEq] at e
      subst e
      exact .cons o (t.all en e2)
  | _, _, ws, _, .r (i := i) (ts := ts) hs t, e => by
    unfold rds at e
    cases e2 : rds ρ ts with
    | none => rw [e2] at e; cases hr : rd ρ (.r i) <;> rw [hr] at e <;> simp at e
    | some us =>
      cases hr : rd ρ (.r i) with
      | none => rw [hr] at e; simp at e
      | some w =>
        rw [e2, hr] at e
        simp only [Option.some.injEq] at e
        subst e
        have hi : ρ[i]? = some (some w) := by
          cases q : ρ[i]? with
          | none => simp only [rd, q] at hr; cases hr
          | some o => simp only [rd, q] at hr; rw [hr]
        obtain ⟨v', G', h1, h2, _⟩ := en.at hi
        rw [hs] at h1
        cases h1
        exact .cons h2 (t.all en e2)
theorem tAs_nil {Q : List V → Hp → Prop} (h : tAs X Wx io v0 [] σ H Q) : Q [] H := by
  obtain ⟨ρ, C, F, s, p⟩ := h
  exact p [] C H Foot.none F ⟨To.refl s, New.zero, fun _ z => z.elim, .nil fun _ z => z.elim⟩
theorem tAs_cons {Q : List V → Hp → Prop} (h : tAs X Wx io v0 (o :: os) σ H Q) : tO X Wx io v0 o σ H fun x H1 => tAs X Wx io v0 os σ H1 fun xs H2 => Q (x :: xs) H2 := by
  obtain ⟨ρ, C, F, s, p⟩ := h
  cases o with
  | val f =>
    have p' : RPost X Wx io v0 σ C H F ((f ρ).bind fun w ρ1 => (evs os ρ1).bind fun ts ρ2 => .ok (.v w :: ts) ρ2) _ := p
    refine ⟨ρ, C, F, s, (RPost.of_bind p').imp fun w ρ1 _ q => fun v C1 H1 G F1 t1 => ?_⟩
    refine ⟨ρ1, C1, F1, t1.to.st, (RPost.of_bind q).shift t1.to fun ts ρ2 _ q2 => fun vs C2 H2 G2 F2 t2 => ?_⟩
    have q2' : ∀ vs C' H' G F', ToT X.K io v0 C H F (.v w :: ts) vs ρ2 σ C' H' G F' → Q vs H' := q2
    have dG1 : ∀ a, G a → ¬ F1 a := t1.dis
    have apF : ∀ a, G a → ¬ F2 a := New.apart t2.to.new (fun a h => (t1.own.foot h).1) dG1
    have apG : ∀ a, G a → ¬ G2 a := New.apart t2.newv (fun a h => (t1.own.foot h).1) dG1
    refine q2' (v :: vs) C2 H2 (Foot.or G G2) F2 ⟨t1.to.trans t2.to, fun a h => ?_, fun a h => ?_, .v (t1.own.carry t2.to.step dG1) t2.own apG fun a => Iff.rfl⟩
    · rcases h with h | h
      · exact t1.newv a h
      · exact New.trans t1.to.step t1.to.new t2.newv a h
    · rcases h with h | h
      · exact apF a h
      · exact t2.dis a h
  | bor i =>
    have p' : RPost X Wx io v0 σ C H F (match ρ[i]? with
      | some (some _) => (evs os ρ).bind fun ts ρ2 => .ok (.r i :: ts) ρ2
      | _ => .stuck) _ := p
    cases e : ρ[i]? with
    | none => rw [e] at p'; exact p'.elim
    | some x =>
      cases x with
      | none => rw [e] at p'; exact p'.elim
      | some w =>
        rw [e] at p'
        obtain ⟨v, _, hv, _, _⟩ := s.env.at e
        refine ⟨v, hv, ρ, C, F, s, (RPost.of_bind p').imp fun ts ρ2 _ q2 => fun vs C2 H2 G2 F2 t2 => ?_⟩
        have q2' : ∀ vs C' H' G F', ToT X.K io v0 C H F (.r i :: ts) vs ρ2 σ C' H' G F' → Q vs H' := q2
        exact q2' (v :: vs) C2 H2 G2 F2 ⟨t2.to, t2.newv, t2.dis, .r hv t2.own⟩
theorem va_nil : VA X Wx io v0 [] [] := pa_mono pa_nil fun σ H Q h => tAs_nil h
theorem va_cons (he : VO X Wx io v0 e o) (hr : VA X Wx io v0 es os) (hs : starEach (e :: es) X.env = (false, eval e X.env) :: starEach es X.env := by rfl) : VA X Wx io v0 (e :: es) (o :: os) :=
  pa_mono (pa_cons he hr hs) fun σ H Q h => tAs_cons h
theorem vo_val {f : Env → R W} (h : VE X Wx io v0 e f) : VO X Wx io v0 e (.val f) := h
theorem vo_bor (i : Nat) {x : Str} {pos : Pos} (hN : X.N[i]? = some x := by rfl) (hv : Vis X.env.scope x := by first | exact Or.inl rfl | exact Or.inr (Or.inl rfl) | exact Or.inr (Or.inr rfl)) (hd : (x == ("__debug__" : Str)) = false := by decide)
    (hcd : (x == ("__classdict__" : Str)) = false := by decide) : VO X Wx io v0 (.Name x pos) (.bor i) := pe_var hN hv hd hcd
/-! ### operations by values -/
def prim (P : List W → Option W) (os : List Opd) : Env → R W := fun ρ => (evs os ρ).bind fun ts ρ' => match rds ρ' ts with
  | some ws => (match P ws with
    | some w => .ok w ρ'
    | none => .stuck)
  | none => .stuck
/-- r does what P says, whatever the heap -/
def PrimOk (K : PySem.W.Frag) (r : List V → Hp → VK → Prop) (P : List W → Option W) : Prop :=
  ∀ (C H : Hp) (ws : List W) (vs : List V) (w : W) (Q : VK), Same C H → OwnL K C H ws vs → P ws = some w → (∀ v C' H' G, Step C H Foot.none C' H' → New H Foot.none G → Same C' H' → Own K C' H' w v G → Q v H') → r vs H Q
theorem prim_of {P : List W → Option W} {r : List V → Hp → VK → Prop} (hp : PrimOk X.K r P) {Q : VK} (h : tW X Wx io v0 (prim P os) σ H Q) : tAs X Wx io v0 os σ H fun vs H1 => r vs H1 Q := by
  obtain ⟨ρ, C, F, s, p⟩ := h
  refine ⟨ρ, C, F, s, (RPost.of_bind p).imp fun ts ρ' _ q => fun vs C1 H1 G F1 t => ?_⟩
  cases e : rds ρ' ts with
  | none => simp only [e] at q; exact q.elim
  | some ws =>
    cases e2 : P ws with
    | none => simp only [e, e2] at q; exact q.elim
    | some w =>
      simp only [e, e2] at q
      have q' : ∀ v C' H' G F', ToV X.K io v0 C H F w v ρ' σ C' H' G F' → Q v H' := q
      refine hp C1 H1 ws vs w Q t.to.st.sub (t.own.all t.to.st.env e) e2 fun v C2 H2 G2 st nw sb ow => ?_
      refine q' v C2 H2 G2 F1 ⟨⟨t.to.step.trans (st.mono fun a z => z.elim) t.to.new, t.to.new, t.to.st.carry st (fun _ _ z => z.elim) sb⟩, ?_, ?_, ow⟩
      · exact New.trans (F1 := Foot.none) t.to.step New.zero nw
      · intro a h z
        rcases nw a h with y | y
        · exact y
        · exact (t.to.st.env.foot z).1 y
/-- .. for two operands of an operator -/
theorem ve_op2 {a b : Expr} {oa ob : Opd} {op : Operator} {pos : Pos} {r : R2} {P : List W → Option W} (ho : OpR X (binaryOp op) r) (hp : PrimOk X.K (fun vs H Q => ∃ x y, vs = [x, y] ∧ r x y H Q) P) (ha : VO X Wx io v0 a oa) (hb : VO X Wx io v0 b ob) :
    VE X Wx io v0 (.BinOp a op b pos) (prim P [oa, ob]) := by
  refine pe_mono (pe_op ho ha hb) fun σ H Q h => ?_
  have h1 := tAs_cons (prim_of hp h)
  refine (?_ : ∀ {o : Opd} {σ H} {Q Q' : VK}, (∀ v H, Q v H → Q' v H) → tO X Wx io v0 o σ H Q → tO X Wx io v0 o σ H Q') ?_ h1
  · intro o σ H Q Q' m q
    cases o with
    | val f =>
      obtain ⟨ρ, C, F, s, p⟩ := q
      exact ⟨ρ, C, F, s, p.imp fun w ρ' _ k v C' H' G F' t => m _ _ (k v C' H' G F' t)⟩
    | bor i =>
      obtain ⟨v, e, q⟩ := q
      exact ⟨v, e, m _ _ q⟩
  · intro x H1 q
    have q2 := tAs_cons q
    refine (?_ : ∀ {o : Opd} {σ H} {Q Q' : VK}, (∀ v H, Q v H → Q' v H) → tO X Wx io v0 o σ H Q → tO X Wx io v0 o σ H Q') ?_ q2
    · intro o σ H Q Q' m q
      cases o with
      | val f =>
        obtain ⟨ρ, C, F, s, p⟩ := q
        exact ⟨ρ, C, F, s, p.imp fun w ρ' _ k v C' H' G F' t => m _ _ (k v C' H' G F' t)⟩
      | bor i =>
        obtain ⟨v, e, q⟩ := q
        exact ⟨v, e, m _ _ q⟩
    · intro y H2 q3
      obtain ⟨x', y', e, h⟩ := tAs_nil q3
      cases e
      exact h
end
end VL
set_option maxHeartbeats 2000000
namespace VL
open PySem PySem.Spec PyProof.Rows L2
section
variable {K : PySem.W.Frag} {C H : Hp} {v : V} {w : W} {F : Foot} {d : PyData} {ws : List W} {vs xs : List V} {ds : List PyData} {Q : VK}
theorem own_c (o : Own K C H (.c d) v F) : Rep K C v d := by cases o with | c r _ => exact r
theorem rep_int {i : Int} (r : Rep K C v (.int i)) : v = .int i := by cases r; rfl
theorem rep_str {i : Str} (r : Rep K C v (.str i)) : v = .str i := by cases r; rfl
theorem rep_bl {i : Bool} (r : Rep K C v (.bool i)) : v = .bl i := by cases r; rfl
theorem rep_non (r : Rep K C v .none) : v = .non := by cases r; rfl
theorem rep_tup' (r : Rep K C v (.tuple ds)) : ∃ a xs, v = .ref a ∧ C a = some (.tup xs) ∧ RepAll K C xs ds := by cases r with | tup a b => exact ⟨_, _, rfl, a, b⟩
theorem rep_tup (r : Rep K C v (.tuple ds)) : ∃ a xs, v = .ref a ∧ SqT K C a xs ∧ RepAll K C xs ds := by cases r with | tup a b => exact ⟨_, _, rfl, SqT.of a, b⟩
theorem rep_lst (r : Rep K C v (.list ds)) : ∃ a xs, v = .ref a ∧ Rd C a (.lst xs) ∧ RepAll K C xs ds := by cases r with | lst a b => exact ⟨_, _, rfl, a, b⟩
def colds : List W → Option (List PyData)
  | [] => some []
  | .c d :: ws => (colds ws).map (d :: ·)
  | _ :: _ => none
theorem colds_c : ∀ ds : List PyData, colds (ds.map .c) = some ds
  | [] => rfl
  | d :: ds => by
    show (colds (ds.map .c)).map (d :: ·) = _
    rw [colds_c ds]; rfl
theorem colds_eq : ∀ {ws : List W} {ds : List PyData}, colds ws = some ds → ws = ds.map .c
  | [], _, h => by simp only [colds, Option.some.injEq] at h; subst h; rfl
  | .c d :: ws, ds, h => by
    simp only [colds] at h
    cases e : colds ws with
    | none => rw [e] at h; cases h
    | some es => rw [e] at h; simp only [Option.map_some, Option.some.injEq] at h; subst h; rw [colds_eq e]; rfl
  | .l _ :: _, _, h => by simp only [colds] at h; cases h
  | .dk _ :: _, _, h => by simp only [colds] at h; cases h
  | .dt _ :: _, _, h => by simp only [colds] at h; cases h
theorem own_colds : ∀ {ds : List PyData} {vs : List V} {F : Foot}, OwnAll K C H (ds.map .c) vs F → RepAll K C vs ds
  | [], _, _, o => by cases o; exact .nil
  | d :: ds, _, _, o => by
    have o' : OwnAll K C H (.c d :: ds.map .c) _ _ := o
    cases o' with
    | cons a b _ _ => exact .cons (own_c a) (own_colds b)
theorem colds_own : ∀ {ds : List PyData} {vs : List V}, RepAll K C vs ds → OwnAll K C H (ds.map .c) vs Foot.none
  | _, _, .nil => .nil fun _ z => z
  | _, _, .cons (ds := ds) r t => by
    show OwnAll K C H (.c _ :: ds.map .c) _ _
    exact .cons (.c (F := Foot.none) r fun _ z => z) (colds_own t) (fun _ z => z.elim) fun a => ⟨fun z => z.elim, fun z => z.elim id id⟩
def litems : W → Option (List PyData)
  | .c (.list ds) => some ds
  | .l ws => colds ws
  | _ => none
def titems : W → Option (List PyData)
  | .c (.tuple ds) => some ds
  | _ => none
def sitems (w : W) : Option (List PyData) := match litems w with
  | some ds => some ds
  | none => titems w
theorem litems_ok (o : Own K C H w v F) (s : Same C H) (e : litems w = some ds) : ∃ a xs, v = .ref a ∧ Rd H a (.lst xs) ∧ RepAll K C xs ds := by
  cases w with
  | c d =>
    cases d with
    | list es =>
      simp only [litems, Option.some.injEq] at e
      subst e
      obtain ⟨a, xs, rfl, h1, h2⟩ := rep_lst (own_c o)
      exact ⟨a, xs, rfl, same_rd s h1, h2⟩
    | _ => simp [litems] at e
  | l ws =>
    cases o with
    | l x c t n q =>
      have e' : colds ws = some ds := e
      have e2 := colds_eq e'
      subst e2
      exact ⟨_, _, rfl, Rd.of x, own_colds t⟩
  | _ => simp [litems] at e
theorem titems_ok (o : Own K C H w v F) (e : titems w = some ds) : ∃ a xs, v = .ref a ∧ SqT K C a xs ∧ RepAll K C xs ds := by
  cases w with
  | c d =>
    cases d with
    | tuple es =>
      simp only [titems, Option.some.injEq] at e
      subst e
      exact rep_tup (own_c o)
    | _ => simp [titems] at e
  | _ => simp [titems] at e
/-- ends of operations -/
theorem end_sc (s : Same C H) (q : ∀ v C' H' G, Step C H Foot.none C' H' → New H Foot.none G → Same C' H' → Own K C' H' (.c d) v G → Q v H') (r : Rep K C v d) : Q v H :=
  q v C H Foot.none (Step.refl _) New.zero s (.c r fun _ z => z)
theorem free_sub (s : Same C H) {p : Addr} (h : H p = none) : C p = none := s.free h
theorem end_l (s : Same C H) (q : ∀ v C' H' G, Step C H Foot.none C' H' → New H Foot.none G → Same C' H' → Own K C' H' (.l (ds.map .c)) v G → Q v H') (r : RepAll K C xs ds) {p : Addr} (h : H p = none) : Q (.ref p) (upd H p (.lst xs)) := by
  have hc := free_sub s h
  have s2 : Same H (upd H p (.lst xs)) := fun b x e => by rw [upd_ne (ne_of_none e h)]; exact e
  exact q (.ref p) C _ (fun a => a = p) ⟨Same.refl C, fun a o e _ => s2 a o e, fun a z => .inl z⟩ (fun a z => .inr (by rw [z]; exact h)) (s.trans s2)
    (.l upd_same hc (colds_own r) (fun z => z) fun a => ⟨fun z => .inl z, fun z => z.elim id fun z => z.elim⟩)
theorem end_t (s : Same C H) (q : ∀ v C' H' G, Step C H Foot.none C' H' → New H Foot.none G → Same C' H' → Own K C' H' (.c (.tuple ds)) v G → Q v H') (r : RepAll K C xs ds) {p : Addr} (h : H p = none) : Q (.ref p) (upd H p (.tup xs)) := by
  have hc := free_sub s h
  have s1 : Same C (upd C p (.tup xs)) := fun b x e => by rw [upd_ne (ne_of_none e hc)]; exact e
  refine q (.ref p) (upd C p (.tup xs)) _ Foot.none ⟨s1, fun a o e _ => by rw [upd_ne (ne_of_none e h)]; exact e, fun a z => ?_⟩ New.zero (fun b x e => ?_) (.c (.tup upd_same (r.mono s1)) fun _ z => z)
  · by_cases ha : a = p
    · subst ha; exact .inr (.inr h)
    · rw [upd_ne ha] at z; exact .inl z
  · by_cases hb : b = p
    · subst hb; rw [upd_same] at e ⊢; exact e
    · rw [upd_ne hb] at e ⊢; exact s b x e
/-- two, one -/
theorem ownL1 {a : W} (o : OwnL K C H [a] vs) : ∃ v F, vs = [v] ∧ Own K C H a v F := by
  cases o with
  | cons o t => cases t; exact ⟨_, _, rfl, o⟩
theorem ownL2 {a b : W} (o : OwnL K C H [a, b] vs) : ∃ v u F G, vs = [v, u] ∧ Own K C H a v F ∧ Own K C H b u G := by
  cases o with
  | cons o t =>
    obtain ⟨u, G, rfl, o2⟩ := ownL1 t
    exact ⟨_, u, _, G, rfl, o, o2⟩
theorem ownL3 {a b c : W} (o : OwnL K C H [a, b, c] vs) : ∃ v u t F G J, vs = [v, u, t] ∧ Own K C H a v F ∧ Own K C H b u G ∧ Own K C H c t J := by
  cases o with
  | cons o t =>
    obtain ⟨u, x, G, J, rfl, o2, o3⟩ := ownL2 t
    exact ⟨_, u, x, _, G, J, rfl, o, o2, o3⟩
end
def P1 (f : W → Option W) : List W → Option W
  | [a] => f a
  | _ => none
def P2 (f : W → W → Option W) : List W → Option W
  | [a, b] => f a b
  | _ => none
abbrev rr2 (r : R2) : List V → Hp → VK → Prop := fun vs H Q => ∃ x y, vs = [x, y] ∧ r x y H Q
/-- what a two-place operation must do -/
theorem prim2 {K : PySem.W.Frag} {r : R2} {f : W → W → Option W}
    (h : ∀ (C H : Hp) (a b : W) (x y : V) (F G : Foot) (w : W) (Q : VK), Same C H → Own K C H a x F → Own K C H b y G → f a b = some w → (∀ v C' H' G, Step C H Foot.none C' H' → New H Foot.none G → Same C' H' → Own K C' H' w v G → Q v H') → r x y H Q) : PrimOk K (rr2 r) (P2 f) := by
  intro C H ws vs w Q s o e q
  match ws, e with
  | [a, b], e =>
    obtain ⟨x, y, F, G, rfl, o1, o2⟩ := ownL2 o
    exact ⟨x, y, rfl, h C H a b x y F G w Q s o1 o2 e q⟩
theorem prim1 {K : PySem.W.Frag} {r : V → Hp → VK → Prop} {f : W → Option W}
    (h : ∀ (C H : Hp) (a : W) (x : V) (F : Foot) (w : W) (Q : VK), Same C H → Own K C H a x F → f a = some w → (∀ v C' H' G, Step C H Foot.none C' H' → New H Foot.none G → Same C' H' → Own K C' H' w v G → Q v H') → r x H Q) : PrimOk K (fun vs H Q => ∃ x, vs = [x] ∧ r x H Q) (P1 f) := by
  intro C H ws vs w Q s o e q
  match ws, e with
  | [a], e =>
    obtain ⟨x, F, rfl, o1⟩ := ownL1 o
    exact ⟨x, rfl, h C H a x F w Q s o1 e q⟩
/-! ### atoms -/
def kc (d : PyData) : Env → R W := fun ρ => .ok (.c d) ρ
def var (i : Nat) : Env → R W := fun ρ => match ρ[i]? with
  | some (some (.c d)) => .ok (.c d) ρ
  | some (some w) => (match fz w with
    | some d => .ok (.c d) (ρ.set i (some (.c d)))
    | none => .stuck)
  | _ => .stuck
def mov (i : Nat) : Env → R W := fun ρ => match ρ[i]? with
  | some (some (.c d)) => .ok (.c d) ρ
  | some (some w) => .ok w (ρ.set i none)
  | _ => .stuck
section
variable {X : Cx} {Wx : WX} {io : List Nat} {v0 : L2.St} {e : Expr}
theorem ve_const {v : V} {d : PyData} (h : PE X e (tC v)) (r : ∀ C, Rep X.K C v d) : VE X Wx io v0 e (kc d) := by
  refine pe_mono h fun σ H Q q => ?_
  obtain ⟨ρ, C, F, s, p⟩ := q
  exact p v C H Foot.none F ⟨To.refl s, New.zero, fun _ z => z.elim, .c (r C) fun _ z => z⟩
theorem ve_int {i : Int} {k pos} : VE X Wx io v0 (.Constant (.int i) k pos) (kc (.int i)) := ve_const pe_int fun _ => .int i
theorem ve_bl {i : Bool} {k pos} : VE X Wx io v0 (.Constant (.bool i) k pos) (kc (.bool i)) := ve_const pe_bl fun _ => .bl i
theorem ve_non {k pos} : VE X Wx io v0 (.Constant .none k pos) (kc .none) := ve_const pe_non fun _ => .non
theorem ve_str {x} {k pos} : VE X Wx io v0 (.Constant (.str x) k pos) (kc (.str x)) := ve_const pe_str fun _ => .str x
theorem ve_globI {x : Str} {i : Int} {t : Tok} {pos : Pos} (hg : Gl X x) (hm : X.mg x = some (.int i t)) (hd : (x == ("__debug__" : Str)) = false := by decide) : VE X Wx io v0 (.Name x pos) (kc (.int i)) := ve_const (v := V.int i) (pe_glob hg hm ⟨t, rfl⟩ hd) fun _ => .int i
theorem set_same {ρ : Env} {i : Nat} {o : Option W} (h : ρ[i]? = some o) : ρ.set i o = ρ := by
  apply List.ext_getElem?
  intro j
  by_cases hj : i = j
  · subst hj
    rw [List.getElem?_set_self (List.getElem?_eq_some_iff.mp h).1, h]
  · rw [List.getElem?_set_ne hj]
theorem own_put {K : PySem.W.Frag} {C H : Hp} {ρ : Env} {σ : L2.St} {F G : Foot} {i : Nat} {w : W} {v : V} (t : OwnEnv K C H (ρ.set i none) σ F) (hs : σ[i]? = some (some v)) (o : Own K C H w v G) (d : ∀ a, G a → ¬ F a) :
    ∃ F', OwnEnv K C H (ρ.set i (some w)) σ F' ∧ ∀ a, F' a → F a ∨ G a := by
  obtain ⟨F', h1, h2⟩ := t.put (i := i) o d
  refine ⟨F', ?_, h2⟩
  rw [List.set_set] at h1
  have : σ.set i (some v) = σ := by
    apply List.ext_getElem?
    intro j
    by_cases hj : i = j
    · subst hj
      rw [List.getElem?_set_self (List.getElem?_eq_some_iff.mp hs).1, hs]
    · rw [List.getElem?_set_ne hj]
  rw [this] at h1
  exact h1
theorem ve_var (i : Nat) {x : Str} {pos : Pos} (hN : X.N[i]? = some x := by rfl) (hv : Vis X.env.scope x := by first | exact Or.inl rfl | exact Or.inr (Or.inl rfl) | exact Or.inr (Or.inr rfl)) (hd : (x == ("__debug__" : Str)) = false := by decide)
    (hcd : (x == ("__classdict__" : Str)) = false := by decide) : VE X Wx io v0 (.Name x pos) (var i) := by
  refine pe_mono (pe_var hN hv hd hcd) fun σ H Q q => ?_
  obtain ⟨ρ, C, F, s, p⟩ := q
  unfold var at p
  cases e : ρ[i]? with
  | none => simp only [e] at p; exact p.elim
  | some x =>
    cases x with
    | none => simp only [e] at p; exact p.elim
    | some w =>
      obtain ⟨v, G, G', hs, ow, en, dj, eq⟩ := s.env.out e
      refine ⟨v, hs, ?_⟩
      have gen : ∀ d, fz w = some d → (∀ v C' H' G F', ToV X.K io v0 C H F (.c d) v (ρ.set i (some (.c d))) σ C' H' G F' → Q v H') → Q v H := fun d hd p => by
        have rp := ow.freeze s.sub hd
        have st : Step C H G (addF C H G) H := addF_step s.sub
        obtain ⟨F', h1, h2⟩ := own_put (en.carry st fun a z y => dj a y z) hs (.c (F := Foot.none) rp fun _ z => z) fun a z => z.elim
        refine p v (addF C H G) H Foot.none F' ⟨⟨st.mono fun a z => (eq a).mpr (.inl z), fun a z => ?_, ⟨h1, addF_sub s.sub, s.fix⟩⟩, New.zero, fun _ z => z.elim, .c rp fun _ z => z⟩
        rcases h2 a z with y | y
        · exact .inl ((eq a).mpr (.inr y))
        · exact y.elim
      cases w with
      | c d =>
        simp only [e] at p
        have p' : ∀ v C' H' G F', ToV X.K io v0 C H F (.c d) v ρ σ C' H' G F' → Q v H' := p
        refine gen d rfl ?_
        rw [set_same e]
        exact p'
      | l ws =>
        simp only [e] at p
        cases hd : fz (.l ws) with
        | none => simp only [hd] at p; exact p.elim
        | some d => simp only [hd] at p; exact gen d hd p
      | dk ws =>
        simp only [e] at p
        cases hd : fz (.dk ws) with
        | none => simp only [hd] at p; exact p.elim
        | some d => simp only [hd] at p; exact gen d hd p
      | dt ws =>
        simp only [e] at p
        cases hd : fz (.dt ws) with
        | none => simp only [hd] at p; exact p.elim
        | some d => simp only [hd] at p; exact gen d hd p
      | x a d g =>
        simp only [e, fz] at p
        exact p.elim
      | ks l ds =>
        simp only [e, fz] at p
        exact p.elim
theorem ve_mov (i : Nat) {x : Str} {pos : Pos} (hN : X.N[i]? = some x := by rfl) (hv : Vis X.env.scope x := by first | exact Or.inl rfl | exact Or.inr (Or.inl rfl) | exact Or.inr (Or.inr rfl)) (hd : (x == ("__debug__" : Str)) = false := by decide)
    (hcd : (x == ("__classdict__" : Str)) = false := by decide) : VE X Wx io v0 (.Name x pos) (mov i) := by
  refine pe_mono (pe_var hN hv hd hcd) fun σ H Q q => ?_
  obtain ⟨ρ, C, F, s, p⟩ := q
  unfold mov at p
  cases e : ρ[i]? with
  | none => simp only [e] at p; exact p.elim
  | some x =>
    cases x with
    | none => simp only [e] at p; exact p.elim
    | some w =>
      obtain ⟨v, G, G', hs, ow, en, dj, eq⟩ := s.env.out e
      refine ⟨v, hs, ?_⟩
      have gen : (∀ v C' H' G F', ToV X.K io v0 C H F w v (ρ.set i none) σ C' H' G F' → Q v H') → Q v H := fun p =>
        p v C H G G' ⟨⟨Step.refl _, fun a z => .inl ((eq a).mpr (.inr z)), ⟨en, s.sub, s.fix⟩⟩, fun a z => .inl ((eq a).mpr (.inl z)), dj, ow⟩
      cases w with
      | c d =>
        simp only [e] at p
        have p' : ∀ v C' H' G F', ToV X.K io v0 C H F (.c d) v ρ σ C' H' G F' → Q v H' := p
        exact p' v C H Foot.none F ⟨To.refl s, New.zero, fun _ z => z.elim, .c (own_c ow) fun _ z => z⟩
      | l ws => simp only [e] at p; exact gen p
      | dk ws => simp only [e] at p; exact gen p
      | dt ws => simp only [e] at p; exact gen p
      | x a d g => simp only [e] at p; exact gen p
      | ks l ds => simp only [e] at p; exact gen p
end
/-! ### + -/
def rCatR : R2 := fun x y H Q => ∃ l b xs zs, x = .ref l ∧ y = .ref b ∧ Rd H l (.lst xs) ∧ Rd H b (.lst zs) ∧ xs.length + zs.length ≤ sizeLine ∧ ∀ p, H p = none → Q (.ref p) (upd H p (.lst (xs ++ zs)))
theorem lstR {X : Cx} {pins : List (Addr × Obj)} {σ : L2.St} {H : Hp} {s : Shared} {l : Addr} {xs : List V} (I : Inv X pins σ H s) (hH : Rd H l (.lst xs)) : xs.length ≤ sizeLine ∧ ∃ (its : List Value) (n : Nat), Vals xs its ∧ xs.length = its.length ∧ s.heap.get? l = some { cls := .type "list", data := .seq its.toArray n } := by
  obtain ⟨z, its, n, r, e⟩ := hH.ok I.hok
  exact ⟨z, its, n, r, r.length, e⟩
theorem op_catR {X : Cx} : OpR X (binaryOp .Add) rCatR := by
  intro pins s σ H x y v u Q I rx ry h
  obtain ⟨l, b, xs, zs, rfl, rfl, hH, hB, hz, q⟩ := h
  cases rx
  cases ry
  obtain ⟨z, its, n, r, hl, e⟩ := lstR I hH
  obtain ⟨z2, its2, n2, r2, hl2, e2⟩ := lstR I hB
  refine PySem.P.add_list e e2 ?_ (by rw [List.size_toArray, List.size_toArray]; omega)
  have ea : its.toArray ++ its2.toArray = (its ++ its2).toArray := by simp
  rw [ea]
  exact ⟨.ref _, _, I.lnew (t' := s.toks) (r.append r2) (by rw [List.length_append]; omega), rfl, q _ I.fresh⟩
def addF2 : W → W → Option W
  | .c (.int i), .c (.int j) => some (.c (.int (i + j)))
  | .c (.str a), .c (.str b) => if a.length + b.length ≤ sizeLine then some (.c (.str (a ++ b))) else none
  | .c (.tuple a), .c (.tuple b) => if a.length + b.length ≤ sizeLine then some (.c (.tuple (a ++ b))) else none
  | a, b => match litems a, litems b with
    | some xs, some ys => if xs.length + ys.length ≤ sizeLine then some (.l ((xs ++ ys).map .c)) else none
    | _, _ => none
def rAddA (K : PySem.W.Frag) : R2 := fun x y H Q => rI0 (fun i j => .int (i + j)) x y H Q ∨ ((∃ i j, x = .str i ∧ y = .str j ∧ i.length + j.length ≤ sizeLine ∧ Q (.str (i ++ j)) H) ∨ (rCatA K x y H Q ∨ rCatR x y H Q))
theorem op_addA {X : Cx} : OpR X (binaryOp .Add) (rAddA X.K) := op_add.or (op_add_str.or (op_catA.or op_catR))
theorem add_ok {K : PySem.W.Frag} : PrimOk K (rr2 (rAddA K)) (P2 addF2) := prim2 fun C H a b x y F G w Q s oa ob e q => by
  have lists : ∀ xs ys : List PyData, litems a = some xs → litems b = some ys → (if xs.length + ys.length ≤ sizeLine then some (W.l ((xs ++ ys).map .c)) else none) = some w → rAddA K x y H Q := fun xs ys h1 h2 h3 => by
    obtain ⟨p, us, rfl, r1, t1⟩ := litems_ok oa s h1
    obtain ⟨p', us', rfl, r2, t2⟩ := litems_ok ob s h2
    split at h3
    · rename_i hz
      cases h3
      exact .inr (.inr (.inr ⟨p, p', us, us', rfl, rfl, r1, r2, by rw [t1.length, t2.length]; exact hz, fun l hl => end_l s q (t1.append t2) hl⟩))
    · cases h3
  unfold addF2 at e
  split at e
  · cases e
    have e1 := rep_int (own_c oa)
    have e2 := rep_int (own_c ob)
    subst e1 e2
    exact .inl ⟨_, _, rfl, rfl, end_sc s q (.int _)⟩
  · split at e
    · cases e
      have e1 := rep_str (own_c oa)
      have e2 := rep_str (own_c ob)
      subst e1 e2
      exact .inr (.inl ⟨_, _, rfl, rfl, by assumption, end_sc s q (.str _)⟩)
    · cases e
  · split at e
    · rename_i hz
      cases e
      obtain ⟨p, us, rfl, r1, t1⟩ := rep_tup' (own_c oa)
      obtain ⟨p', us', rfl, r2, t2⟩ := rep_tup' (own_c ob)
      refine .inr (.inr (.inl ⟨p, p', us, us', rfl, rfl, same_t s (SqT.of r1), same_t s (SqT.of r2), by rw [t1.length, t2.length]; exact hz, fun h => ?_, fun h1 h2 => ?_, fun _ _ l hl => end_t s q (t1.append t2) hl⟩))
      · subst h
        cases t1
        exact end_sc s q (.tup r2 t2)
      · subst h2
        cases t2
        rw [List.append_nil] at q
        exact end_sc s q (.tup r1 t1)
    · cases e
  · split at e
    · exact lists _ _ (by assumption) (by assumption) e
    · cases e
/-! ### -, *, //, %, ** -/
def subF2 : W → W → Option W
  | .c (.int i), .c (.int j) => some (.c (.int (i - j)))
  | _, _ => none
theorem sub_ok {K : PySem.W.Frag} : PrimOk K (rr2 (rI0 fun i j => .int (i - j))) (P2 subF2) := prim2 fun C H a b x y F G w Q s oa ob e q => by
  unfold subF2 at e
  split at e
  · cases e
    have e1 := rep_int (own_c oa)
    have e2 := rep_int (own_c ob)
    subst e1 e2
    exact ⟨_, _, rfl, rfl, end_sc s q (.int _)⟩
  · cases e
def modF2 : W → W → Option W
  | .c (.int i), .c (.int j) => if j ≠ 0 then some (.c (.int (i.fmod j))) else none
  | _, _ => none
theorem mod_ok {K : PySem.W.Frag} : PrimOk K (rr2 (rI (fun _ j => j ≠ 0) fun i j => .int (i.fmod j))) (P2 modF2) := prim2 fun C H a b x y F G w Q s oa ob e q => by
  unfold modF2 at e
  split at e
  · split at e
    · cases e
      have e1 := rep_int (own_c oa)
      have e2 := rep_int (own_c ob)
      subst e1 e2
      exact ⟨_, _, rfl, rfl, by assumption, end_sc s q (.int _)⟩
    · cases e
  · cases e
def CDivA (i j : Int) : Prop := (j ≠ 0 ∧ j.natAbs < 1073741824) ∨ (0 < j ∧ j.natAbs.log2 < 9000)
instance (i j : Int) : Decidable (CDivA i j) := by unfold CDivA; infer_instance
theorem op_fdivA {X : Cx} : OpR X (binaryOp .FloorDiv) (rI CDivA fun i j => .int (i.fdiv j)) := opI fun i j _ _ _ _ _ hc q => by
  rcases hc with hc | hc
  · exact floordiv_int hc.1 q (.inl (PyProof.noPylong_small hc.2))
  · exact floordiv_int (by omega) q (.inl (PyProof.noPylong_of_log2 hc.2))
def fdivF2 : W → W → Option W
  | .c (.int i), .c (.int j) => if CDivA i j then some (.c (.int (i.fdiv j))) else none
  | _, _ => none
theorem fdiv_ok {K : PySem.W.Frag} : PrimOk K (rr2 (rI CDivA fun i j => .int (i.fdiv j))) (P2 fdivF2) := prim2 fun C H a b x y F G w Q s oa ob e q => by
  unfold fdivF2 at e
  split at e
  · split at e
    · cases e
      have e1 := rep_int (own_c oa)
      have e2 := rep_int (own_c ob)
      subst e1 e2
      exact ⟨_, _, rfl, rfl, by assumption, end_sc s q (.int _)⟩
    · cases e
  · cases e
instance (i j : Int) : Decidable (CPow i j) := by unfold CPow; infer_instance
def powF2 : W → W → Option W
  | .c (.int i), .c (.int j) => if CPow i j then some (.c (.int (i ^ j.toNat))) else none
  | _, _ => none
theorem pow_ok {K : PySem.W.Frag} : PrimOk K (rr2 (rI CPow fun i j => .int (i ^ j.toNat))) (P2 powF2) := prim2 fun C H a b x y F G w Q s oa ob e q => by
  unfold powF2 at e
  split at e
  · split at e
    · cases e
      have e1 := rep_int (own_c oa)
      have e2 := rep_int (own_c ob)
      subst e1 e2
      exact ⟨_, _, rfl, rfl, by assumption, end_sc s q (.int _)⟩
    · cases e
  · cases e
def CMulA (i j : Int) : Prop := (i.natAbs < 2 ^ 64 ∨ j.natAbs < 2 ^ 64) ∨ i.natAbs.log2 + j.natAbs.log2 < 1000000
instance (i j : Int) : Decidable (CMulA i j) := by unfold CMulA; infer_instance
theorem op_mulA {X : Cx} : OpR X (binaryOp .Mult) (rI CMulA fun i j => .int (i * j)) := opI fun i j _ _ _ _ _ hc q => by
  rcases hc with hc | hc
  · refine mul_int q (CMul.ok ?_)
    rcases hc with hc | hc
    · exact .inl ⟨by omega, by omega⟩
    · exact .inr ⟨by omega, by omega⟩
  · exact mul_int q (CMulW.ok hc)
def rRepR : R2 := fun x y H Q => ∃ l k xs, x = .ref l ∧ y = .int k ∧ Rd H l (.lst xs) ∧ -(2 ^ 63) ≤ k ∧ k < 2 ^ 63 ∧ xs.length * k.toNat ≤ sizeLine ∧
  ∀ p, H p = none → Q (.ref p) (upd H p (.lst (List.replicate k.toNat xs).flatten))
theorem op_repR {X : Cx} : OpR X (binaryOp .Mult) rRepR := by
  intro pins s σ H x y v u Q I rx ry h
  obtain ⟨l, k, xs, rfl, rfl, hH, h1, h2, hz, q⟩ := h
  cases rx
  obtain ⟨t, rfl⟩ := ry
  obtain ⟨z, its, n, r, hl, e⟩ := lstR I hH
  have hlen : its.toArray.size * k.toNat ≤ sizeLine := by rw [List.size_toArray, ← hl]; exact hz
  have hcap : ¬ its.toArray.size * k.toNat > (2 ^ 63 - 1) / 8 := by
    have : (sizeLine : Nat) ≤ (2 ^ 63 - 1) / 8 := by decide
    omega
  have hfit : ¬ (!Builtin.List.listFitsIndex k) = true := by
    rw [fitsIndex_both h1 h2]
    exact Bool.false_ne_true
  have hlong : ¬ Builtin.List.listTooLong (its.toArray.size * k.toNat) = true := by
    rw [notLongL hlen]
    exact Bool.false_ne_true
  have hnew : List.foldl (fun x1 x2 => x1 ++ x2) #[] (List.replicate (if its.toArray.isEmpty = true then 0 else k.toNat) its.toArray) = (List.replicate k.toNat its).flatten.toArray := by
    have f0 : ∀ m : Nat, List.foldl (fun x1 x2 => x1 ++ x2) #[] (List.replicate m its.toArray) = (List.replicate m its).flatten.toArray := fun m => by
      have := foldl_rep its m []
      rw [List.nil_append] at this
      exact this
    rw [f0]
    cases its with
    | nil => simp
    | cons a r' => rw [if_neg (by simp)]
  refine wpAny_binaryOp_repeat_ref (T := "list") (U := "int") (by decide) ⟨_, e, rfl⟩ (fun s' => typeIs_int s' k t) noFill_list_mul F.fills_int_mul F.slot_int_rmul repeat_list F.slot_int_index.lookup
    (call_meets F.slot_int_rmul (typeIs_int s k t) F.entry_int_rmul (F.args_int_rmul_2 _ _) (int___rmul___int_list k t l its.toArray n)
      ⟨e, rfl, ⟨_, e, rfl⟩, call_meets F.slot_list_mul ⟨_, e, rfl⟩ F.entry_list_mul (F.args_list_mul_2 _ _) (AutoListH.list___mul___list_int_3 l its.toArray n k t hfit hcap hlong) ⟨e, ?_⟩⟩)
  rw [hnew]
  exact ⟨.ref _, _, I.lnew (t' := s.toks) (r.rep k.toNat) (by rw [PyProof.Rows.lm_len_rep_flat, Nat.mul_comm]; exact hz), rfl, q _ I.fresh⟩
end VL
set_option maxHeartbeats 4000000
namespace VL
open PySem PySem.Spec PyProof.Rows L2
theorem tuple_mulSame (l : Addr) (items : Array Value) (n : Nat) (dd : Option Addr) (sl : Array (Option Value)) (x : Int) (u : Tok) (c0 : (decide (x < -(2 ^ 63)) || decide (x ≥ 2 ^ 63)) = false) (c1 : (items.isEmpty || x == 1) = true) :
    Meets (Builtin.«tuple.__mul__» ⟨[.ref l, .int x u], []⟩) (fun _ R s => s.heap.get? l = some { cls := .type "tuple", dict := dd, data := .seq items n, slots := sl } ∧
      R (.ok (.ret (Value.ref l))) s) :=
  .of_wp fun prog w A R s h => by
    obtain ⟨hp, g, d, tk, os⟩ := s
    obtain ⟨hl, h⟩ := h
    have f1 := AutoSeq1.idx_int
    wp_walk using wpAny_loadPart' hl
    repeat (first
      | (refine wpAny_ite_false (decide_eq_false (by rw [c0]; exact Bool.false_ne_true)) ?_; wp_walk using wpAny_loadPart' hl)
      | (refine wpAny_ite_true (decide_eq_true (by rw [c1])) ?_; wp_walk using wpAny_loadPart' hl))
    exact ⟨_, rfl, h⟩
theorem tuple_mulNone (l : Addr) (items : Array Value) (n : Nat) (dd : Option Addr) (sl : Array (Option Value)) (x : Int) (u : Tok) (c0 : (decide (x < -(2 ^ 63)) || decide (x ≥ 2 ^ 63)) = false) (c1 : (items.isEmpty || x == 1) = false) (c2 : (decide (x ≤ 0) || items.isEmpty) = true) :
    Meets (Builtin.«tuple.__mul__» ⟨[.ref l, .int x u], []⟩) (fun _ R s => s.heap.get? l = some { cls := .type "tuple", dict := dd, data := .seq items n, slots := sl } ∧
      R (.ok (.ret (Value.ref s.heap.objs.size))) { s with heap := s.heap.push { cls := Value.type "tuple", data := Data.seq #[] }, toks := s.toks }) :=
  .of_wp fun prog w A R s h => by
    obtain ⟨hp, g, d, tk, os⟩ := s
    obtain ⟨hl, h⟩ := h
    have f1 := AutoSeq1.idx_int
    wp_walk using wpAny_loadPart' hl
    repeat (first
      | (refine wpAny_ite_false (decide_eq_false (by rw [c0]; exact Bool.false_ne_true)) ?_; wp_walk using wpAny_loadPart' hl)
      | (refine wpAny_ite_false (decide_eq_false (by rw [c1]; exact Bool.false_ne_true)) ?_; wp_walk using wpAny_loadPart' hl)
      | (refine wpAny_ite_true (decide_eq_true (by rw [c2])) ?_; wp_walk using wpAny_loadPart' hl))
    exact ⟨_, rfl, h⟩
/-- tuple * int -/
def rRepA (K : PySem.W.Frag) : R2 := fun x y H Q => ∃ l k xs, x = .ref l ∧ y = .int k ∧ SqT K H l xs ∧ -1000 ≤ k ∧ k ≤ 1000 ∧ xs.length ≤ 1000 ∧
  (xs = [] ∨ k = 1 → Q (.ref l) H) ∧ (¬ (xs = [] ∨ k = 1) → ∀ p, H p = none → Q (.ref p) (upd H p (.tup (List.replicate k.toNat xs).flatten)))
theorem op_repA {X : Cx} : OpR X (binaryOp .Mult) (rRepA X.K) := by
  intro pins s σ H x y v u Q I rx ry h
  obtain ⟨l, k, xs, rfl, rfl, hT, h1, h2, hz, q1, q2⟩ := h
  by_cases hk : xs = [] ∨ k = 1
  · cases rx
    obtain ⟨t, rfl⟩ := ry
    obtain ⟨its, r, ⟨⟨cls, dd, data, sl⟩, ho, hc, n, hd⟩, hs⟩ := I.tuple hT
    simp only at hc hd
    subst hc hd
    have c0 : (decide (k < -(2 ^ 63)) || decide (k ≥ 2 ^ 63)) = false := by
      rw [decide_eq_false (by omega), decide_eq_false (by omega)] <;> rfl
    have c1 : (its.toArray.isEmpty || k == 1) = true := by
      rcases hk with rfl | rfl
      · cases r; rfl
      · simp
    refine wpAny_binaryOp_repeat_ref (T := "tuple") (U := "int") (by decide) ⟨_, ho, rfl⟩ (fun s' => typeIs_int s' k t) noFill_tuple_mul F.fills_int_mul F.slot_int_rmul repeat_tuple F.slot_int_index.lookup
      (call_meets F.slot_int_rmul (typeIs_int s k t) F.entry_int_rmul (F.args_int_rmul_2 _ _) (int_rmul_tuple k t l its.toArray n dd sl)
        ⟨ho, rfl, ⟨_, ho, rfl⟩, call_meets F.slot_tuple_mul ⟨_, ho, rfl⟩ F.entry_tuple_mul (F.args_tuple_mul_2 _ _) (tuple_mulSame l its.toArray n dd sl k t c0 c1) ⟨ho, ?_⟩⟩)
    exact ⟨.ref l, H, I, rfl, q1 hk⟩
  · by_cases hk0 : k ≤ 0
    · cases rx
      obtain ⟨t, rfl⟩ := ry
      obtain ⟨its, r, ⟨⟨cls, dd, data, sl⟩, ho, hc, n, hd⟩, hs⟩ := I.tuple hT
      simp only at hc hd
      subst hc hd
      have c0 : (decide (k < -(2 ^ 63)) || decide (k ≥ 2 ^ 63)) = false := by
        rw [decide_eq_false (by omega), decide_eq_false (by omega)] <;> rfl
      have hi : its.toArray.isEmpty = false := by
        cases its with
        | nil => cases r; exact (hk (.inl rfl)).elim
        | cons a b => rfl
      have c1 : (its.toArray.isEmpty || k == 1) = false := by
        rw [hi, Bool.false_or]
        exact beq_eq_false_iff_ne.mpr (by omega)
      have c2 : (decide (k ≤ 0) || its.toArray.isEmpty) = true := by
        rw [decide_eq_true hk0]; rfl
      refine wpAny_binaryOp_repeat_ref (T := "tuple") (U := "int") (by decide) ⟨_, ho, rfl⟩ (fun s' => typeIs_int s' k t) noFill_tuple_mul F.fills_int_mul F.slot_int_rmul repeat_tuple F.slot_int_index.lookup
        (call_meets F.slot_int_rmul (typeIs_int s k t) F.entry_int_rmul (F.args_int_rmul_2 _ _) (int_rmul_tuple k t l its.toArray n dd sl)
          ⟨ho, rfl, ⟨_, ho, rfl⟩, call_meets F.slot_tuple_mul ⟨_, ho, rfl⟩ F.entry_tuple_mul (F.args_tuple_mul_2 _ _) (tuple_mulNone l its.toArray n dd sl k t c0 c1 c2) ⟨ho, ?_⟩⟩)
      have q := q2 hk
      have e0 : k.toNat = 0 := by omega
      rw [e0] at q
      refine ⟨.ref s.heap.objs.size, _, I.laid (t' := s.toks) (o := .tup []) (fun b ob q => Heap.get?_push_of_some _ q) (Nat.le_refl _) ?_, rfl, q _ (I.hok.fresh (Nat.le_refl _))⟩
      exact ⟨Nat.zero_le _, [], .nil, IsTup.new _ _⟩
    · exact op_repT pins s σ H _ _ v u Q I rx ry ⟨l, k, xs, rfl, rfl, hT, fun e => hk (.inl e), by omega, h2, hz, q2 hk⟩
def mulF2 : W → W → Option W
  | .c (.int i), .c (.int j) => if CMulA i j then some (.c (.int (i * j))) else none
  | .c (.tuple ds), .c (.int k) => if -1000 ≤ k ∧ k ≤ 1000 ∧ ds.length ≤ 1000 then some (.c (.tuple (List.replicate k.toNat ds).flatten)) else none
  | a, .c (.int k) => match litems a with
    | some ds => if -(2 ^ 63) ≤ k ∧ k < 2 ^ 63 ∧ ds.length * k.toNat ≤ sizeLine then some (.l ((List.replicate k.toNat ds).flatten.map .c)) else none
    | none => none
  | _, _ => none
def rMulA (K : PySem.W.Frag) : R2 := fun x y H Q => rI CMulA (fun i j => .int (i * j)) x y H Q ∨ (rRepA K x y H Q ∨ rRepR x y H Q)
theorem op_mulAA {X : Cx} : OpR X (binaryOp .Mult) (rMulA X.K) := op_mulA.or (op_repA.or op_repR)
theorem RepAll.rep {K : PySem.W.Frag} {C : Hp} {xs : List V} {ds : List PyData} (t : RepAll K C xs ds) : ∀ n, RepAll K C (List.replicate n xs).flatten (List.replicate n ds).flatten
  | 0 => .nil
  | n + 1 => by
    rw [List.replicate_succ, List.replicate_succ, List.flatten_cons, List.flatten_cons]
    exact t.append (t.rep n)
theorem mul_ok {K : PySem.W.Frag} : PrimOk K (rr2 (rMulA K)) (P2 mulF2) := prim2 fun C H a b x y F G w Q s oa ob e q => by
  unfold mulF2 at e
  split at e
  · split at e
    · cases e
      have e1 := rep_int (own_c oa)
      have e2 := rep_int (own_c ob)
      subst e1 e2
      exact .inl ⟨_, _, rfl, rfl, by assumption, end_sc s q (.int _)⟩
    · cases e
  · split at e
    · rename_i hz
      cases e
      obtain ⟨p, us, rfl, r1, t1⟩ := rep_tup' (own_c oa)
      have e2 := rep_int (own_c ob)
      subst e2
      refine .inr (.inl ⟨p, _, us, rfl, rfl, same_t s (SqT.of r1), hz.1, hz.2.1, by rw [t1.length]; exact hz.2.2, fun h => ?_, fun h l hl => end_t s q (t1.rep _) hl⟩)
      rcases h with rfl | rfl
      · cases t1
        rw [(fun m => by simp : ∀ m, (List.replicate m ([] : List PyData)).flatten = [])] at q
        exact end_sc s q (.tup r1 .nil)
      · rw [(fun l => by show (List.replicate 1 l).flatten = l; simp : ∀ l : List PyData, (List.replicate (1 : Int).toNat l).flatten = l)] at q
        exact end_sc s q (.tup r1 t1)
    · cases e
  · split at e
    · split at e
      · rename_i hz
        cases e
        obtain ⟨p, us, rfl, r1, t1⟩ := litems_ok oa s (by assumption)
        have e2 := rep_int (own_c ob)
        subst e2
        exact .inr (.inr ⟨p, _, us, rfl, rfl, r1, hz.1, hz.2.1, by rw [t1.length]; exact hz.2.2, fun l hl => end_l s q (t1.rep _) hl⟩)
      · cases e
    · cases e
  · cases e
end VL
set_option maxHeartbeats 4000000
namespace VL
open PySem PySem.Spec PyProof.Rows L2
section
variable {K : PySem.W.Frag} {C H : Hp} {v : V} {w : W} {F G : Foot} {d : PyData} {ws : List W} {vs xs : List V} {ds : List PyData} {Q : VK}
mutual
theorem Rep.dp : ∀ {v : V} {d : PyData}, Rep K C v d → d.canLay0 = true → Dp K C v d
  | _, _, .non, _ => .non
  | _, _, .bl b, _ => .bl b
  | _, _, .int i, _ => .int i
  | _, _, .str x, _ => .str x
  | _, _, .lst h t, e => .lst (.inl h) (t.dp (by simpa [PyData.canLay0] using e))
  | _, _, .tup h t, e => .tup (SqT.of h) (t.dp (by simpa [PyData.canLay0] using e))
  | _, _, .dct _ _ _, e => by simp [PyData.canLay0] at e
theorem RepAll.dp : ∀ {vs : List V} {ds : List PyData}, RepAll K C vs ds → PyData.canLayAll0 ds = true → DpAll K C vs ds
  | _, _, .nil, _ => .nil
  | _, _, .cons h t, e => by
    simp only [PyData.canLayAll0, Bool.and_eq_true] at e
    exact .cons (h.dp e.1) (t.dp e.2)
end
theorem Own.dpH (o : Own K C H w v F) (s : Same C H) (e : fz w = some d) (sh : SeqAt.shaped d = true) : Dp K H v d := (o.repH s e).dp (SeqAt.canLay_of_shaped sh)
def PB (f : W → W → Option Bool) : List W → Option W
  | [a, b] => (f a b).map fun k => .c (.bool k)
  | _ => none
theorem primB {K : PySem.W.Frag} {r : R2} {f : W → W → Option Bool}
    (h : ∀ (C H : Hp) (a b : W) (x y : V) (F G : Foot) (k : Bool) (Q : VK), Same C H → Own K C H a x F → Own K C H b y G → f a b = some k → Q (.bl k) H → r x y H Q) : PrimOk K (rr2 r) (PB f) := by
  intro C H ws vs w Q s o e q
  match ws, e with
  | [a, b], e =>
    obtain ⟨x, y, F, G, rfl, o1, o2⟩ := ownL2 o
    cases e2 : f a b with
    | none => simp only [PB, e2] at e; cases e
    | some k =>
      simp only [PB, e2, Option.map_some, Option.some.injEq] at e
      subst e
      exact ⟨x, y, rfl, h C H a b x y F G k Q s o1 o2 e2 (end_sc s q (.bl k))⟩
end
/-! ### ==, != -/
def eqF2 (a b : W) : Option Bool := match fz a, fz b with
  | some d, some e => if SeqAt.shaped d && SeqAt.shaped e then some (PyData.eqv d e) else none
  | _, _ => none
def neF2 (a b : W) : Option Bool := (eqF2 a b).map (!·)
theorem eqF2_some {a b : W} {k : Bool} (e : eqF2 a b = some k) : ∃ d f, fz a = some d ∧ fz b = some f ∧ SeqAt.shaped d = true ∧ SeqAt.shaped f = true ∧ k = PyData.eqv d f := by
  unfold eqF2 at e
  split at e
  · rename_i d f h1 h2
    split at e
    · rename_i hs
      rw [Bool.and_eq_true] at hs
      cases e
      exact ⟨d, f, h1, h2, hs.1, hs.2, rfl⟩
    · cases e
  · cases e
theorem eq_ok {K : PySem.W.Frag} : PrimOk K (rr2 (rEqD K)) (PB eqF2) := primB fun C H a b x y F G k Q s oa ob e q => by
  obtain ⟨d, f, h1, h2, s1, s2, rfl⟩ := eqF2_some e
  exact ⟨d, f, oa.dpH s h1 s1, ob.dpH s h2 s2, s1, s2, q⟩
theorem ne_ok {K : PySem.W.Frag} : PrimOk K (rr2 (rNeD K)) (PB neF2) := primB fun C H a b x y F G k Q s oa ob e q => by
  unfold neF2 at e
  cases e2 : eqF2 a b with
  | none => rw [e2] at e; cases e
  | some k' =>
    rw [e2] at e
    cases e
    obtain ⟨d, f, h1, h2, s1, s2, rfl⟩ := eqF2_some e2
    exact ⟨d, f, oa.dpH s h1 s1, ob.dpH s h2 s2, s1, s2, q⟩
/-! ### <, <=, >, >= -/
def intsD : List PyData → Option (List Int)
  | [] => some []
  | .int i :: r => (intsD r).map (i :: ·)
  | _ :: _ => none
theorem intsD_eq : ∀ {ds : List PyData} {ns : List Int}, intsD ds = some ns → ds = ns.map .int
  | [], _, h => by simp only [intsD, Option.some.injEq] at h; subst h; rfl
  | .int i :: r, ns, h => by
    simp only [intsD] at h
    cases e : intsD r with
    | none => rw [e] at h; cases h
    | some es => rw [e] at h; simp only [Option.map_some, Option.some.injEq] at h; subst h; rw [intsD_eq e]; rfl
  | .none :: _, _, h => by simp only [intsD] at h; cases h
  | .bool _ :: _, _, h => by simp only [intsD] at h; cases h
  | .str _ :: _, _, h => by simp only [intsD] at h; cases h
  | .list _ :: _, _, h => by simp only [intsD] at h; cases h
  | .tuple _ :: _, _, h => by simp only [intsD] at h; cases h
  | .dict _ :: _, _, h => by simp only [intsD] at h; cases h
theorem intsD_map (ns : List Int) : intsD (ns.map .int) = some ns := by
  induction ns with
  | nil => rfl
  | cons n ns ih =>
    show (intsD (ns.map .int)).map (n :: ·) = _
    rw [ih]; rfl
theorem rep_ints {K : PySem.W.Frag} {C : Hp} : ∀ {ns : List Int} {vs : List V}, RepAll K C vs (ns.map .int) → vs = ns.map V.int
  | [], _, r => by cases r; rfl
  | n :: ns, _, r => by
    have r' : RepAll K C _ (.int n :: ns.map .int) := r
    cases r' with
    | cons a b => rw [rep_int a, rep_ints b]; rfl
def ltF2 : W → W → Option Bool
  | .c (.int i), .c (.int j) => some (decide (i < j))
  | .c (.tuple ds), .c (.tuple es) => match intsD ds, intsD es with
    | some ns, some ms => some (HT.lexLt ns ms)
    | _, _ => none
  | _, _ => none
def rLtA (K : PySem.W.Frag) : R2 := fun x y H Q => rI0 (fun i j => .bl (decide (i < j))) x y H Q ∨ rLtT K x y H Q
theorem op_ltA {X : Cx} (hu : X.A.units < cLine) : OpR X (compareOp .Lt) (rLtA X.K) := op_lt.or (op_ltT hu)
theorem lt_ok {K : PySem.W.Frag} : PrimOk K (rr2 (rLtA K)) (PB ltF2) := primB fun C H a b x y F G k Q s oa ob e q => by
  unfold ltF2 at e
  split at e
  · cases e
    have e1 := rep_int (own_c oa)
    have e2 := rep_int (own_c ob)
    subst e1 e2
    exact .inl ⟨_, _, rfl, rfl, q⟩
  · split at e
    · rename_i ns ms h1 h2
      cases e
      obtain ⟨p, us, rfl, r1, t1⟩ := rep_tup (own_c oa)
      obtain ⟨p', us', rfl, r2, t2⟩ := rep_tup (own_c ob)
      rw [intsD_eq h1] at t1
      rw [intsD_eq h2] at t2
      have e1 := rep_ints t1
      have e2 := rep_ints t2
      subst e1 e2
      exact .inr ⟨p, p', _, _, rfl, rfl, same_t s r1, same_t s r2, q⟩
    · cases e
  · cases e
def cmpF2 (p : Int → Int → Bool) : W → W → Option Bool
  | .c (.int i), .c (.int j) => some (p i j)
  | _, _ => none
theorem cmp_ok {K : PySem.W.Frag} (p : Int → Int → Bool) : PrimOk K (rr2 (rI0 fun i j => .bl (p i j))) (PB (cmpF2 p)) := primB fun C H a b x y F G k Q s oa ob e q => by
  unfold cmpF2 at e
  split at e
  · cases e
    have e1 := rep_int (own_c oa)
    have e2 := rep_int (own_c ob)
    subst e1 e2
    exact ⟨_, _, rfl, rfl, q⟩
  · cases e
abbrev leF2 : W → W → Option Bool := cmpF2 fun i j => decide (i ≤ j)
abbrev gtF2 : W → W → Option Bool := cmpF2 fun i j => decide (j < i)
abbrev geF2 : W → W → Option Bool := cmpF2 fun i j => decide (j ≤ i)
/-! ### is None, is not None -/
def isNF (w : W) : Bool := match w with
  | .c .none => true
  | _ => false
theorem own_non {K : PySem.W.Frag} {C H : Hp} {w : W} {v : V} {F : Foot} (o : Own K C H w v F) : decide (v = .non) = isNF w := by
  cases o with
  | c r n => cases r <;> rfl
  | l _ _ _ _ _ => rfl
  | dk _ _ _ _ _ _ => rfl
  | dt _ _ _ _ _ _ => rfl
  | x _ _ => rfl
  | ks _ _ _ => rfl
def isF2 (a b : W) : Option Bool := match b with
  | .c .none => some (isNF a)
  | _ => none
def isntF2 (a b : W) : Option Bool := match b with
  | .c .none => some (!isNF a)
  | _ => none
theorem is_ok {K : PySem.W.Frag} : PrimOk K (rr2 (fun x y H Q => y = .non ∧ Q (.bl (decide (x = .non))) H)) (PB isF2) := primB fun C H a b x y F G k Q s oa ob e q => by
  unfold isF2 at e
  split at e
  · cases e
    exact ⟨rep_non (own_c ob), by rw [own_non oa]; exact q⟩
  · cases e
theorem isnt_ok {K : PySem.W.Frag} : PrimOk K (rr2 (fun x y H Q => y = .non ∧ Q (.bl (!decide (x = .non))) H)) (PB isntF2) := primB fun C H a b x y F G k Q s oa ob e q => by
  unfold isntF2 at e
  split at e
  · cases e
    exact ⟨rep_non (own_c ob), by rw [own_non oa]; exact q⟩
  · cases e
/-! ### dicts: keys -/
def keyOf : PyData → Option Key
  | .int i => some (.inl i)
  | .str x => some (.inr x)
  | _ => none
def keysOf : List PyData → Option (List Key)
  | [] => some []
  | d :: ds => match keyOf d, keysOf ds with
    | some k, some ks => some (k :: ks)
    | _, _ => none
def tkeyOf : PyData → Option (List Key)
  | .tuple ds => keysOf ds
  | _ => none
theorem rep_key {K : PySem.W.Frag} {C : Hp} {v : V} {d : PyData} {k : Key} (r : Rep K C v d) (e : keyOf d = some k) : v = kV k := by
  cases r <;> simp only [keyOf] at e <;> cases e <;> rfl
theorem rep_keys {K : PySem.W.Frag} {C : Hp} : ∀ {vs : List V} {ds : List PyData} {ks : List Key}, RepAll K C vs ds → keysOf ds = some ks → vs = ks.map kV
  | _, _, _, .nil, e => by simp only [keysOf, Option.some.injEq] at e; subst e; rfl
  | _, _, ks, .cons (d := d) (ds := ds) a b, e => by
    unfold keysOf at e
    cases e1 : keyOf d with
    | none => rw [e1] at e; cases e
    | some k =>
      cases e2 : keysOf ds with
      | none => rw [e1, e2] at e; cases e
      | some ks' =>
        rw [e1, e2] at e
        cases e
        rw [rep_key a e1, rep_keys b e2]; rfl
theorem rep_tkey {K : PySem.W.Frag} {C : Hp} {v : V} {d : PyData} {ks : List Key} (r : Rep K C v d) (e : tkeyOf d = some ks) : ∃ b, v = .ref b ∧ C b = some (.tup (ks.map kV)) := by
  cases d with
  | tuple ds =>
    obtain ⟨a, xs, rfl, h1, h2⟩ := rep_tup' r
    have e' : keysOf ds = some ks := e
    rw [rep_keys h2 e'] at h1
    exact ⟨a, rfl, h1⟩
  | _ => simp only [tkeyOf] at e; cases e
section
variable {κ : Type} [DecidableEq κ]
def lookW (kws : List (κ × W)) (k : κ) : Option W := (kws.find? fun kv => decide (kv.1 = k)).map (·.2)
def putW (kws : List (κ × W)) (k : κ) (w : W) : List (κ × W) :=
  if (kws.any fun kv => decide (kv.1 = k)) = true then kws.map (fun kv => if kv.1 = k then (kv.1, w) else kv) else kws ++ [(k, w)]
theorem own_look {K : PySem.W.Frag} {C H : Hp} {k : κ} : ∀ {kws : List (κ × W)} {kvs : List (κ × V)} {G : Foot}, kvs.map (·.1) = kws.map (·.1) → OwnAll K C H (kws.map (·.2)) (kvs.map (·.2)) G →
    match lookW kws k with
    | some w => ∃ v G', valV kvs k = some v ∧ Own K C H w v G' ∧ ∀ a, G' a → G a
    | none => valV kvs k = none
  | [], [], _, _, _ => rfl
  | [], _ :: _, _, e, _ => by simp at e
  | _ :: _, [], _, e, _ => by simp at e
  | (k1, w1) :: kws, (k2, v2) :: kvs, G, e, o => by
    simp only [List.map_cons, List.cons.injEq] at e
    obtain ⟨rfl, e⟩ := e
    have o' : OwnAll K C H (w1 :: kws.map (·.2)) (v2 :: kvs.map (·.2)) G := o
    cases o' with
    | cons a b dj q =>
      by_cases hk : k2 = k
      · subst hk
        have h1 : lookW ((k2, w1) :: kws) k2 = some w1 := by simp [lookW]
        rw [h1]
        exact ⟨v2, _, by simp [valV], a, fun z h => (q z).mpr (.inl h)⟩
      · have h1 : lookW ((k2, w1) :: kws) k = lookW kws k := by simp [lookW, List.find?_cons, hk]
        have h2 : valV ((k2, v2) :: kvs) k = valV kvs k := by simp [valV, List.find?_cons, hk]
        rw [h1, h2]
        have ih := own_look (k := k) e b
        cases e3 : lookW kws k with
        | none => rw [e3] at ih; exact ih
        | some w =>
          rw [e3] at ih
          obtain ⟨v, G', h3, h4, h5⟩ := ih
          exact ⟨v, G', h3, h4, fun z h => (q z).mpr (.inr (h5 z h))⟩
end
/-- a frozen dict -/
def lookD (kds : List (PyData × PyData)) (k : Key) : Option PyData := match kds with
  | [] => none
  | (a, d) :: r => if keyOf a = some k then some d else lookD r k
theorem keyOf_keyD (k : Key) : keyOf (keyD k) = some k := by cases k <;> rfl
theorem rep_look {K : PySem.W.Frag} {C : Hp} {k : Key} : ∀ {ks : List Key} {xs : List V} {ds : List PyData}, ks.length = xs.length → RepAll K C xs ds →
    match lookD ((ks.map keyD).zip ds) k with
    | some d => ∃ v, valV (ks.zip xs) k = some v ∧ Rep K C v d
    | none => valV (ks.zip xs) k = none := by
  intro ks
  induction ks with
  | nil => intro xs ds _ _; rfl
  | cons k1 ks ih =>
    intro xs ds l t
    cases t with
    | nil => simp at l
    | @cons v xs d ds a b =>
      by_cases hk : k1 = k
      · subst hk
        have h1 : lookD (((k1 :: ks).map keyD).zip (d :: ds)) k1 = some d := by simp [lookD, keyOf_keyD]
        rw [h1]
        exact ⟨v, by simp [valV], a⟩
      · have h1 : lookD (((k1 :: ks).map keyD).zip (d :: ds)) k = lookD ((ks.map keyD).zip ds) k := by simp [lookD, keyOf_keyD, hk]
        have h2 : valV ((k1 :: ks).zip (v :: xs)) k = valV (ks.zip xs) k := by simp [valV, List.find?_cons, hk]
        rw [h1, h2]
        exact ih (by simpa using l) b
/-! ### in, not in -/
theorem in_shape {d : PyData} {n : Nat} {A : Around} (sd : SeqAt.shaped d = true) (hu : A.units + 65 < cLine) : A.units + 1 + min n d.depth < cLine := by
  have h1 := SeqAt.depth_of_shaped sd
  have h2 : min n d.depth ≤ d.depth := Nat.min_le_right _ _
  omega
def rInT (K : PySem.W.Frag) : R2 := fun x y H Q => ∃ d ds, Dp K H x d ∧ Dp K H y (.tuple ds) ∧ SeqAt.shaped d = true ∧ SeqAt.shaped (.tuple ds) = true ∧ Q (.bl (ds.any fun z => PyData.eqv z d)) H
theorem op_inT {X : Cx} (hu : X.A.units + 65 < cLine) : OpR X (compareOp .In) (rInT X.K) := by
  intro pins s σ H x y v u Q I rx ry h
  obtain ⟨d, ds, hd, he, sd, se, q⟩ := h
  obtain ⟨as, r1⟩ := Dp.reads I d x v hd rx
  obtain ⟨bs, r2⟩ := Dp.reads I (.tuple ds) y u he ry
  exact SeqAt.in_tuple_reads r2 r1 (SeqAt.canLay_of_shaped se) (SeqAt.canLay_of_shaped sd) (in_shape sd hu) ⟨.bl _, H, I, rfl, q⟩
def rNotInT (K : PySem.W.Frag) : R2 := fun x y H Q => ∃ d ds, Dp K H x d ∧ Dp K H y (.tuple ds) ∧ SeqAt.shaped d = true ∧ SeqAt.shaped (.tuple ds) = true ∧ Q (.bl (!ds.any fun z => PyData.eqv z d)) H
theorem op_notInT {X : Cx} (hu : X.A.units + 65 < cLine) : OpR X (compareOp .NotIn) (rNotInT X.K) := by
  intro pins s σ H x y v u Q I rx ry h
  obtain ⟨d, ds, hd, he, sd, se, q⟩ := h
  obtain ⟨as, r1⟩ := Dp.reads I d x v hd rx
  obtain ⟨bs, r2⟩ := Dp.reads I (.tuple ds) y u he ry
  exact SeqAt.notIn_tuple_reads r2 r1 (SeqAt.canLay_of_shaped se) (SeqAt.canLay_of_shaped sd) (in_shape sd hu) ⟨.bl _, H, I, rfl, q⟩
def rInS : R2 := fun x y H Q => ∃ (c : Nat) (z : Str), x = .str ⟨#[c]⟩ ∧ y = .str z ∧ Q (.bl (decide (c ∈ z.cps.toList))) H
def rNotInS : R2 := fun x y H Q => ∃ (c : Nat) (z : Str), x = .str ⟨#[c]⟩ ∧ y = .str z ∧ Q (.bl (!decide (c ∈ z.cps.toList))) H
def rInDc : R2 := fun x y H Q => ∃ a o, y = .ref a ∧ DGet H a x o ∧ Q (.bl o.isSome) H
def rNotInDc : R2 := fun x y H Q => ∃ a o, y = .ref a ∧ DGet H a x o ∧ Q (.bl (!o.isSome)) H
theorem op_inDc {X : Cx} (hu : X.A.units + 1 < cLine) : OpR X (compareOp .In) rInDc := by
  intro pins s σ H x y v u Q I rx ry h
  obtain ⟨a, o, rfl, g, q⟩ := h
  cases ry
  exact d_in hu I g rx fun s3 I3 => ⟨.bl o.isSome, H, I3, rfl, q⟩
theorem op_notInDc {X : Cx} (hu : X.A.units + 1 < cLine) : OpR X (compareOp .NotIn) rNotInDc := by
  intro pins s σ H x y v u Q I rx ry h
  obtain ⟨a, o, rfl, g, q⟩ := h
  cases ry
  exact d_notIn hu I g rx fun s3 I3 => ⟨.bl (!o.isSome), H, I3, rfl, q⟩
def rInA (K : PySem.W.Frag) : R2 := fun x y H Q => rInD K x y H Q ∨ (rInT K x y H Q ∨ (rInS x y H Q ∨ rInDc x y H Q))
def rNotInA (K : PySem.W.Frag) : R2 := fun x y H Q => rNotInD K x y H Q ∨ (rNotInT K x y H Q ∨ (rNotInS x y H Q ∨ rNotInDc x y H Q))
theorem op_inA {X : Cx} (hu : X.A.units + 65 < cLine) : OpR X (compareOp .In) (rInA X.K) := (op_inD hu).or ((op_inT hu).or (op_in_sign.or (op_inDc (by omega))))
theorem op_notInA {X : Cx} (hu : X.A.units + 65 < cLine) : OpR X (compareOp .NotIn) (rNotInA X.K) := (op_notInD hu).or ((op_notInT hu).or (op_notIn_sign.or (op_notInDc (by omega))))
def inSeq (a : W) (ds : List PyData) (t : List PyData → PyData) : Option Bool := match fz a with
  | some d => if SeqAt.shaped d && SeqAt.shaped (t ds) then some (ds.any fun z => PyData.eqv z d) else none
  | none => none
def signOf (x : Str) : Option Nat := match x.cps.toList with
  | [c] => some c
  | _ => none
def inF2 (a b : W) : Option Bool := match b with
  | .c (.list ds) => inSeq a ds .list
  | .c (.tuple ds) => inSeq a ds .tuple
  | .c (.str z) => (match a with
    | .c (.str x) => (signOf x).map fun c => decide (c ∈ z.cps.toList)
    | _ => none)
  | .c (.dict kds) => (match a with
    | .c d => (keyOf d).map fun k => (lookD kds k).isSome
    | _ => none)
  | .dk kws => (match a with
    | .c d => (keyOf d).map fun k => (lookW kws k).isSome
    | _ => none)
  | .dt kws => (match a with
    | .c d => (tkeyOf d).map fun k => (lookW kws k).isSome
    | _ => none)
  | .l ws => (match colds ws with
    | some ds => inSeq a ds .list
    | none => none)
  | _ => none
def notInF2 (a b : W) : Option Bool := (inF2 a b).map (!·)
theorem inSeq_some {a : W} {ds : List PyData} {t : List PyData → PyData} {k : Bool} (e : inSeq a ds t = some k) : ∃ d, fz a = some d ∧ SeqAt.shaped d = true ∧ SeqAt.shaped (t ds) = true ∧ k = ds.any fun z => PyData.eqv z d := by
  unfold inSeq at e
  split at e
  · rename_i d h1
    split at e
    · rename_i hs
      rw [Bool.and_eq_true] at hs
      cases e
      exact ⟨d, h1, hs.1, hs.2, rfl⟩
    · cases e
  · cases e
theorem signOf_some {x : Str} {c : Nat} (e : signOf x = some c) : x = ⟨#[c]⟩ := by
  unfold signOf at e
  split at e
  · rename_i c' h
    cases e
    cases x with
    | mk a =>
      cases a with
      | mk l => simp at h; subst h; rfl
  · cases e
/-- what in finds: one of four ways -/
theorem in_way {K : PySem.W.Frag} {C H : Hp} {a b : W} {x y : V} {F G : Foot} {k : Bool} (s : Same C H) (oa : Own K C H a x F) (ob : Own K C H b y G) (e : inF2 a b = some k) :
    (∃ d ds, Dp K H x d ∧ Dp K H y (.list ds) ∧ SeqAt.shaped d = true ∧ SeqAt.shaped (.list ds) = true ∧ k = ds.any fun z => PyData.eqv z d) ∨
    (∃ d ds, Dp K H x d ∧ Dp K H y (.tuple ds) ∧ SeqAt.shaped d = true ∧ SeqAt.shaped (.tuple ds) = true ∧ k = ds.any fun z => PyData.eqv z d) ∨
    (∃ (c : Nat) (z : Str), x = .str ⟨#[c]⟩ ∧ y = .str z ∧ k = decide (c ∈ z.cps.toList)) ∨ ∃ a o, y = .ref a ∧ DGet H a x o ∧ k = o.isSome := by
  unfold inF2 at e
  split at e
  · obtain ⟨d, h1, h2, h3, rfl⟩ := inSeq_some e
    exact .inl ⟨d, _, oa.dpH s h1 h2, ob.dpH s rfl h3, h2, h3, rfl⟩
  · obtain ⟨d, h1, h2, h3, rfl⟩ := inSeq_some e
    exact .inr (.inl ⟨d, _, oa.dpH s h1 h2, ob.dpH s rfl h3, h2, h3, rfl⟩)
  · rename_i z
    split at e
    · rename_i x'
      cases e2 : signOf x' with
      | none => rw [e2] at e; cases e
      | some c =>
        rw [e2] at e
        simp only [Option.map_some, Option.some.injEq] at e
        subst e
        have h := signOf_some e2
        subst h
        exact .inr (.inr (.inl ⟨c, z, rep_str (own_c oa), rep_str (own_c ob), rfl⟩))
    · cases e
  · rename_i kds
    split at e
    · rename_i d
      cases e2 : keyOf d with
      | none => rw [e2] at e; cases e
      | some k' =>
        rw [e2] at e
        simp only [Option.map_some, Option.some.injEq] at e
        subst e
        have hx := rep_key (own_c oa) e2
        have rb := own_c ob
        cases rb with
        | @dct p ks xs ds l r t =>
          have q := rep_look (k := k') l t
          refine .inr (.inr (.inr ⟨p, valV (ks.zip xs) k', rfl, .inl ⟨_, k', same_rd s r, hx, rfl⟩, ?_⟩))
          cases e3 : lookD ((ks.map keyD).zip ds) k' with
          | none => rw [e3] at q; rw [q]; rfl
          | some d' => rw [e3] at q; obtain ⟨v, q, _⟩ := q; rw [q]; rfl
    · cases e
  · rename_i kws
    split at e
    · rename_i d
      cases e2 : keyOf d with
      | none => rw [e2] at e; cases e
      | some k' =>
        rw [e2] at e
        simp only [Option.map_some, Option.some.injEq] at e
        subst e
        have hx := rep_key (own_c oa) e2
        cases ob with
        | @dk _ kvs p _ G' h1 h2 h3 h4 h5 h6 =>
          have q := own_look (k := k') h3 h4
          refine .inr (.inr (.inr ⟨p, valV kvs k', rfl, .inl ⟨_, k', .inl h1, hx, rfl⟩, ?_⟩))
          cases e3 : lookW kws k' with
          | none => rw [e3] at q; rw [q]; rfl
          | some d' => rw [e3] at q; obtain ⟨v, _, q, _⟩ := q; rw [q]; rfl
    · cases e
  · rename_i kws
    split at e
    · rename_i d
      cases e2 : tkeyOf d with
      | none => rw [e2] at e; cases e
      | some k' =>
        rw [e2] at e
        simp only [Option.map_some, Option.some.injEq] at e
        subst e
        obtain ⟨b', hx, hb⟩ := rep_tkey (own_c oa) e2
        cases ob with
        | @dt _ kvs p _ G' h1 h2 h3 h4 h5 h6 =>
          have q := own_look (k := k') h3 h4
          refine .inr (.inr (.inr ⟨p, valV kvs k', rfl, .inr ⟨_, k', b', .inl h1, hx, s _ _ hb, rfl⟩, ?_⟩))
          cases e3 : lookW kws k' with
          | none => rw [e3] at q; rw [q]; rfl
          | some d' => rw [e3] at q; obtain ⟨v, _, q, _⟩ := q; rw [q]; rfl
    · cases e
  · rename_i ws
    split at e
    · rename_i ds h0
      obtain ⟨d, h1, h2, h3, rfl⟩ := inSeq_some e
      refine .inl ⟨d, ds, oa.dpH s h1 h2, ?_, h2, h3, rfl⟩
      obtain ⟨p, xs, rfl, r, t⟩ := litems_ok ob s (by unfold litems; exact h0)
      exact .lst (.inl r) ((t.mono s).dp (by simpa [PyData.canLay0] using SeqAt.canLay_of_shaped h3))
    · cases e
  · cases e
theorem in_ok {K : PySem.W.Frag} : PrimOk K (rr2 (rInA K)) (PB inF2) := primB fun C H a b x y F G k Q s oa ob e q => by
  rcases in_way s oa ob e with ⟨d, ds, h1, h2, h3, h4, rfl⟩ | ⟨d, ds, h1, h2, h3, h4, rfl⟩ | ⟨c, z, h1, h2, rfl⟩ | ⟨a, o, h1, h2, rfl⟩
  · exact .inl ⟨d, ds, h1, h2, h3, h4, q⟩
  · exact .inr (.inl ⟨d, ds, h1, h2, h3, h4, q⟩)
  · exact .inr (.inr (.inl ⟨c, z, h1, h2, q⟩))
  · exact .inr (.inr (.inr ⟨a, o, h1, h2, q⟩))
theorem notIn_ok {K : PySem.W.Frag} : PrimOk K (rr2 (rNotInA K)) (PB notInF2) := primB fun C H a b x y F G k Q s oa ob e q => by
  unfold notInF2 at e
  cases e2 : inF2 a b with
  | none => rw [e2] at e; cases e
  | some k' =>
    rw [e2] at e
    cases e
    rcases in_way s oa ob e2 with ⟨d, ds, h1, h2, h3, h4, rfl⟩ | ⟨d, ds, h1, h2, h3, h4, rfl⟩ | ⟨c, z, h1, h2, rfl⟩ | ⟨a, o, h1, h2, rfl⟩
    · exact .inl ⟨d, ds, h1, h2, h3, h4, q⟩
    · exact .inr (.inl ⟨d, ds, h1, h2, h3, h4, q⟩)
    · exact .inr (.inr (.inl ⟨c, z, h1, h2, q⟩))
    · exact .inr (.inr (.inr ⟨a, o, h1, h2, q⟩))
/-! ### a[b] -/
def rIxD : R2 := fun x y H Q => ∃ a v, x = .ref a ∧ DGet H a y (some v) ∧ Q v H
theorem ix_dict {X : Cx} (hu : X.A.units + 1 < cLine) : IxR X rIxD := by
  intro value slice pins s σ H x y v u Q I rx ry h hs
  obtain ⟨a, z, rfl, g, q⟩ := h
  cases rx
  have hT := dict_typeIs I g
  have h2 := d_getItem (A := X.A) (E := X.xe) hu I g ry fun w' s3 I3 rw' => (⟨z, H, I3, rw', q⟩ : EP X pins σ Q w' s3)
  unfold subscriptTail
  refine wpAny_bind ?_
  rw [getitemInPython_of_ne hT.not_modules]
  refine wpAny_bind (wpAny_specialOf hT PySem.F.slot_dict_getitem.lookup ?_)
  have fin : wpAny (model X.prog X.w) X.A (subscripted slice false (.ref a) u) (fun r s₃ => wpAny (model X.prog X.w) X.A (letTemporaryGo value (.ref a) r >>= fun _ => pure r) (EP X pins σ Q) X.xe s₃) X.xe s := by
    rw [hs]
    exact wpAny_operating (wpAny_mono h2 (fun r s₃ h₃ => wpAny_bind (wpAny_letTemporaryGo (wpAny_pure h₃))) fun _ _ x => x)
  first
    | exact wpAny_pure (wpAny_bind fin)
    | exact wpAny_bind (wpAny_pure (wpAny_bind fin))
    | exact wpAny_bind fin
def rIxA (K : PySem.W.Frag) : R2 := fun x y H Q => rIxL K x y H Q ∨ (rIxT K x y H Q ∨ (rIxS x y H Q ∨ rIxD x y H Q))
theorem ix_A {X : Cx} (hu : X.A.units + 1 < cLine) : IxR X (rIxA X.K) := ix_list.or (ix_tup.or (ix_str.or (ix_dict hu)))
def coldW : W → Option W
  | .c d => some (.c d)
  | _ => none
def ixF2 : W → W → Option W
  | .c (.list ds), .c (.int i) => (atI ds i).map .c
  | .c (.tuple ds), .c (.int i) => (atI ds i).map .c
  | .c (.str z), .c (.int i) => if z.length ≤ sizeLine then (atI z.cps.toList i).map fun c => .c (.str ⟨#[c]⟩) else none
  | .c (.dict kds), .c d => match keyOf d with
    | some k => (lookD kds k).map .c
    | none => none
  | .l ws, .c (.int i) => (atI ws i).bind coldW
  | .dk kws, .c d => match keyOf d with
    | some k => (lookW kws k).bind coldW
    | none => none
  | .dt kws, .c d => match tkeyOf d with
    | some k => (lookW kws k).bind coldW
    | none => none
  | _, _ => none
theorem OwnAll.get {K : PySem.W.Frag} {C H : Hp} : ∀ {ws : List W} {vs : List V} {F : Foot} {i : Nat} {w : W}, OwnAll K C H ws vs F → ws[i]? = some w → ∃ v G, vs[i]? = some v ∧ Own K C H w v G ∧ ∀ a, G a → F a
  | _, _, _, _, _, .nil _, e => by simp at e
  | _, _, _, 0, _, .cons a _ _ q, e => by simp at e; subst e; exact ⟨_, _, by simp, a, fun z h => (q z).mpr (.inl h)⟩
  | _, _, _, i + 1, w, .cons _ b _ q, e => by
    obtain ⟨v, G, h1, h2, h3⟩ := b.get (i := i) (w := w) (by simpa using e)
    exact ⟨v, G, by simpa using h1, h2, fun z h => (q z).mpr (.inr (h3 z h))⟩
theorem atI_some {α : Type} {xs : List α} {i : Int} {x : α} (h : atI xs i = some x) : ∃ j, ixN xs.length i = some j ∧ xs[j]? = some x := by
  unfold atI at h
  cases e : ixN xs.length i with
  | none => rw [e] at h; cases h
  | some j => rw [e] at h; exact ⟨j, rfl, h⟩
theorem atI_of {α : Type} {xs : List α} {i : Int} {j n : Nat} {x : α} (h : ixN n i = some j) (l : xs.length = n) (e : xs[j]? = some x) : atI xs i = some x := by
  unfold atI; rw [l, h]; exact e
theorem RepAll.atI {K : PySem.W.Frag} {C : Hp} {xs : List V} {ds : List PyData} {i : Int} {d : PyData} (t : RepAll K C xs ds) (h : L2.atI ds i = some d) : ∃ v, L2.atI xs i = some v ∧ Rep K C v d := by
  obtain ⟨j, h1, h2⟩ := atI_some h
  obtain ⟨v, h3, r⟩ := t.get' h2
  exact ⟨v, atI_of h1 t.length h3, r⟩
theorem coldW_some {w w' : W} (h : coldW w = some w') : ∃ d, w = .c d ∧ w' = .c d := by
  cases w with
  | c d => simp only [coldW, Option.some.injEq] at h; exact ⟨d, rfl, h.symm⟩
  | _ => simp [coldW] at h
theorem ix_ok {K : PySem.W.Frag} : PrimOk K (rr2 (rIxA K)) (P2 ixF2) := prim2 fun C H a b x y F G w Q s oa ob e q => by
  unfold ixF2 at e
  split at e
  · rename_i ds i
    cases e2 : atI ds i with
    | none => rw [e2] at e; cases e
    | some d =>
      rw [e2] at e
      cases e
      obtain ⟨p, us, rfl, r1, t1⟩ := rep_lst (own_c oa)
      obtain ⟨v, h1, h2⟩ := t1.atI e2
      exact .inl ⟨p, us, i, v, rfl, rep_int (own_c ob), .inl (same_rd s r1), h1, end_sc s q h2⟩
  · rename_i ds i
    cases e2 : atI ds i with
    | none => rw [e2] at e; cases e
    | some d =>
      rw [e2] at e
      cases e
      obtain ⟨p, us, rfl, r1, t1⟩ := rep_tup (own_c oa)
      obtain ⟨v, h1, h2⟩ := t1.atI e2
      exact .inr (.inl ⟨p, us, i, v, rfl, rep_int (own_c ob), same_t s r1, h1, end_sc s q h2⟩)
  · rename_i z i
    split at e
    · rename_i hz
      cases e2 : atI z.cps.toList i with
      | none => rw [e2] at e; cases e
      | some c =>
        rw [e2] at e
        cases e
        exact .inr (.inr (.inl ⟨z, i, c, rep_str (own_c oa), rep_int (own_c ob), hz, e2, end_sc s q (.str _)⟩))
    · cases e
  · rename_i kds d
    split at e
    · rename_i k hk
      cases e2 : lookD kds k with
      | none => rw [e2] at e; cases e
      | some d' =>
        rw [e2] at e
        cases e
        have hy := rep_key (own_c ob) hk
        have ra := own_c oa
        cases ra with
        | @dct p ks xs ds l r t =>
          have t2 := rep_look (k := k) l t
          rw [e2] at t2
          obtain ⟨v, h1, h2⟩ := t2
          exact .inr (.inr (.inr ⟨p, v, rfl, .inl ⟨_, k, same_rd s r, hy, h1.symm⟩, end_sc s q h2⟩))
    · cases e
  · rename_i ws i
    cases e2 : atI ws i with
    | none => rw [e2] at e; cases e
    | some u =>
      rw [e2] at e
      obtain ⟨d, rfl, rfl⟩ := coldW_some e
      cases oa with
      | l h1 h2 h3 h4 h5 =>
        obtain ⟨j, h6, h7⟩ := atI_some e2
        obtain ⟨v, _, h8, h9, _⟩ := h3.get h7
        exact .inl ⟨_, _, i, v, rfl, rep_int (own_c ob), .inl (Rd.of h1), atI_of h6 h3.length.symm h8, end_sc s q (own_c h9)⟩
  · rename_i kws d
    split at e
    · rename_i k hk
      cases e2 : lookW kws k with
      | none => rw [e2] at e; cases e
      | some u =>
        rw [e2] at e
        obtain ⟨d', rfl, rfl⟩ := coldW_some e
        have hy := rep_key (own_c ob) hk
        cases oa with
        | @dk _ kvs p _ G' h1 h2 h3 h4 h5 h6 =>
          have t := own_look (k := k) h3 h4
          rw [e2] at t
          obtain ⟨v, _, h7, h8, _⟩ := t
          exact .inr (.inr (.inr ⟨p, v, rfl, .inl ⟨_, k, .inl h1, hy, h7.symm⟩, end_sc s q (own_c h8)⟩))
    · cases e
  · rename_i kws d
    split at e
    · rename_i k hk
      cases e2 : lookW kws k with
      | none => rw [e2] at e; cases e
      | some u =>
        rw [e2] at e
        obtain ⟨d', rfl, rfl⟩ := coldW_some e
        obtain ⟨b', hy, hb⟩ := rep_tkey (own_c ob) hk
        cases oa with
        | @dt _ kvs p _ G' h1 h2 h3 h4 h5 h6 =>
          have t := own_look (k := k) h3 h4
          rw [e2] at t
          obtain ⟨v, _, h7, h8, _⟩ := t
          exact .inr (.inr (.inr ⟨p, v, rfl, .inr ⟨_, k, b', .inl h1, hy, s _ _ hb, h7.symm⟩, end_sc s q (own_c h8)⟩))
    · cases e
  · cases e
end VL
set_option maxHeartbeats 4000000
namespace VL
open PySem PySem.Spec PyProof.Rows L2
section
variable {X : Cx} {Wx : WX} {io : List Nat} {v0 : L2.St} {σ : L2.St} {H : Hp} {o oa ob : Opd} {os : List Opd} {a b e : Expr} {es rest : List Expr} {pos : Pos} {k : Nat}
theorem tO_mono {Q Q' : VK} (m : ∀ v H, Q v H → Q' v H) (q : tO X Wx io v0 o σ H Q) : tO X Wx io v0 o σ H Q' := by
  cases o with
  | val f =>
    obtain ⟨ρ, C, F, s, p⟩ := q
    exact ⟨ρ, C, F, s, p.imp fun w ρ' _ k v C' H' G F' t => m _ _ (k v C' H' G F' t)⟩
  | bor i =>
    obtain ⟨v, e, q⟩ := q
    exact ⟨v, e, m _ _ q⟩
theorem tAs_mono {Q Q' : List V → Hp → Prop} (m : ∀ v H, Q v H → Q' v H) (q : tAs X Wx io v0 os σ H Q) : tAs X Wx io v0 os σ H Q' := by
  obtain ⟨ρ, C, F, s, p⟩ := q
  exact ⟨ρ, C, F, s, p.imp fun w ρ' _ k v C' H' G F' t => m _ _ (k v C' H' G F' t)⟩
theorem top_of {r : R2} {P : List W → Option W} {Q : VK} (hp : PrimOk X.K (rr2 r) P) (h : tW X Wx io v0 (prim P [oa, ob]) σ H Q) : tOp r (tO X Wx io v0 oa) (tO X Wx io v0 ob) σ H Q :=
  tO_mono (fun x H1 q => tO_mono (fun y H2 q3 => by
    obtain ⟨x', y', e, h⟩ := tAs_nil q3
    cases e
    exact h) (tAs_cons q)) (tAs_cons (prim_of hp h))
/-! ### operators -/
theorem ve_add (ha : VO X Wx io v0 a oa) (hb : VO X Wx io v0 b ob) : VE X Wx io v0 (.BinOp a .Add b pos) (prim (P2 addF2) [oa, ob]) := pe_mono (pe_op op_addA ha hb) fun _ _ _ h => top_of add_ok h
theorem ve_sub (ha : VO X Wx io v0 a oa) (hb : VO X Wx io v0 b ob) : VE X Wx io v0 (.BinOp a .Sub b pos) (prim (P2 subF2) [oa, ob]) := pe_mono (pe_op op_sub ha hb) fun _ _ _ h => top_of sub_ok h
theorem ve_mul (ha : VO X Wx io v0 a oa) (hb : VO X Wx io v0 b ob) : VE X Wx io v0 (.BinOp a .Mult b pos) (prim (P2 mulF2) [oa, ob]) := pe_mono (pe_op op_mulAA ha hb) fun _ _ _ h => top_of mul_ok h
theorem ve_fdiv (ha : VO X Wx io v0 a oa) (hb : VO X Wx io v0 b ob) : VE X Wx io v0 (.BinOp a .FloorDiv b pos) (prim (P2 fdivF2) [oa, ob]) := pe_mono (pe_op op_fdivA ha hb) fun _ _ _ h => top_of fdiv_ok h
theorem ve_mod (ha : VO X Wx io v0 a oa) (hb : VO X Wx io v0 b ob) : VE X Wx io v0 (.BinOp a .Mod b pos) (prim (P2 modF2) [oa, ob]) := pe_mono (pe_op op_modN ha hb) fun _ _ _ h => top_of mod_ok h
theorem ve_pow (ha : VO X Wx io v0 a oa) (hb : VO X Wx io v0 b ob) : VE X Wx io v0 (.BinOp a .Pow b pos) (prim (P2 powF2) [oa, ob]) := pe_mono (pe_op op_pow ha hb) fun _ _ _ h => top_of pow_ok h
def negF : W → Option W
  | .c (.int i) => some (.c (.int (-i)))
  | _ => none
theorem ve_neg (ha : VO X Wx io v0 a oa) : VE X Wx io v0 (.UnaryOp .USub a pos) (prim (P1 negF) [oa]) := by
  have hp : PrimOk X.K (fun vs H Q => ∃ x, vs = [x] ∧ rU (fun i => .int (-i)) x H Q) (P1 negF) := prim1 fun C H a x F w Q s oa e q => by
    unfold negF at e
    split at e
    · cases e
      exact ⟨_, rep_int (own_c oa), end_sc s q (.int _)⟩
    · cases e
  refine pe_mono (pe_un un_neg ha) fun σ H Q h => tO_mono (fun x H1 q => ?_) (tAs_cons (prim_of hp h))
  obtain ⟨x', e, h⟩ := tAs_nil q
  cases e
  exact h
/-! ### tests -/
def tst (f : Env → R W) : Env → R Bool := fun ρ => (f ρ).bind fun w ρ' => match w with
  | .c (.bool b) => .ok b ρ'
  | _ => .stuck
def asW (f : Env → R Bool) : Env → R W := fun ρ => (f ρ).bind fun b ρ' => .ok (.c (.bool b)) ρ'
theorem tst_of {f : Env → R W} {Q : Bool → Hp → Prop} (h : tT X Wx io v0 (tst f) σ H Q) : tW X Wx io v0 f σ H fun x H' => ∃ c, x = .bl c ∧ Q c H' := by
  obtain ⟨ρ, C, F, s, p⟩ := h
  refine ⟨ρ, C, F, s, (RPost.of_bind p).imp fun w ρ' _ q v C' H' G F' t => ?_⟩
  split at q
  · exact ⟨_, rep_bl (own_c t.own), q C' H' F' t.to⟩
  · exact q.elim
theorem vt_val {f : Env → R W} (h : VE X Wx io v0 e f) (he : ∀ whole, isTrue e X.env whole = (do let v ← whole; standAt e.pos; holding [v] (truthy v)) := by intro _; rfl) : VT X Wx io v0 e (tst f) := pt_mono (pt_val h he) fun _ _ _ h => tst_of h
theorem vt_cmp {op : CmpOp} {r : R2} {P : List W → Option W} (ho : OpR X (compareOp op) r) (hp : PrimOk X.K (rr2 r) P) (ha : VO X Wx io v0 a oa) (hb : VO X Wx io v0 b ob) (hm : behindInMarks op b = false) : VT X Wx io v0 (.Compare a [op] [b] pos) (tst (prim P [oa, ob])) :=
  pt_mono (pt_cmpR ho ha hb hm) fun _ _ _ h => top_of hp (tst_of h)
theorem ve_cmp {op : CmpOp} {r : R2} {P : List W → Option W} (ho : OpR X (compareOp op) r) (hp : PrimOk X.K (rr2 r) P) (ha : VO X Wx io v0 a oa) (hb : VO X Wx io v0 b ob) (hm : behindInMarks op b = false) : VE X Wx io v0 (.Compare a [op] [b] pos) (prim P [oa, ob]) :=
  pe_mono (pe_cmpR ho ha hb hm) fun _ _ _ h => top_of hp h
theorem room65 {k : Nat} {A : Around} (hr : Room k A) : A.units + 65 < cLine := by have := hr.un; omega
theorem ve_eq (hr : Room k X.A) (ha : VO X Wx io v0 a oa) (hb : VO X Wx io v0 b ob) : VE X Wx io v0 (.Compare a [.Eq] [b] pos) (prim (PB eqF2) [oa, ob]) := ve_cmp (op_eqD hr.units) eq_ok ha hb (nomark _)
theorem ve_ne (hr : Room k X.A) (ha : VO X Wx io v0 a oa) (hb : VO X Wx io v0 b ob) : VE X Wx io v0 (.Compare a [.NotEq] [b] pos) (prim (PB neF2) [oa, ob]) := ve_cmp (op_neD hr.units) ne_ok ha hb (nomark _)
theorem ve_lt (hr : Room k X.A) (ha : VO X Wx io v0 a oa) (hb : VO X Wx io v0 b ob) : VE X Wx io v0 (.Compare a [.Lt] [b] pos) (prim (PB ltF2) [oa, ob]) := ve_cmp (op_ltA hr.units0) lt_ok ha hb (nomark _)
theorem ve_le (ha : VO X Wx io v0 a oa) (hb : VO X Wx io v0 b ob) : VE X Wx io v0 (.Compare a [.LtE] [b] pos) (prim (PB leF2) [oa, ob]) := ve_cmp op_le (cmp_ok _) ha hb (nomark _)
theorem ve_gt (ha : VO X Wx io v0 a oa) (hb : VO X Wx io v0 b ob) : VE X Wx io v0 (.Compare a [.Gt] [b] pos) (prim (PB gtF2) [oa, ob]) := ve_cmp op_gt (cmp_ok _) ha hb (nomark _)
theorem ve_ge (ha : VO X Wx io v0 a oa) (hb : VO X Wx io v0 b ob) : VE X Wx io v0 (.Compare a [.GtE] [b] pos) (prim (PB geF2) [oa, ob]) := ve_cmp op_ge (cmp_ok _) ha hb (nomark _)
theorem ve_is (ha : VO X Wx io v0 a oa) (hb : VO X Wx io v0 b ob) : VE X Wx io v0 (.Compare a [.Is] [b] pos) (prim (PB isF2) [oa, ob]) := ve_cmp op_isN is_ok ha hb (nomark _)
theorem ve_isnt (ha : VO X Wx io v0 a oa) (hb : VO X Wx io v0 b ob) : VE X Wx io v0 (.Compare a [.IsNot] [b] pos) (prim (PB isntF2) [oa, ob]) := ve_cmp op_notN isnt_ok ha hb (nomark _)
theorem ve_in (hr : Room k X.A) (ha : VO X Wx io v0 a oa) (hb : VO X Wx io v0 b ob) (hm : behindInMarks .In b = false := by rfl) : VE X Wx io v0 (.Compare a [.In] [b] pos) (prim (PB inF2) [oa, ob]) := ve_cmp (op_inA (room65 hr)) in_ok ha hb hm
theorem ve_notin (hr : Room k X.A) (ha : VO X Wx io v0 a oa) (hb : VO X Wx io v0 b ob) (hm : behindInMarks .NotIn b = false := by rfl) : VE X Wx io v0 (.Compare a [.NotIn] [b] pos) (prim (PB notInF2) [oa, ob]) := ve_cmp (op_notInA (room65 hr)) notIn_ok ha hb hm
theorem vt_eq (hr : Room k X.A) (ha : VO X Wx io v0 a oa) (hb : VO X Wx io v0 b ob) : VT X Wx io v0 (.Compare a [.Eq] [b] pos) (tst (prim (PB eqF2) [oa, ob])) := vt_cmp (op_eqD hr.units) eq_ok ha hb (nomark _)
theorem vt_ne (hr : Room k X.A) (ha : VO X Wx io v0 a oa) (hb : VO X Wx io v0 b ob) : VT X Wx io v0 (.Compare a [.NotEq] [b] pos) (tst (prim (PB neF2) [oa, ob])) := vt_cmp (op_neD hr.units) ne_ok ha hb (nomark _)
theorem vt_lt (hr : Room k X.A) (ha : VO X Wx io v0 a oa) (hb : VO X Wx io v0 b ob) : VT X Wx io v0 (.Compare a [.Lt] [b] pos) (tst (prim (PB ltF2) [oa, ob])) := vt_cmp (op_ltA hr.units0) lt_ok ha hb (nomark _)
theorem vt_le (ha : VO X Wx io v0 a oa) (hb : VO X Wx io v0 b ob) : VT X Wx io v0 (.Compare a [.LtE] [b] pos) (tst (prim (PB leF2) [oa, ob])) := vt_cmp op_le (cmp_ok _) ha hb (nomark _)
theorem vt_gt (ha : VO X Wx io v0 a oa) (hb : VO X Wx io v0 b ob) : VT X Wx io v0 (.Compare a [.Gt] [b] pos) (tst (prim (PB gtF2) [oa, ob])) := vt_cmp op_gt (cmp_ok _) ha hb (nomark _)
theorem vt_ge (ha : VO X Wx io v0 a oa) (hb : VO X Wx io v0 b ob) : VT X Wx io v0 (.Compare a [.GtE] [b] pos) (tst (prim (PB geF2) [oa, ob])) := vt_cmp op_ge (cmp_ok _) ha hb (nomark _)
theorem vt_is (ha : VO X Wx io v0 a oa) (hb : VO X Wx io v0 b ob) : VT X Wx io v0 (.Compare a [.Is] [b] pos) (tst (prim (PB isF2) [oa, ob])) := vt_cmp op_isN is_ok ha hb (nomark _)
theorem vt_isnt (ha : VO X Wx io v0 a oa) (hb : VO X Wx io v0 b ob) : VT X Wx io v0 (.Compare a [.IsNot] [b] pos) (tst (prim (PB isntF2) [oa, ob])) := vt_cmp op_notN isnt_ok ha hb (nomark _)
theorem vt_in (hr : Room k X.A) (ha : VO X Wx io v0 a oa) (hb : VO X Wx io v0 b ob) (hm : behindInMarks .In b = false := by rfl) : VT X Wx io v0 (.Compare a [.In] [b] pos) (tst (prim (PB inF2) [oa, ob])) := vt_cmp (op_inA (room65 hr)) in_ok ha hb hm
theorem vt_notin (hr : Room k X.A) (ha : VO X Wx io v0 a oa) (hb : VO X Wx io v0 b ob) (hm : behindInMarks .NotIn b = false := by rfl) : VT X Wx io v0 (.Compare a [.NotIn] [b] pos) (tst (prim (PB notInF2) [oa, ob])) := vt_cmp (op_notInA (room65 hr)) notIn_ok ha hb hm
/-! ### and, or, not, if else -/
def andT (f g : Env → R Bool) : Env → R Bool := fun ρ => (f ρ).bind fun b ρ' => if b = true then g ρ' else .ok false ρ'
def orT (f g : Env → R Bool) : Env → R Bool := fun ρ => (f ρ).bind fun b ρ' => if b = true then .ok true ρ' else g ρ'
def notT (f : Env → R Bool) : Env → R Bool := fun ρ => (f ρ).bind fun b ρ' => .ok (!b) ρ'
def ifE (t : Env → R Bool) (f g : Env → R W) : Env → R W := fun ρ => (t ρ).bind fun b ρ' => if b = true then f ρ' else g ρ'
def VW (X : Cx) (Wx : WX) (io : List Nat) (v0 : L2.St) (e : Expr) (f : Env → R Bool) : Prop := PW X e (tT X Wx io v0 f)
theorem vw_mono {t t' : TT} (h : PW X e t) (m : ∀ σ H Q, t' σ H Q → t σ H Q) : PW X e t' := ⟨fun wh pins s σ H Q I q => h.run wh pins s σ H Q I (m σ H Q q)⟩
theorem vt_w {f : Env → R Bool} (h : VW X Wx io v0 e f) : VT X Wx io v0 e f := PW.pt h
variable {f g : Env → R Bool}
theorem vw_and1 (h : VT X Wx io v0 a f) : VW X Wx io v0 (.BoolOp .And [a] pos) f := pw_and1 h
theorem vw_or1 (h : VT X Wx io v0 a f) : VW X Wx io v0 (.BoolOp .Or [a] pos) f := pw_or1 h
/-- a test, then what comes of it -/
theorem tT_bind {α : Type} {f : Env → R Bool} {g : Bool → Env → R α} {ρ : Env} {C : Hp} {F : Foot} {kk : α → Env → Prop} {Q : Bool → Hp → Prop} (s : St X.K io v0 ρ σ C H F) (p : RPost X Wx io v0 σ C H F ((f ρ).bind g) kk)
    (h : ∀ b ρ1 C1 H1 F1, To X.K io v0 C H F ρ1 σ C1 H1 F1 → RPost X Wx io v0 σ C H F (g b ρ1) kk → Q b H1) : tT X Wx io v0 f σ H Q :=
  ⟨ρ, C, F, s, (RPost.of_bind p).imp fun b ρ1 _ q C1 H1 F1 t => h b ρ1 C1 H1 F1 t q⟩
theorem tW_bind {α : Type} {f : Env → R W} {g : W → Env → R α} {ρ : Env} {C : Hp} {F : Foot} {kk : α → Env → Prop} {Q : VK} (s : St X.K io v0 ρ σ C H F) (p : RPost X Wx io v0 σ C H F ((f ρ).bind g) kk)
    (h : ∀ w ρ1 v C1 H1 G F1, ToV X.K io v0 C H F w v ρ1 σ C1 H1 G F1 → RPost X Wx io v0 σ C H F (g w ρ1) kk → Q v H1) : tW X Wx io v0 f σ H Q :=
  ⟨ρ, C, F, s, (RPost.of_bind p).imp fun b ρ1 _ q v C1 H1 G F1 t => h b ρ1 v C1 H1 G F1 t q⟩
theorem tT_at {f : Env → R Bool} {ρ ρ1 : Env} {C C1 H1 : Hp} {F F1 : Foot} {Q : Bool → Hp → Prop} (t : To X.K io v0 C H F ρ1 σ C1 H1 F1) (p : RPost X Wx io v0 σ C H F (f ρ1) fun b ρ' => ∀ C' H' F', To X.K io v0 C H F ρ' σ C' H' F' → Q b H') : tT X Wx io v0 f σ H1 Q :=
  ⟨ρ1, C1, F1, t.st, p.shift t fun b ρ' _ q C' H' F' t2 => q C' H' F' (t.trans t2)⟩
theorem tW_at {f : Env → R W} {ρ ρ1 : Env} {C C1 H1 : Hp} {F F1 : Foot} {Q : VK} (t : To X.K io v0 C H F ρ1 σ C1 H1 F1) (p : RPost X Wx io v0 σ C H F (f ρ1) fun w ρ' => ∀ v C' H' G F', ToV X.K io v0 C H F w v ρ' σ C' H' G F' → Q v H') : tW X Wx io v0 f σ H1 Q :=
  ⟨ρ1, C1, F1, t.st, p.shift t fun b ρ' _ q v C' H' G F' t2 => q v C' H' G F' (t.transV t2)⟩
theorem vw_and (h : VT X Wx io v0 a f) (h2 : VW X Wx io v0 (.BoolOp .And (b :: rest) pos) g) : VW X Wx io v0 (.BoolOp .And (a :: b :: rest) pos) (andT f g) := vw_mono (pw_and h h2) fun σ H Q q => by
  obtain ⟨ρ, C, F, s, p⟩ := q
  refine tT_bind s p fun c ρ1 C1 H1 F1 t p2 => ?_
  cases c with
  | true => exact tT_at (ρ := ρ) t p2
  | false => exact p2 C1 H1 F1 t
theorem vw_or (h : VT X Wx io v0 a f) (h2 : VW X Wx io v0 (.BoolOp .Or (b :: rest) pos) g) : VW X Wx io v0 (.BoolOp .Or (a :: b :: rest) pos) (orT f g) := vw_mono (pw_or h h2) fun σ H Q q => by
  obtain ⟨ρ, C, F, s, p⟩ := q
  refine tT_bind s p fun c ρ1 C1 H1 F1 t p2 => ?_
  cases c with
  | false => exact tT_at (ρ := ρ) t p2
  | true => exact p2 C1 H1 F1 t
theorem vt_not (h : VT X Wx io v0 a f) : VT X Wx io v0 (.UnaryOp .Not a pos) (notT f) := pt_mono (pt_not h) fun σ H Q q => by
  obtain ⟨ρ, C, F, s, p⟩ := q
  exact tT_bind s p fun c ρ1 C1 H1 F1 t p2 => p2 C1 H1 F1 t
theorem ve_if {fa fb : Env → R W} {c : Expr} (hc : VT X Wx io v0 c f) (ha : VE X Wx io v0 a fa) (hb : VE X Wx io v0 b fb) : VE X Wx io v0 (.IfExp c a b pos) (ifE f fa fb) := pe_mono (pe_ifExp hc ha hb) fun σ H Q q => by
  obtain ⟨ρ, C, F, s, p⟩ := q
  refine tT_bind s p fun c ρ1 C1 H1 F1 t p2 => ?_
  cases c with
  | true => exact tW_at (ρ := ρ) t p2
  | false => exact tW_at (ρ := ρ) t p2
/-- as values: all but the last are bools -/
def andE (f g : Env → R W) : Env → R W := fun ρ => (f ρ).bind fun w ρ' => match w with
  | .c (.bool true) => g ρ'
  | .c (.bool false) => .ok (.c (.bool false)) ρ'
  | _ => .stuck
def orE (f g : Env → R W) : Env → R W := fun ρ => (f ρ).bind fun w ρ' => match w with
  | .c (.bool false) => g ρ'
  | .c (.bool true) => .ok (.c (.bool true)) ρ'
  | _ => .stuck
def notE (f : Env → R W) : Env → R W := fun ρ => (f ρ).bind fun w ρ' => match w with
  | .c (.bool b) => .ok (.c (.bool !b)) ρ'
  | _ => .stuck
theorem ve_one {op} {f : Env → R W} (h : VE X Wx io v0 a f) : VE X Wx io v0 (.BoolOp op [a] pos) f := pe_one h
theorem ToV.bl {io : List Nat} {v0 : L2.St} {C C1 H H1 : Hp} {F F1 G : Foot} {w : W} {v : V} {ρ1 : Env} {σ : L2.St} (t : ToV X.K io v0 C H F w v ρ1 σ C1 H1 G F1) (d : PyData) (v' : V) (r : Rep X.K C1 v' d) : ToV X.K io v0 C H F (.c d) v' ρ1 σ C1 H1 Foot.none F1 :=
  ⟨t.to, New.zero, fun _ z => z.elim, .c r fun _ z => z⟩
theorem ve_and {fa fb : Env → R W} (ha : VE X Wx io v0 a fa) (hb : VE X Wx io v0 (.BoolOp .And (b :: rest) pos) fb) : VE X Wx io v0 (.BoolOp .And (a :: b :: rest) pos) (andE fa fb) := pe_mono (pe_and ha hb) fun σ H Q q => by
  obtain ⟨ρ, C, F, s, p⟩ := q
  refine tW_bind s p fun w ρ1 v C1 H1 G F1 t p2 => ?_
  split at p2
  · exact ⟨true, rep_bl (own_c t.own), tW_at (ρ := ρ) t.to p2⟩
  · exact ⟨false, rep_bl (own_c t.own), p2 _ C1 H1 _ F1 (t.bl _ _ (.bl false))⟩
  · exact p2.elim
theorem ve_or {fa fb : Env → R W} (ha : VE X Wx io v0 a fa) (hb : VE X Wx io v0 (.BoolOp .Or (b :: rest) pos) fb) : VE X Wx io v0 (.BoolOp .Or (a :: b :: rest) pos) (orE fa fb) := pe_mono (pe_or ha hb) fun σ H Q q => by
  obtain ⟨ρ, C, F, s, p⟩ := q
  refine tW_bind s p fun w ρ1 v C1 H1 G F1 t p2 => ?_
  split at p2
  · exact ⟨false, rep_bl (own_c t.own), tW_at (ρ := ρ) t.to p2⟩
  · exact ⟨true, rep_bl (own_c t.own), p2 _ C1 H1 _ F1 (t.bl _ _ (.bl true))⟩
  · exact p2.elim
theorem ve_not {fa : Env → R W} (ha : VE X Wx io v0 a fa) : VE X Wx io v0 (.UnaryOp .Not a pos) (notE fa) := pe_mono (pe_not ha) fun σ H Q q => by
  obtain ⟨ρ, C, F, s, p⟩ := q
  refine tW_bind s p fun w ρ1 v C1 H1 G F1 t p2 => ?_
  split at p2
  · rename_i c
    exact ⟨c, rep_bl (own_c t.own), p2 _ C1 H1 _ F1 (t.bl _ _ (.bl (!c)))⟩
  · exact p2.elim
/-! chains of comparisons of ints -/
def intOf (f : Env → R W) (g : Int → Env → R Bool) : Env → R Bool := fun ρ => (f ρ).bind fun w ρ' => match w with
  | .c (.int i) => g i ρ'
  | _ => .stuck
def chain2 (p p' : Int → Int → Bool) (fa fb fc : Env → R W) : Env → R Bool := intOf fa fun i => intOf fb fun j ρ => if p i j = true then intOf fc (fun k ρ => .ok (p' j k) ρ) ρ else .ok false ρ
theorem intOf_at {α : Type} {f : Env → R W} {g : Int → Env → R Bool} {ρ : Env} {C : Hp} {F : Foot} {kk : Bool → Env → Prop} {Q : VK} (s : St X.K io v0 ρ σ C H F) (p : RPost X Wx io v0 σ C H F (intOf f g ρ) kk)
    (h : ∀ i ρ1 C1 H1 F1, To X.K io v0 C H F ρ1 σ C1 H1 F1 → RPost X Wx io v0 σ C H F (g i ρ1) kk → Q (.int i) H1) : tW X Wx io v0 f σ H Q := by
  refine tW_bind s p fun w ρ1 v C1 H1 G F1 t p2 => ?_
  split at p2
  · rename_i i
    rw [rep_int (own_c t.own)]
    exact h i ρ1 C1 H1 F1 t.to p2
  · exact p2.elim
theorem chain2_of {p p' : Int → Int → Bool} {fa fb fc : Env → R W} {Q : Bool → Hp → Prop} (q : tT X Wx io v0 (chain2 p p' fa fb fc) σ H Q) :
    tTest (tChain (rI0 fun i j => .bl (p i j)) (rI0 fun i j => .bl (p' i j)) (tW X Wx io v0 fa) (tW X Wx io v0 fb) (tW X Wx io v0 fc)) σ H Q := by
  obtain ⟨ρ, C, F, s, pp⟩ := q
  refine intOf_at (α := Bool) s pp fun i ρ1 C1 H1 F1 t p2 => ?_
  have p3 := p2.shift t (k' := fun b ρ' => ∀ C' H' F', To X.K io v0 C1 H1 F1 ρ' σ C' H' F' → Q b H') fun b ρ' _ q C' H' F' t2 => q C' H' F' (t.trans t2)
  refine intOf_at (α := Bool) t.st p3 fun j ρ2 C2 H2 F2 t2 p4 => ?_
  refine ⟨i, j, rfl, rfl, p i j, rfl, ?_⟩
  cases hp : p i j with
  | false =>
    rw [hp] at p4
    exact ⟨false, rfl, p4 C2 H2 F2 t2⟩
  | true =>
    rw [hp] at p4
    have p5 : RPost X Wx io v0 σ C1 H1 F1 (intOf fc (fun k ρ => .ok (p' j k) ρ) ρ2) _ := p4
    have p6 := p5.shift t2 (k' := fun b ρ' => ∀ C' H' F', To X.K io v0 C2 H2 F2 ρ' σ C' H' F' → Q b H') fun b ρ' _ q C' H' F' t3 => q C' H' F' (t2.trans t3)
    exact intOf_at (α := Bool) t2.st p6 fun l ρ3 C3 H3 F3 t3 p7 => ⟨j, l, rfl, rfl, p' j l, rfl, p7 C3 H3 F3 t3⟩
theorem tTest_E {t : TE} {Q : VK} (h : tTest t σ H fun b H' => Q (.bl b) H') (m : ∀ {Q Q' : VK}, (∀ v H, Q v H → Q' v H) → t σ H Q → t σ H Q') : t σ H Q := m (fun v H' ⟨b, e, q⟩ => by rw [e]; exact q) h
theorem vt_chain {op op' : CmpOp} {p p' : Int → Int → Bool} {fa fb fc : Env → R W} {c : Expr} (ho : OpR X (compareOp op) (rI0 fun i j => .bl (p i j))) (ho' : OpR X (compareOp op') (rI0 fun i j => .bl (p' i j))) (ha : VE X Wx io v0 a fa) (hb : VE X Wx io v0 b fb) (hc : VE X Wx io v0 c fc)
    (hm : lastMarks [op, op'] [b, c] = false := by with_unfolding_all rfl) : VT X Wx io v0 (.Compare a [op, op'] [b, c] pos) (chain2 p p' fa fb fc) := pt_mono (pt_chain ho ho' ha hb hc hm) fun _ _ _ h => chain2_of h
theorem tW_mono {f : Env → R W} {Q Q' : VK} (m : ∀ v H, Q v H → Q' v H) (q : tW X Wx io v0 f σ H Q) : tW X Wx io v0 f σ H Q' := tO_mono (o := .val f) m q
theorem ve_chain {op op' : CmpOp} {p p' : Int → Int → Bool} {fa fb fc : Env → R W} {c : Expr} (ho : OpR X (compareOp op) (rI0 fun i j => .bl (p i j))) (ho' : OpR X (compareOp op') (rI0 fun i j => .bl (p' i j))) (ha : VE X Wx io v0 a fa) (hb : VE X Wx io v0 b fb) (hc : VE X Wx io v0 c fc)
    (hm : lastMarks [op, op'] [b, c] = false := by with_unfolding_all rfl) : VE X Wx io v0 (.Compare a [op, op'] [b, c] pos) (asW (chain2 p p' fa fb fc)) := pe_mono (pe_chain ho ho' ha hb hc hm) fun σ H Q q => by
  have h : tT X Wx io v0 (chain2 p p' fa fb fc) σ H fun b H' => Q (.bl b) H' := by
    obtain ⟨ρ, C, F, s, p⟩ := q
    exact ⟨ρ, C, F, s, (RPost.of_bind p).imp fun b ρ1 _ q C1 H1 F1 t => q _ C1 H1 Foot.none F1 ⟨t, New.zero, fun _ z => z.elim, .c (.bl b) fun _ z => z⟩⟩
  refine tTest_E (chain2_of h) fun {Q Q'} m h => ?_
  refine tW_mono (fun x H1 q => tW_mono (fun y H2 q => ?_) q) h
  obtain ⟨i, j, e1, e2, k, e3, q⟩ := q
  refine ⟨i, j, e1, e2, k, e3, ?_⟩
  cases k with
  | false => exact m _ _ q
  | true => exact tW_mono (fun z H3 q => by obtain ⟨i, j, e1, e2, q⟩ := q; exact ⟨i, j, e1, e2, m _ _ q⟩) q
end
end VL
set_option maxHeartbeats 4000000
namespace VL
open PySem PySem.Spec PyProof.Rows L2
/-! ### freezing a value; displays -/
def frzE (f : Env → R W) : Env → R W := fun ρ => (f ρ).bind fun w ρ' => match fz w with
  | some d => .ok (.c d) ρ'
  | none => .stuck
section
variable {X : Cx} {Wx : WX} {io : List Nat} {v0 : L2.St} {σ : L2.St} {H : Hp} {o oa ob : Opd} {os : List Opd} {a b e : Expr} {es rest : List Expr} {pos : Pos} {k : Nat}
theorem ve_frz {f : Env → R W} (h : VE X Wx io v0 e f) : VE X Wx io v0 e (frzE f) := pe_mono h fun σ H Q q => by
  obtain ⟨ρ, C, F, s, p⟩ := q
  refine tW_bind s p fun w ρ1 v C1 H1 G F1 t p2 => ?_
  split at p2
  · rename_i d hd
    have sb := t.to.st.sub
    have st : Step C1 H1 G (addF C1 H1 G) H1 := addF_step sb
    refine p2 v (addF C1 H1 G) H1 Foot.none F1 ⟨⟨t.to.step.trans st t.newv, t.to.new, ⟨t.to.st.env.carry st fun a z y => t.dis a y z, addF_sub sb, t.to.st.fix⟩⟩, New.zero, fun _ z => z.elim, .c (t.own.freeze sb hd) fun _ z => z⟩
  · exact p2.elim
def tupF (ws : List W) : Option W := match colds ws with
  | some ds => if ws.length ≤ 1000 then some (.c (.tuple ds)) else none
  | none => none
def lstF (ws : List W) : Option W := match colds ws with
  | some _ => if ws.length ≤ 1000 then some (.l ws) else none
  | none => none
theorem ownL_colds {K : PySem.W.Frag} {C H : Hp} : ∀ {ds : List PyData} {vs : List V}, OwnL K C H (ds.map .c) vs → RepAll K C vs ds
  | [], _, o => by cases o; exact .nil
  | d :: ds, _, o => by
    have o' : OwnL K C H (.c d :: ds.map .c) _ := o
    cases o' with
    | cons a b => exact .cons (own_c a) (ownL_colds b)
theorem small_line {n : Nat} (h : n ≤ 1000) : n ≤ sizeLine := Nat.le_of_lt (small1000 h)
theorem tup_ok {K : PySem.W.Frag} : PrimOk K (fun vs H Q => vs.length ≤ sizeLine ∧ ∀ p, H p = none → Q (.ref p) (upd H p (.tup vs))) tupF := fun C H ws vs w Q s o e q => by
  unfold tupF at e
  split at e
  · rename_i ds h
    split at e
    · rename_i hz
      cases e
      rw [colds_eq h] at o hz
      have t := ownL_colds o
      exact ⟨by rw [t.length]; exact small_line (by simpa using hz), fun p hp => end_t s q t hp⟩
    · cases e
  · cases e
theorem lst_ok {K : PySem.W.Frag} : PrimOk K (fun vs H Q => vs.length ≤ sizeLine ∧ ∀ p, H p = none → Q (.ref p) (upd H p (.lst vs))) lstF := fun C H ws vs w Q s o e q => by
  unfold lstF at e
  split at e
  · rename_i ds h
    split at e
    · rename_i hz
      cases e
      have e2 := colds_eq h
      subst e2
      have t := ownL_colds o
      exact ⟨by rw [t.length]; exact small_line (by simpa using hz), fun p hp => end_l s q t hp⟩
    · cases e
  · cases e
theorem ve_tup {n} (ha : VA X Wx io v0 es os) : VE X Wx io v0 (.Tuple es n pos) (prim tupF os) := pe_mono (pe_tup ha) fun σ H Q h => prim_of tup_ok h
theorem ve_lst (ha : VA X Wx io v0 es os) : VE X Wx io v0 (.List es pos) (prim lstF os) := pe_mono (pe_lst ha) fun σ H Q h => prim_of lst_ok h
def putNew (w : W) : Env → R W := fun ρ => .ok w ρ
theorem ve_dk : VE X Wx io v0 (.Dict [] [] pos) (putNew (.dk [])) := pe_mono pe_dnewK fun σ H Q q p hp => by
  obtain ⟨ρ, C, F, s, q⟩ := q
  have hc := free_sub s.sub hp
  have s2 : Same H (upd H p (.dK [])) := fun b x e => by rw [upd_ne (ne_of_none e hp)]; exact e
  have st : Step C H Foot.none C (upd H p (.dK [])) := ⟨Same.refl C, fun a o e _ => s2 a o e, fun a z => .inl z⟩
  refine q (.ref p) C _ (fun a => a = p) F ⟨⟨st.mono fun _ z => z.elim, New.refl, s.carry st (fun _ _ z => z.elim) (s.sub.trans s2)⟩, fun a z => .inr (by rw [z]; exact hp), fun a z y => ?_, .dk (kvs := []) upd_same hc rfl (.nil (F := Foot.none) fun _ z => z) (fun z => z) fun a => ⟨fun z => .inl z, fun z => z.elim id fun z => z.elim⟩⟩
  exact (s.env.foot y).1 (by rw [z]; exact hp)
theorem ve_dt : VE X Wx io v0 (.Dict [] [] pos) (putNew (.dt [])) := pe_mono pe_dnewT fun σ H Q q p hp => by
  obtain ⟨ρ, C, F, s, q⟩ := q
  have hc := free_sub s.sub hp
  have s2 : Same H (upd H p (.dT [])) := fun b x e => by rw [upd_ne (ne_of_none e hp)]; exact e
  have st : Step C H Foot.none C (upd H p (.dT [])) := ⟨Same.refl C, fun a o e _ => s2 a o e, fun a z => .inl z⟩
  refine q (.ref p) C _ (fun a => a = p) F ⟨⟨st.mono fun _ z => z.elim, New.refl, s.carry st (fun _ _ z => z.elim) (s.sub.trans s2)⟩, fun a z => .inr (by rw [z]; exact hp), fun a z y => ?_, .dt (kvs := []) upd_same hc rfl (.nil (F := Foot.none) fun _ z => z) (fun z => z) fun a => ⟨fun z => .inl z, fun z => z.elim id fun z => z.elim⟩⟩
  exact (s.env.foot y).1 (by rw [z]; exact hp)
/-! ### subscripts, slices -/
theorem ve_ix (hr : Room k X.A) (ha : VO X Wx io v0 a oa) (hb : VO X Wx io v0 b ob) (hs : PlainIx b := by exact fun _ _ => rfl) : VE X Wx io v0 (.Subscript a b pos) (prim (P2 ixF2) [oa, ob]) :=
  pe_mono (pe_ix (ix_A (hu_of hr)) ha hb hs) fun _ _ _ h => top_of ix_ok h
def cutA {α : Type} (xs : List α) (lo hi : Option Int) : List α := (xs.drop (HT.sIx xs.length 0 lo)).take (HT.sIx xs.length xs.length hi - HT.sIx xs.length 0 lo)
theorem RepAll.cut {K : PySem.W.Frag} {C : Hp} {xs : List V} {ds : List PyData} (t : RepAll K C xs ds) (lo hi : Option Int) : RepAll K C (cutV xs lo hi) (cutA ds lo hi) := by
  unfold cutV cutA
  rw [t.length]
  exact (t.drop _).take _
def slF (w : W) (lo hi : Option Int) : Option W := match w with
  | .c (.str z) => if z.length ≤ sizeLine then some (.c (.str (cutS z lo hi))) else none
  | .c (.tuple ds) => some (.c (.tuple (cutA ds lo hi)))
  | .ks true ds => some (.l ((cutA ds lo hi).map .c))
  | w => (litems w).map fun ds => .l ((cutA ds lo hi).map .c)
def rSlAA (K : PySem.W.Frag) : V → Option Int → Option Int → Hp → VK → Prop := fun x lo hi H Q => rSlL K x lo hi H Q ∨ (rSlA K x lo hi H Q ∨ rSlS x lo hi H Q)
theorem sl_AA : SlR X (rSlAA X.K) := sl_list.or (sl_tupA.or sl_str)
theorem sl_way {K : PySem.W.Frag} {C H : Hp} {w w' : W} {v : V} {F : Foot} {lo hi : Option Int} {Q : VK} (s : Same C H) (o : Own K C H w v F) (e : slF w lo hi = some w')
    (q : ∀ v C' H' G, Step C H Foot.none C' H' → New H Foot.none G → Same C' H' → Own K C' H' w' v G → Q v H') : rSlAA K v lo hi H Q := by
  unfold slF at e
  split at e
  · split at e
    · cases e
      exact .inr (.inr ⟨_, rep_str (own_c o), by assumption, end_sc s q (.str _)⟩)
    · cases e
  · cases e
    obtain ⟨a, xs, rfl, h1, h2⟩ := rep_tup' (own_c o)
    refine .inr (.inl ⟨a, xs, rfl, SqT.of (s _ _ h1), fun hw => ?_, fun _ p hp => end_t s q (h2.cut lo hi) hp⟩)
    have e1 : cutV xs lo hi = xs := by
      unfold cutV
      rw [hw.1, hw.2]
      simp
    have t := h2.cut lo hi
    rw [e1] at t
    exact end_sc s q (.tup h1 t)
  · cases e
    cases o with
    | ks h1 h2 n => exact .inl ⟨_, _, rfl, same_l s h1, fun p hp => end_l s q (h2.cut lo hi) hp⟩
  · cases e2 : litems w with
    | none => rw [e2] at e; cases e
    | some ds =>
      rw [e2] at e
      simp only [Option.map_some, Option.some.injEq] at e
      subst e
      obtain ⟨a, xs, rfl, h1, h2⟩ := litems_ok o s e2
      exact .inl ⟨a, xs, rfl, .inl h1, fun p hp => end_l s q (h2.cut lo hi) hp⟩
def sl00 : List W → Option W
  | [a] => slF a none none
  | _ => none
def sl10 : List W → Option W
  | [a, .c (.int i)] => slF a (some i) none
  | _ => none
def sl01 : List W → Option W
  | [a, .c (.int j)] => slF a none (some j)
  | _ => none
def sl11 : List W → Option W
  | [a, .c (.int i), .c (.int j)] => slF a (some i) (some j)
  | _ => none
theorem sl00_ok {K : PySem.W.Frag} : PrimOk K (fun vs H Q => ∃ x, vs = [x] ∧ rSlAA K x none none H Q) sl00 := fun C H ws vs w Q s o e q => by
  unfold sl00 at e
  split at e
  · obtain ⟨x, F, rfl, o1⟩ := ownL1 o
    exact ⟨x, rfl, sl_way s o1 e q⟩
  · cases e
theorem sl10_ok {K : PySem.W.Frag} : PrimOk K (fun vs H Q => ∃ x y, vs = [x, y] ∧ ∃ i, y = .int i ∧ rSlAA K x (some i) none H Q) sl10 := fun C H ws vs w Q s o e q => by
  unfold sl10 at e
  split at e
  · obtain ⟨x, y, F, G, rfl, o1, o2⟩ := ownL2 o
    exact ⟨x, y, rfl, _, rep_int (own_c o2), sl_way s o1 e q⟩
  · cases e
theorem sl01_ok {K : PySem.W.Frag} : PrimOk K (fun vs H Q => ∃ x y, vs = [x, y] ∧ ∃ i, y = .int i ∧ rSlAA K x none (some i) H Q) sl01 := fun C H ws vs w Q s o e q => by
  unfold sl01 at e
  split at e
  · obtain ⟨x, y, F, G, rfl, o1, o2⟩ := ownL2 o
    exact ⟨x, y, rfl, _, rep_int (own_c o2), sl_way s o1 e q⟩
  · cases e
theorem sl11_ok {K : PySem.W.Frag} : PrimOk K (fun vs H Q => ∃ x y z, vs = [x, y, z] ∧ ∃ i j, y = .int i ∧ z = .int j ∧ rSlAA K x (some i) (some j) H Q) sl11 := fun C H ws vs w Q s o e q => by
  unfold sl11 at e
  split at e
  · obtain ⟨x, y, z, F, G, J, rfl, o1, o2, o3⟩ := ownL3 o
    exact ⟨x, y, z, rfl, _, _, rep_int (own_c o2), rep_int (own_c o3), sl_way s o1 e q⟩
  · cases e
variable {flo fhi : Env → R W} {lo hi : Expr} {p2 : Pos}
theorem ve_sl00 (ha : VO X Wx io v0 a oa) : VE X Wx io v0 (.Subscript a (.Slice none none none p2) pos) (prim sl00 [oa]) :=
  pe_mono (pe_slice sl_AA ha po_none po_none) fun σ H Q h => tO_mono (fun x H1 q => by
    obtain ⟨x', e, h⟩ := tAs_nil q
    cases e; exact h) (tAs_cons (prim_of sl00_ok h))
theorem ve_sl10 (ha : VO X Wx io v0 a oa) (hl : VO X Wx io v0 lo (.val flo)) : VE X Wx io v0 (.Subscript a (.Slice (some lo) none none p2) pos) (prim sl10 [oa, .val flo]) :=
  pe_mono (pe_slice sl_AA ha (po_some hl) po_none) fun σ H Q h => tO_mono (fun x H1 q => tO_mono (o := .val flo) (fun y H2 q => by
    obtain ⟨x', y', e, i, e2, h⟩ := tAs_nil q
    cases e; exact ⟨i, e2, h⟩) (tAs_cons q)) (tAs_cons (prim_of sl10_ok h))
theorem ve_sl01 (ha : VO X Wx io v0 a oa) (hl : VO X Wx io v0 hi (.val fhi)) : VE X Wx io v0 (.Subscript a (.Slice none (some hi) none p2) pos) (prim sl01 [oa, .val fhi]) :=
  pe_mono (pe_slice sl_AA ha po_none (po_some hl)) fun σ H Q h => tO_mono (fun x H1 q => tO_mono (o := .val fhi) (fun y H2 q => by
    obtain ⟨x', y', e, i, e2, h⟩ := tAs_nil q
    cases e; exact ⟨i, e2, h⟩) (tAs_cons q)) (tAs_cons (prim_of sl01_ok h))
def intE (f : Env → R W) : Env → R W := fun ρ => (f ρ).bind fun w ρ' => match w with
  | .c (.int i) => .ok (.c (.int i)) ρ'
  | _ => .stuck
theorem tAs_int {f : Env → R W} {Q : List V → Hp → Prop} (h : tAs X Wx io v0 (.val (intE f) :: os) σ H Q) : tW X Wx io v0 f σ H fun x H1 => ∃ i : Int, x = .int i ∧ tAs X Wx io v0 os σ H1 fun xs H2 => Q (x :: xs) H2 := by
  obtain ⟨ρ, C, F, s, p⟩ := h
  have p' : RPost X Wx io v0 σ C H F (((f ρ).bind fun w ρ' => match w with
    | .c (.int i) => .ok (.c (.int i)) ρ'
    | _ => .stuck).bind fun w ρ1 => (evs os ρ1).bind fun ts ρ2 => .ok (.v w :: ts) ρ2) _ := p
  refine tW_bind s (RPost.of_bind p') fun w ρ1 v C1 H1 G F1 t p2 => ?_
  split at p2
  · rename_i i
    have ev := rep_int (own_c t.own)
    subst ev
    refine ⟨i, rfl, ?_⟩
    have p3 : RPost X Wx io v0 σ C H F ((evs os ρ1).bind fun ts ρ2 => .ok (.v (.c (.int i)) :: ts) ρ2) _ := p2
    refine ⟨ρ1, C1, F1, t.to.st, (RPost.of_bind p3).shift t.to fun ts ρ2 _ q2 => fun vs C2 H2 G2 F2 t2 => ?_⟩
    have q2' : ∀ vs C' H' G F', ToT X.K io v0 C H F (.v (.c (.int i)) :: ts) vs ρ2 σ C' H' G F' → Q vs H' := q2
    refine q2' (.int i :: vs) C2 H2 G2 F2 ⟨t.to.trans t2.to, New.trans t.to.step t.to.new t2.newv, t2.dis, .v (.c (F := Foot.none) (.int i) fun _ z => z) t2.own (fun _ z => z.elim) fun a => ⟨.inr, fun z => z.elim (fun z => z.elim) id⟩⟩
  · exact p2.elim
theorem ve_sl11 (ha : VO X Wx io v0 a oa) (hl : VE X Wx io v0 lo flo) (hh : VE X Wx io v0 hi fhi) : VE X Wx io v0 (.Subscript a (.Slice (some lo) (some hi) none p2) pos) (prim sl11 [oa, .val (intE flo), .val (intE fhi)]) :=
  pe_mono (pe_slice sl_AA ha (po_some hl) (po_some hh)) fun σ H Q h => tO_mono (fun x H1 q => tW_mono (fun y H2 q => by
    obtain ⟨i, ey, q⟩ := q
    refine ⟨i, ey, tW_mono (fun z H3 q => ?_) (tAs_int q)⟩
    obtain ⟨j, ez, q⟩ := q
    obtain ⟨x', y', z', e, i', j', e2, e3, h⟩ := tAs_nil q
    cases e
    subst ey ez
    cases e2
    cases e3
    exact ⟨j, rfl, h⟩) (tAs_int q)) (tAs_cons (prim_of sl11_ok h))
end
/-! ### calls of built-ins -/
section
variable {X : Cx} {Wx : WX} {io : List Nat} {v0 : L2.St} {os : List Opd} {e : Expr} {es : List Expr} {pos p : Pos} {k : Nat} {x : Str} {id T : String} {r : List V → Hp → VK → Prop} {P : List W → Option W}
theorem ve_callB (hc : CallR X (.builtin id) r) (hp : PrimOk X.K r P) (hg : Gl X x) (hm : X.mg x = none) (hv : bootBuiltins x = some (.builtin id)) (ha : VA X Wx io v0 (e :: es) os) (hn : x ≠ "__name__" := by decide) (hdb : (x == ("__debug__" : Str)) = false := by decide)
    (he : starEach (e :: es) X.env = (false, eval e X.env) :: starEach es X.env := by rfl) (hpl : (backTo pos (starEach es X.env)).any (·.1) = false := by rfl) : VE X Wx io v0 (.Call (.Name x p) (e :: es) [] pos) (prim P os) :=
  pe_mono (pe_callB hc hg hm hv ha hn hdb he hpl) fun σ H Q h => prim_of hp h
theorem ve_callTy (hc : CallR X (.type T) r) (hp : PrimOk X.K r P) (hg : Gl X x) (hm : X.mg x = none) (hv : bootBuiltins x = some (.type T)) (ha : VA X Wx io v0 (e :: es) os) (hn : x ≠ "__name__" := by decide) (hdb : (x == ("__debug__" : Str)) = false := by decide)
    (he : starEach (e :: es) X.env = (false, eval e X.env) :: starEach es X.env := by rfl) (hpl : (backTo pos (starEach es X.env)).any (·.1) = false := by rfl) : VE X Wx io v0 (.Call (.Name x p) (e :: es) [] pos) (prim P os) :=
  pe_mono (pe_callTy hc hg hm hv ha hn hdb he hpl) fun σ H Q h => prim_of hp h
theorem CallR.or {f : Value} {r r' : List V → Hp → VK → Prop} (h : CallR X f r) (h' : CallR X f r') : CallR X f (fun xs H Q => r xs H Q ∨ r' xs H Q) := by
  intro pins s σ H xs us Q I rv q
  rcases q with q | q
  · exact h pins s σ H xs us Q I rv q
  · exact h' pins s σ H xs us Q I rv q
/-! int(x), abs(x) -/
def intF : W → Option W
  | .c (.int i) => some (.c (.int i))
  | .c (.bool b) => some (.c (.int (if b then 1 else 0)))
  | _ => none
theorem int_ok {K : PySem.W.Frag} : PrimOk K (fun xs H Q => (∃ i, xs = [.int i] ∧ Q (.int i) H) ∨ ∃ k, xs = [.bl k] ∧ Q (.int (if k then 1 else 0)) H) (P1 intF) := fun C H ws vs w Q s o e q => by
  match ws, e with
  | [a], e =>
    obtain ⟨x, F, rfl, o1⟩ := ownL1 o
    have e : intF a = some w := e
    unfold intF at e
    split at e
    · cases e
      exact .inl ⟨_, by rw [rep_int (own_c o1)], end_sc s q (.int _)⟩
    · cases e
      exact .inr ⟨_, by rw [rep_bl (own_c o1)], end_sc s q (.int _)⟩
    · cases e
theorem ve_int1 (hg : Gl X "int") (hm : X.mg "int" = none) (ha : VA X Wx io v0 (e :: es) os) (he : starEach (e :: es) X.env = (false, eval e X.env) :: starEach es X.env := by rfl) (hpl : (backTo pos (starEach es X.env)).any (·.1) = false := by rfl) :
    VE X Wx io v0 (.Call (.Name "int" p) (e :: es) [] pos) (prim (P1 intF) os) := ve_callTy call_int1 int_ok hg hm (by decide +kernel) ha (by decide) (by decide) he hpl
def absF : W → Option W
  | .c (.int i) => some (.c (.int (if i < 0 then -i else i)))
  | _ => none
theorem abs_ok {K : PySem.W.Frag} : PrimOk K (fun xs H Q => ∃ i, xs = [.int i] ∧ Q (.int (if i < 0 then -i else i)) H) (P1 absF) := fun C H ws vs w Q s o e q => by
  match ws, e with
  | [a], e =>
    obtain ⟨x, F, rfl, o1⟩ := ownL1 o
    have e : absF a = some w := e
    unfold absF at e
    split at e
    · cases e
      exact ⟨_, by rw [rep_int (own_c o1)], end_sc s q (.int _)⟩
    · cases e
theorem ve_abs (hg : Gl X "abs") (hm : X.mg "abs" = none) (ha : VA X Wx io v0 (e :: es) os) (he : starEach (e :: es) X.env = (false, eval e X.env) :: starEach es X.env := by rfl) (hpl : (backTo pos (starEach es X.env)).any (·.1) = false := by rfl) :
    VE X Wx io v0 (.Call (.Name "abs" p) (e :: es) [] pos) (prim (P1 absF) os) := ve_callB call_abs abs_ok hg hm (by decide +kernel) ha (by decide) (by decide) he hpl
/-! min(a, b), max(a, b) -/
def min2F : W → W → Option W
  | .c (.int i), .c (.int j) => some (.c (.int (if j < i then j else i)))
  | _, _ => none
def max2F : W → W → Option W
  | .c (.int i), .c (.int j) => some (.c (.int (if j > i then j else i)))
  | _, _ => none
theorem min2_ok {K : PySem.W.Frag} : PrimOk K (fun xs H Q => ∃ i j, xs = [.int i, .int j] ∧ Q (.int (if j < i then j else i)) H) (P2 min2F) := fun C H ws vs w Q s o e q => by
  match ws, e with
  | [a, b], e =>
    obtain ⟨x, y, F, G, rfl, o1, o2⟩ := ownL2 o
    have e : min2F a b = some w := e
    unfold min2F at e
    split at e
    · cases e
      exact ⟨_, _, by rw [rep_int (own_c o1), rep_int (own_c o2)], end_sc s q (.int _)⟩
    · cases e
theorem max2_ok {K : PySem.W.Frag} : PrimOk K (fun xs H Q => ∃ i j, xs = [.int i, .int j] ∧ Q (.int (if j > i then j else i)) H) (P2 max2F) := fun C H ws vs w Q s o e q => by
  match ws, e with
  | [a, b], e =>
    obtain ⟨x, y, F, G, rfl, o1, o2⟩ := ownL2 o
    have e : max2F a b = some w := e
    unfold max2F at e
    split at e
    · cases e
      exact ⟨_, _, by rw [rep_int (own_c o1), rep_int (own_c o2)], end_sc s q (.int _)⟩
    · cases e
theorem ve_min2 (hc : X.calm = true) (hg : Gl X "min") (hm : X.mg "min" = none) (ha : VA X Wx io v0 (e :: es) os) (he : starEach (e :: es) X.env = (false, eval e X.env) :: starEach es X.env := by rfl) (hpl : (backTo pos (starEach es X.env)).any (·.1) = false := by rfl) :
    VE X Wx io v0 (.Call (.Name "min" p) (e :: es) [] pos) (prim (P2 min2F) os) := ve_callB (call_min2 hc) min2_ok hg hm (by decide +kernel) ha (by decide) (by decide) he hpl
theorem ve_max2 (hc : X.calm = true) (hg : Gl X "max") (hm : X.mg "max" = none) (ha : VA X Wx io v0 (e :: es) os) (he : starEach (e :: es) X.env = (false, eval e X.env) :: starEach es X.env := by rfl) (hpl : (backTo pos (starEach es X.env)).any (·.1) = false := by rfl) :
    VE X Wx io v0 (.Call (.Name "max" p) (e :: es) [] pos) (prim (P2 max2F) os) := ve_callB (call_max2 hc) max2_ok hg hm (by decide +kernel) ha (by decide) (by decide) he hpl
/-! len -/
def lenF : W → Option W
  | .c (.list ds) => some (.c (.int ds.length))
  | .c (.tuple ds) => some (.c (.int ds.length))
  | .c (.str z) => if z.length ≤ sizeLine then some (.c (.int z.length)) else none
  | .l ws => some (.c (.int ws.length))
  | .dk kws => some (.c (.int kws.length))
  | .dt kws => some (.c (.int kws.length))
  | .ks _ ds => some (.c (.int ds.length))
  | _ => none
def rLenDk : List V → Hp → VK → Prop := fun xs H Q => ∃ a kvs, xs = [.ref a] ∧ Rd H a (.dK kvs) ∧ Q (.int ((kvs.length : Nat) : Int)) H
theorem call_len_dk : CallR X (.builtin "len") rLenDk := by
  intro pins s σ H xs us Q I r h
  obtain ⟨p, kvs, rfl, hp, q⟩ := h
  obtain ⟨u, rfl, rx⟩ := vals1 r
  obtain rfl : u = .ref p := rx
  exact d_len I hp fun t s' I' => ⟨V.int _, H, I', ⟨t, rfl⟩, q⟩
def rLenA (K : PySem.W.Frag) : List V → Hp → VK → Prop := fun xs H Q => (∃ p ys, xs = [.ref p] ∧ (SqL K H p ys ∨ SqT K H p ys) ∧ Q (.int ys.length) H) ∨ ((∃ z, xs = [.str z] ∧ z.length ≤ sizeLine ∧ Q (.int z.length) H) ∨ (rLenDk xs H Q ∨ rLenT xs H Q))
theorem call_lenA : CallR X (.builtin "len") (rLenA X.K) := CallR.or call_len_seq (CallR.or call_len_str (CallR.or call_len_dk call_len_dT))
theorem len_ok {K : PySem.W.Frag} : PrimOk K (rLenA K) (P1 lenF) := fun C H ws vs w Q s o e q => by
  match ws, e with
  | [a], e =>
    obtain ⟨x, F, rfl, o1⟩ := ownL1 o
    have e : lenF a = some w := e
    unfold lenF at e
    split at e
    · cases e
      obtain ⟨p, xs, rfl, h1, h2⟩ := rep_lst (own_c o1)
      exact .inl ⟨p, xs, rfl, .inl (.inl (same_rd s h1)), by rw [h2.length]; exact end_sc s q (.int _)⟩
    · cases e
      obtain ⟨p, xs, rfl, h1, h2⟩ := rep_tup (own_c o1)
      exact .inl ⟨p, xs, rfl, .inr (same_t s h1), by rw [h2.length]; exact end_sc s q (.int _)⟩
    · split at e
      · cases e
        exact .inr (.inl ⟨_, by rw [rep_str (own_c o1)], by assumption, end_sc s q (.int _)⟩)
      · cases e
    · cases e
      cases o1 with
      | l h1 h2 h3 h4 h5 => exact .inl ⟨_, _, rfl, .inl (SqL.of h1), by rw [← h3.length]; exact end_sc s q (.int _)⟩
    · cases e
      cases o1 with
      | dk h1 h2 h3 h4 h5 h6 =>
        refine .inr (.inr (.inl ⟨_, _, rfl, .inl h1, ?_⟩))
        have hl := congrArg List.length h3
        rw [List.length_map, List.length_map] at hl
        rw [hl]; exact end_sc s q (.int _)
    · cases e
      cases o1 with
      | dt h1 h2 h3 h4 h5 h6 =>
        refine .inr (.inr (.inr ⟨_, _, rfl, h1, ?_⟩))
        have hl := congrArg List.length h3
        rw [List.length_map, List.length_map] at hl
        rw [hl]; exact end_sc s q (.int _)
    · rename_i l ds _
      cases e
      cases o1 with
      | @ks _ p xs _ _ h1 h2 n =>
        refine .inl ⟨p, xs, rfl, ?_, by rw [h2.length]; exact end_sc s q (.int _)⟩
        cases l with
        | true => exact .inl (same_l s h1)
        | false => exact .inr (same_t s h1)
    · cases e
theorem ve_len (hg : Gl X "len") (hm : X.mg "len" = none) (ha : VA X Wx io v0 (e :: es) os) (he : starEach (e :: es) X.env = (false, eval e X.env) :: starEach es X.env := by rfl) (hpl : (backTo pos (starEach es X.env)).any (·.1) = false := by rfl) :
    VE X Wx io v0 (.Call (.Name "len" p) (e :: es) [] pos) (prim (P1 lenF) os) := ve_callB call_lenA len_ok hg hm (by decide +kernel) ha (by decide) (by decide) he hpl
/-! list(xs), tuple(xs) -/
def listF (w : W) : Option W := (sitems w).map fun ds => .l (ds.map .c)
def tupleF (w : W) : Option W := (sitems w).map fun ds => .c (.tuple ds)
theorem sitems_ok {K : PySem.W.Frag} {C H : Hp} {w : W} {v : V} {F : Foot} {ds : List PyData} (o : Own K C H w v F) (s : Same C H) (e : sitems w = some ds) : ∃ a xs, v = .ref a ∧ (Rd H a (.lst xs) ∨ (C a = some (.tup xs) ∧ w = .c (.tuple ds))) ∧ RepAll K C xs ds := by
  unfold sitems at e
  split at e
  · rename_i es h
    cases e
    obtain ⟨a, xs, rfl, h1, h2⟩ := litems_ok o s h
    exact ⟨a, xs, rfl, .inl h1, h2⟩
  · cases w with
    | c d =>
      cases d with
      | tuple es =>
        simp only [titems, Option.some.injEq] at e
        subst e
        obtain ⟨a, xs, rfl, h1, h2⟩ := rep_tup' (own_c o)
        exact ⟨a, xs, rfl, .inr ⟨h1, rfl⟩, h2⟩
      | _ => simp [titems] at e
    | _ => simp [titems] at e
theorem list_ok {K : PySem.W.Frag} : PrimOk K (fun xs H Q => ∃ p ys, xs = [.ref p] ∧ (SqL K H p ys ∨ SqT K H p ys) ∧ ∀ l, H l = none → Q (.ref l) (upd H l (.lst ys))) (P1 listF) := fun C H ws vs w Q s o e q => by
  match ws, e with
  | [a], e =>
    obtain ⟨x, F, rfl, o1⟩ := ownL1 o
    have e : listF a = some w := e
    unfold listF at e
    cases e2 : sitems a with
    | none => rw [e2] at e; cases e
    | some ds =>
      rw [e2] at e
      simp only [Option.map_some, Option.some.injEq] at e
      subst e
      obtain ⟨p, xs, rfl, h1, h2⟩ := sitems_ok o1 s e2
      refine ⟨p, xs, rfl, ?_, fun l hl => end_l s q h2 hl⟩
      rcases h1 with h1 | h1
      · exact .inl (.inl h1)
      · exact .inr (SqT.of (s _ _ h1.1))
theorem tuple_ok {K : PySem.W.Frag} : PrimOk K (fun xs H Q => ∃ p ys, xs = [.ref p] ∧ ((SqL K H p ys ∧ ∀ l, H l = none → Q (.ref l) (upd H l (.tup ys))) ∨ (SqT K H p ys ∧ Q (.ref p) H))) (P1 tupleF) := fun C H ws vs w Q s o e q => by
  match ws, e with
  | [a], e =>
    obtain ⟨x, F, rfl, o1⟩ := ownL1 o
    have e : tupleF a = some w := e
    unfold tupleF at e
    cases e2 : sitems a with
    | none => rw [e2] at e; cases e
    | some ds =>
      rw [e2] at e
      simp only [Option.map_some, Option.some.injEq] at e
      subst e
      obtain ⟨p, xs, rfl, h1, h2⟩ := sitems_ok o1 s e2
      refine ⟨p, xs, rfl, ?_⟩
      rcases h1 with h1 | h1
      · exact .inl ⟨.inl h1, fun l hl => end_t s q h2 hl⟩
      · exact .inr ⟨SqT.of (s _ _ h1.1), end_sc s q (.tup h1.1 h2)⟩
theorem ve_list (hg : Gl X "list") (hm : X.mg "list" = none) (ha : VA X Wx io v0 (e :: es) os) (he : starEach (e :: es) X.env = (false, eval e X.env) :: starEach es X.env := by rfl) (hpl : (backTo pos (starEach es X.env)).any (·.1) = false := by rfl) :
    VE X Wx io v0 (.Call (.Name "list" p) (e :: es) [] pos) (prim (P1 listF) os) := ve_callTy call_list_of list_ok hg hm (by decide +kernel) ha (by decide) (by decide) he hpl
theorem ve_tuple (hg : Gl X "tuple") (hm : X.mg "tuple" = none) (ha : VA X Wx io v0 (e :: es) os) (he : starEach (e :: es) X.env = (false, eval e X.env) :: starEach es X.env := by rfl) (hpl : (backTo pos (starEach es X.env)).any (·.1) = false := by rfl) :
    VE X Wx io v0 (.Call (.Name "tuple" p) (e :: es) [] pos) (prim (P1 tupleF) os) := ve_callTy call_tuple_of tuple_ok hg hm (by decide +kernel) ha (by decide) (by decide) he hpl
/-! repr -/
def scalD : PyData → Bool
  | .none => true
  | .bool _ => true
  | .int _ => true
  | .str _ => true
  | _ => false
def flatDict : PyData → Bool
  | .dict kvs => kvs.all fun p => scalD p.2
  | _ => false
def showOk (d : PyData) : Bool := d.showable && (!d.hasDict || flatDict d) && decide (d.depth ≤ 64) && decide (d.shown.length ≤ sizeLine)
theorem scal_reads {K : PySem.W.Frag} {C : Hp} {h : Heap} {v : V} {u : Value} {d : PyData} (r : Rep K C v d) (rv : RelV v u) (e : scalD d = true) : Reads h u d [] := by
  cases r with
  | non => cases rv; exact .none
  | bl b => cases rv; exact .bool b
  | int i => obtain ⟨t, rfl⟩ := rv; exact .int i t
  | str x => obtain ⟨t, rfl⟩ := rv; exact .str x t
  | _ => cases e
theorem key_reads {h : Heap} {k : Key} {u : Value} (e : keyIs k u = true) : Reads h u (keyD k) [] := by
  rcases keyIs_shape e with ⟨i, t, rfl, rfl⟩ | ⟨x, t, rfl, rfl⟩
  · exact .int i t
  · exact .str x t
theorem pairs_reads {P : Program} {w : World} {K : PySem.W.Frag} {C : Hp} {h : Heap} : ∀ {es : List DictEntry} {vs : List (Key × Value)} {ks : List Key} {xs : List V} {ds : List PyData}, Pairs (mixKind P w) es vs → KV (ks.zip xs) vs → ks.length = xs.length → RepAll K C xs ds → (∀ d ∈ ds, scalD d = true) →
    ReadsAll h (es.map (·.key)) (((ks.map keyD).zip ds).map (·.1)) [] ∧ ReadsAll h (es.map (·.val)) (((ks.map keyD).zip ds).map (·.2)) []
  | _, _, [], _, _, .nil, _, _, t, _ => ⟨by simpa using ReadsAll.nil, by simpa using ReadsAll.nil⟩
  | _, _, [], _, _, .cons _ _ _, kv, _, _, _ => by
    have kv' : KV [] _ := kv
    cases kv'
  | _, _, k :: ks, [], _, _, _, l, _, _ => by simp at l
  | _, _, k :: ks, x :: xs, _, .nil, kv, _, _, _ => by
    have kv' : KV ((k, x) :: ks.zip xs) [] := kv
    cases kv'
  | _, _, k :: ks, x :: xs, _, .cons (e := e) (kv := q) a b c, kv, l, .cons (d := d) (ds := ds) r t, hs => by
    have kv' : KV ((k, x) :: ks.zip xs) _ := kv
    cases kv' with
    | cons h1 h2 =>
      obtain ⟨i1, i2⟩ := pairs_reads c h2 (by simpa using l) t fun d hd => hs d (List.mem_cons_of_mem _ hd)
      have hk : q.1 = k := h1.1.symm
      have a' : keyIs q.1 e.key = true := a
      rw [hk] at a'
      refine ⟨?_, ?_⟩
      · have := ReadsAll.cons (key_reads (h := h) a') i1
        simpa using this
      · have hr : Reads h e.val d [] := by rw [b]; exact scal_reads r h1.2 (hs d List.mem_cons_self)
        have := ReadsAll.cons hr i2
        simpa using this
def rRepr (K : PySem.W.Frag) : List V → Hp → VK → Prop := fun xs H Q => ∃ v d, xs = [v] ∧ Rep K H v d ∧ showOk d = true ∧ Q (.str d.shown) H
theorem _root_.VL.Rep.dpN {K : PySem.W.Frag} {C : Hp} : ∀ {v : V} {d : PyData}, Rep K C v d → d.hasDict = false → Dp K C v d := by
  have main : ∀ (d : PyData), (∀ {v : V}, Rep K C v d → d.hasDict = false → Dp K C v d) := by
    intro d
    refine PyData.rec (motive_1 := fun d => ∀ {v : V}, Rep K C v d → d.hasDict = false → Dp K C v d) (motive_2 := fun ds => ∀ {vs : List V}, RepAll K C vs ds → PyData.hasDictAll ds = false → DpAll K C vs ds) (motive_3 := fun _ => True) (motive_4 := fun _ => True)
      ?_ ?_ ?_ ?_ ?_ ?_ ?_ ?_ ?_ ?_ ?_ ?_ d
    · intro v r _; cases r; exact .non
    · intro b v r _; cases r; exact .bl b
    · intro i v r _; cases r; exact .int i
    · intro x v r _; cases r; exact .str x
    · intro xs ih v r h
      cases r with
      | lst a t => exact .lst (.inl a) (ih t (by simpa [PyData.hasDict] using h))
    · intro xs ih v r h
      cases r with
      | tup a t => exact .tup (SqT.of a) (ih t (by simpa [PyData.hasDict] using h))
    · intro kvs _ v r h
      simp [PyData.hasDict] at h
    · intro vs r _; cases r; exact .nil
    · intro d ds ih1 ih2 vs r h
      simp only [PyData.hasDictAll, Bool.or_eq_false_iff] at h
      cases r with
      | cons a b => exact .cons (ih1 a h.1) (ih2 b h.2)
    · trivial
    · intros; trivial
    · intros; trivial
  exact fun {v d} r h => main d r h
theorem call_repr (hr : Room k X.A) (hg : X.A.guards = some []) : CallR X (.builtin "repr") (rRepr X.K) := by
  intro pins s σ H xs us Q I rv h
  obtain ⟨v, d, rfl, r, ok, q⟩ := h
  obtain ⟨u, rfl, ru⟩ := vals1 rv
  simp only [showOk, Bool.and_eq_true, Bool.not_eq_true', decide_eq_true_eq] at ok
  obtain ⟨⟨⟨ok1, ok2'⟩, ok3⟩, ok4⟩ := ok
  have hun := hr.un
  cases r with
  | non =>
    cases ru
    refine PySem.P.repr_of_none ⟨.str _, H, I.tok _, ⟨_, rfl⟩, ?_⟩
    simpa [PyData.shown] using q
  | bl b =>
    cases ru
    refine PySem.P.repr_of_bool ⟨.str _, H, I.tok _, ⟨_, rfl⟩, ?_⟩
    simpa [PyData.shown] using q
  | int i =>
    obtain ⟨t, rfl⟩ := ru
    refine PySem.P.repr_of_int (by simpa [PyData.showable] using ok1) ⟨.str _, H, I.tok _, ⟨_, rfl⟩, ?_⟩
    simpa [PyData.shown] using q
  | str x =>
    obtain ⟨t, rfl⟩ := ru
    refine PySem.P.repr_of_str ⟨.str _, H, I.tok _, ⟨_, rfl⟩, ?_⟩ (by simpa [PyData.shown] using ok4)
    simpa [PyData.shown] using q
  | @lst p xs ds a t =>
    have ok2 : PyData.hasDict (.list ds) = false := by simpa [flatDict] using ok2'
    obtain ⟨as, rr⟩ := Dp.reads I _ _ u (Rep.dpN (.lst a t) ok2) ru
    cases ru
    exact repr_of_reads' rr ok1 (PyData.noDict_hsm ok2) hg (by omega) (fun _ _ e => e) (fun h' u tk hk => ⟨.str _, H, I.kept (t' := tk) hk, ⟨u, rfl⟩, q⟩) ok4
  | @tup p xs ds a t =>
    have ok2 : PyData.hasDict (.tuple ds) = false := by simpa [flatDict] using ok2'
    obtain ⟨as, rr⟩ := Dp.reads I _ _ u (Rep.dpN (.tup a t) ok2) ru
    cases ru
    exact repr_of_reads' rr ok1 (PyData.noDict_hsm ok2) hg (by omega) (fun _ _ e => e) (fun h' u tk hk => ⟨.str _, H, I.kept (t' := tk) hk, ⟨u, rfl⟩, q⟩) ok4
  | @dct p ks xs ds l a t =>
    have fd : ∀ d ∈ ds, scalD d = true := by
      have h : flatDict (.dict ((ks.map keyD).zip ds)) = true := by simpa [PyData.hasDict] using ok2'
      unfold flatDict at h
      intro d hd
      have hl : ks.length = ds.length := by rw [l, t.length]
      obtain ⟨i, hi, rfl⟩ := List.getElem_of_mem hd
      exact List.all_eq_true.mp h (((ks.map keyD).zip ds)[i]'(by simp; omega)) (List.getElem_mem _) |> fun z => by simpa using z
    cases ru
    obtain ⟨z, hd, vs, rel, o, es, ep, ho, hx, hdat, _, hp, _⟩ := dk_rd I.hok a
    obtain ⟨r1, r2⟩ := pairs_reads (h := s.heap) hp rel l t fd
    exact repr_of_reads' (.dict ho hx.1 hdat r1 r2) ok1 (fun _ => by
      have : p ≠ sysModules := by simpa using hd
      simpa using Ne.symm this) hg (by omega) (fun _ _ e => e) (fun h' u tk hk => ⟨.str _, H, I.kept (t' := tk) hk, ⟨u, rfl⟩, q⟩) ok4
def reprF (w : W) : Option W := match fz w with
  | some d => if showOk d then some (.c (.str d.shown)) else none
  | none => none
theorem repr_ok {K : PySem.W.Frag} : PrimOk K (rRepr K) (P1 reprF) := fun C H ws vs w Q s o e q => by
  match ws, e with
  | [a], e =>
    obtain ⟨x, F, rfl, o1⟩ := ownL1 o
    have e : reprF a = some w := e
    unfold reprF at e
    split at e
    · rename_i d hd
      split at e
      · cases e
        exact ⟨x, d, rfl, o1.repH s hd, by assumption, end_sc s q (.str _)⟩
      · cases e
    · cases e
theorem ve_repr (hr : Room k X.A) (hgd : X.A.guards = some []) (hg : Gl X "repr") (hm : X.mg "repr" = none) (ha : VA X Wx io v0 (e :: es) os) (he : starEach (e :: es) X.env = (false, eval e X.env) :: starEach es X.env := by rfl) (hpl : (backTo pos (starEach es X.env)).any (·.1) = false := by rfl) :
    VE X Wx io v0 (.Call (.Name "repr" p) (e :: es) [] pos) (prim (P1 reprF) os) := ve_callB (call_repr hr hgd) repr_ok hg hm (by decide +kernel) ha (by decide) (by decide) he hpl
/-! sorted -/
open PySem.W in
def sortOk (ds : List PyData) : Bool := (ds.all fun d => ds.all fun e => alike d e) && ((ds.all fun d => match d with
  | .tuple (_ :: _) => true
  | _ => false) || ds.all fun d => match d with
  | .none => false
  | .tuple _ => false
  | _ => true) && PyData.canLayAll0 ds && decide (PyData.depthAll ds ≤ 64)
noncomputable def sortD (ds : List PyData) : List PyData := ds.mergeSort (PySem.W.dataLe false fun d : PyData => d)
def rSortD (K : PySem.W.Frag) (C : Hp) : List V → Hp → VK → Prop := fun vs H Q => ∃ a xs ds, vs = [.ref a] ∧ Rd H a (.lst xs) ∧ RepAll K C xs ds ∧ Same C H ∧ sortOk ds = true ∧ ∀ ys p, RepAll K C ys (sortD ds) → H p = none → Q (.ref p) (upd H p (.lst ys))
theorem repAll_each {K : PySem.W.Frag} {C : Hp} : ∀ {xs : List V} {ds : List PyData} {us : List Value}, RepAll K C xs ds → Vals xs us → PySem.W.EachIs (fun u d => ∃ x, RelV x u ∧ Rep K C x d) us ds
  | _, _, _, .nil, .nil => .nil
  | _, _, _, .cons a b, .cons r t => .cons ⟨_, r, a⟩ (repAll_each b t)
theorem each_repAll {K : PySem.W.Frag} {C : Hp} : ∀ {us : List Value} {ds : List PyData}, PySem.W.EachIs (fun u d => ∃ x, RelV x u ∧ Rep K C x d) us ds → ∃ xs, RepAll K C xs ds ∧ Vals xs us
  | _, _, .nil => ⟨[], .nil, .nil⟩
  | _, _, .cons ⟨x, r, a⟩ t => by
    obtain ⟨xs, h1, h2⟩ := each_repAll t
    exact ⟨x :: xs, .cons a h1, .cons r h2⟩
theorem depth_mem : ∀ {ds : List PyData} {d : PyData}, d ∈ ds → d.depth ≤ PyData.depthAll ds
  | e :: ds, d, h => by
    simp only [PyData.depthAll]
    rcases List.mem_cons.mp h with rfl | h
    · exact Nat.le_max_left _ _
    · exact Nat.le_trans (depth_mem h) (Nat.le_max_right _ _)
theorem call_sorted {C : Hp} (hr : Room k X.A) : CallR X (.builtin "sorted") (rSortD X.K C) := by
  intro pins s σ H vs us Q I rv h
  obtain ⟨a, xs, ds, rfl, ha, t, sb, ok, q⟩ := h
  obtain ⟨u, rfl, ru⟩ := vals1 rv
  cases ru
  obtain ⟨hz, its, n, r, hl, e⟩ := lstR I ha
  simp only [sortOk, Bool.and_eq_true, Bool.or_eq_true, decide_eq_true_eq] at ok
  obtain ⟨⟨⟨ok1, ok2⟩, ok3⟩, ok4⟩ := ok
  have dpa : DpAll X.K H xs ds := (t.mono sb).dp ok3
  have hlen : its.length = ds.length := by rw [← hl, t.length]
  have hun := hr.un
  refine PySem.W.sorted_data (enc := fun d : PyData => d) (bs := ds) (R := fun u d => ∃ x, RelV x u ∧ Rep X.K C x d) (PlainL.isList (h := s.heap) (a := a) (its := its.toArray) ⟨_, n, e, rfl, rfl, rfl⟩) (repAll_each t r) ?_ ?_ ?_ (by omega) (fun b hb => ?_) fun out ho eo => ?_
  · obtain ⟨as, ra⟩ := Dp.readsAll I ds xs its dpa r
    have h0 := PySem.W.readsAll_each (h := s.heap) (fun d : PyData => d) (bs := ds) (vs := its) (as := as) (by simpa using ra)
    exact h0
  · intro d hd d' hd'
    rw [List.map_id'] at hd hd'
    exact List.all_eq_true.mp (List.all_eq_true.mp ok1 d hd) d' hd'
  · rw [List.map_id']
    rcases ok2 with ok2 | ok2
    · refine .inl fun d hd => ?_
      have := List.all_eq_true.mp ok2 d hd
      split at this
      · exact ⟨_, _, rfl⟩
      · cases this
    · refine .inr fun d hd => ?_
      have := List.all_eq_true.mp ok2 d hd
      split at this
      · cases this
      · cases this
      · rename_i h1 h2
        exact ⟨h1, fun xs e => h2 xs e⟩
  · have := depth_mem hb
    omega
  · obtain ⟨ys, h1, h2⟩ := each_repAll eo
    obtain ⟨ep, he'⟩ := PyProof.Rows.sortedAll_at s.heap its out.toArray
    have hlz : ys.length ≤ sizeLine := by
      have e1 := h2.length
      omega
    exact ⟨.ref _, upd H (s.heap.objs.size + 1) (.lst ys), I.laid (t' := s.toks) (fun _ _ => PyProof.Rows.sortedAll_old) (Nat.le_succ _) ⟨hlz, out, ep, h2, he'⟩, rfl, q _ _ h1 (I.hok.fresh (Nat.le_succ _))⟩
theorem call_sortedA (hr : Room k X.A) : CallR X (.builtin "sorted") (fun vs H Q => ∃ C, rSortD X.K C vs H Q) := by
  intro pins s σ H vs us Q I rv h
  obtain ⟨C, h⟩ := h
  exact call_sorted hr pins s σ H vs us Q I rv h
noncomputable def sortedF (w : W) : Option W := match litems w with
  | some ds => if sortOk ds then some (.l ((sortD ds).map .c)) else none
  | none => none
theorem sorted_ok {K : PySem.W.Frag} : PrimOk K (fun vs H Q => ∃ C, rSortD K C vs H Q) (P1 sortedF) := fun C H ws vs w Q s o e q => by
  match ws, e with
  | [a], e =>
    obtain ⟨x, F, rfl, o1⟩ := ownL1 o
    have e : sortedF a = some w := e
    unfold sortedF at e
    split at e
    · rename_i ds hd
      split at e
      · cases e
        obtain ⟨p, xs, rfl, h1, h2⟩ := litems_ok o1 s hd
        exact ⟨C, p, xs, ds, rfl, h1, h2, s, by assumption, fun ys l t hl => end_l s q t hl⟩
      · cases e
    · cases e
theorem ve_sorted (hr : Room k X.A) (hg : Gl X "sorted") (hm : X.mg "sorted" = none) (ha : VA X Wx io v0 (e :: es) os) (he : starEach (e :: es) X.env = (false, eval e X.env) :: starEach es X.env := by rfl) (hpl : (backTo pos (starEach es X.env)).any (·.1) = false := by rfl) :
    VE X Wx io v0 (.Call (.Name "sorted" p) (e :: es) [] pos) (prim (P1 sortedF) os) := ve_callB (call_sortedA hr) sorted_ok hg hm (by decide +kernel) ha (by decide) (by decide) he hpl
end
end VL
set_option maxHeartbeats 4000000
namespace VL
open PySem PySem.Spec PyProof.Rows L2
/-! ### statements -/
section
variable {X : Cx} {Wx : WX} {io : List Nat} {v0 : L2.St} {σ σ1 : L2.St} {C C1 H H1 : Hp} {F F1 : Foot} {ρ ρ1 : Env} {D D' : Ends} {st : Stmt} {sts : List Stmt} {g g1 g2 : Env → RS} {f : Env → R W} {e : Expr} {pos : Pos}
theorem SPost.shift {r : RS} (p : SPost X Wx io v0 C H F r D) (t : To X.K io v0 C H F ρ1 σ1 C1 H1 F1) : SPost X Wx io v0 C1 H1 F1 r D := by
  cases r with
  | nx ρ => exact fun σ' C' H' F' t2 => p σ' C' H' F' (t.trans t2)
  | rt w ρ => exact fun v σ' C' H' G F' t2 => p v σ' C' H' G F' (t.transV t2)
  | exn e ρ => exact fun σ' cls d C' H' F' t2 k => p σ' cls d C' H' F' (t.trans t2) k
  | stuck => exact p
theorem tS_at {D : Ends} (t : To X.K io v0 C H F ρ1 σ1 C1 H1 F1) (p : SPost X Wx io v0 C H F (g ρ1) D) : tS X Wx io v0 g D σ1 H1 := ⟨ρ1, C1, F1, t.st, p.shift t⟩
theorem SPost.of_toS {α : Type} {r : R α} {k : α → Env → RS} (p : SPost X Wx io v0 C H F (r.toS k) D) (σ : L2.St) : RPost X Wx io v0 σ C H F r fun a ρ => SPost X Wx io v0 C H F (k a ρ) D := by
  cases r with
  | ok a ρ => exact p
  | exn e ρ => exact fun cls d C' H' F' t k => p σ cls d C' H' F' t k
  | stuck => exact p
theorem SPost.of_seq {r : RS} {k : Env → RS} (p : SPost X Wx io v0 C H F (r.seq k) D) : SPost X Wx io v0 C H F r { D with nx := tS X Wx io v0 k D } := by
  cases r with
  | nx ρ => exact fun σ' C' H' F' t => ⟨ρ, C', F', t.st, SPost.shift (show SPost X Wx io v0 C H F (k ρ) D from p) t⟩
  | rt w ρ => exact p
  | exn e ρ => exact p
  | stuck => exact p
def skipS : Env → RS := fun ρ => .nx ρ
def seqS (g1 g2 : Env → RS) : Env → RS := fun ρ => (g1 ρ).seq g2
theorem vs_nil : VSs X Wx io v0 [] skipS := pss_mono pss_nil fun D σ H q => by
  obtain ⟨ρ, C, F, s, p⟩ := q
  exact p σ C H F (To.refl s)
theorem vs_cons (h1 : VS X Wx io v0 st g1) (h2 : VSs X Wx io v0 sts g2) : VSs X Wx io v0 (st :: sts) (seqS g1 g2) := pss_mono (pss_cons h1 h2) fun D σ H q => by
  obtain ⟨ρ, C, F, s, p⟩ := q
  exact ⟨ρ, C, F, s, SPost.of_seq p⟩
theorem vs_one (h : VS X Wx io v0 st g) : VSs X Wx io v0 [st] g := pss_one h
theorem vs_pass : VS X Wx io v0 (.Pass pos) skipS := ps_mono ps_pass fun D σ H q => by
  obtain ⟨ρ, C, F, s, p⟩ := q
  exact p σ C H F (To.refl s)
def dropS (f : Env → R W) : Env → RS := fun ρ => (f ρ).toS fun _ ρ' => .nx ρ'
theorem vs_expr (h : VE X Wx io v0 e f) (hs : swapsWith e none pos.line X.env = pure false := by rfl) : VS X Wx io v0 (.Expr e pos) (dropS f) := ps_mono (ps_expr h hs) fun D σ H q => by
  obtain ⟨ρ, C, F, s, p⟩ := q
  exact ⟨ρ, C, F, s, (SPost.of_toS p σ).imp fun w ρ' _ q v C' H' G F' t => q σ C' H' F' t.to⟩
def retS (f : Env → R W) : Env → RS := fun ρ => (f ρ).toS fun w ρ' => .rt w ρ'
theorem vs_ret (h : VE X Wx io v0 e f) : VS X Wx io v0 (.Return (some e) pos) (retS f) := ps_mono (ps_ret h) fun D σ H q => by
  obtain ⟨ρ, C, F, s, p⟩ := q
  exact ⟨ρ, C, F, s, (SPost.of_toS p σ).imp fun w ρ' _ q v C' H' G F' t => q v σ C' H' G F' t⟩
def ifS (t : Env → R Bool) (g1 g2 : Env → RS) : Env → RS := fun ρ => (t ρ).toS fun b ρ' => if b = true then g1 ρ' else g2 ρ'
theorem vs_if {t : Env → R Bool} {s1 s2 : List Stmt} (ht : VT X Wx io v0 e t) (h1 : VSs X Wx io v0 s1 g1) (h2 : VSs X Wx io v0 s2 g2) : VS X Wx io v0 (.If e s1 s2 pos) (ifS t g1 g2) := ps_mono (ps_if ht h1 h2) fun D σ H q => by
  obtain ⟨ρ, C, F, s, p⟩ := q
  refine ⟨ρ, C, F, s, (SPost.of_toS p σ).imp fun b ρ' _ q C' H' F' t => ?_⟩
  cases b with
  | true => exact tS_at t q
  | false => exact tS_at t q
/-! ### targets -/
/-- a target takes data; only the slots sl change -/
def Only (sl : List Nat) (σ σ' : L2.St) : Prop := σ'.length = σ.length ∧ ∀ j, j ∉ sl → σ'[j]? = σ[j]?
theorem Only.refl (σ : L2.St) : Only [] σ σ := ⟨rfl, fun _ _ => rfl⟩
theorem Only.trans {sl sl' : List Nat} {σ1 σ2 σ3 : L2.St} (a : Only sl σ1 σ2) (b : Only sl' σ2 σ3) : Only (sl ++ sl') σ1 σ3 := ⟨b.1.trans a.1, fun j h => by
  rw [List.mem_append, not_or] at h
  exact (b.2 j h.2).trans (a.2 j h.1)⟩
def tgG (X : Cx) (io : List Nat) (v0 : L2.St) (sl : List Nat) (g : PyData → Env → Option Env) : TG := fun v σ H Q => ∃ ρ C F d ρ', St X.K io v0 ρ σ C H F ∧ Rep X.K C v d ∧ g d ρ = some ρ' ∧ ∀ σ' F', Only sl σ σ' → (∀ a, F' a → F a) → St X.K io v0 ρ' σ' C H F' → Q σ' H
def tgGs (X : Cx) (io : List Nat) (v0 : L2.St) (sl : List Nat) (g : List PyData → Env → Option Env) : TGs := fun vs σ H Q => ∃ ρ C F ds ρ', St X.K io v0 ρ σ C H F ∧ RepAll X.K C vs ds ∧ g ds ρ = some ρ' ∧ ∀ σ' F', Only sl σ σ' → (∀ a, F' a → F a) → St X.K io v0 ρ' σ' C H F' → Q σ' H
def VG (X : Cx) (io : List Nat) (v0 : L2.St) (tg : Expr) (sl : List Nat) (g : PyData → Env → Option Env) : Prop := PG X tg (tgG X io v0 sl g)
def VGs (X : Cx) (io : List Nat) (v0 : L2.St) (tgs : List Expr) (sl : List Nat) (g : List PyData → Env → Option Env) : Prop := PGs X tgs (tgGs X io v0 sl g)
theorem St.put {i : Nat} {w : W} {v : V} {G : Foot} (s : St X.K io v0 ρ σ C H F) (o : Own X.K C H w v G) (dj : ∀ a, G a → ¬ F a) (hi : i ∉ io) : ∃ F', St X.K io v0 (ρ.set i (some w)) (σ.set i (some v)) C H F' ∧ ∀ a, F' a → F a ∨ G a := by
  obtain ⟨F', h1, h2⟩ := s.env.put (i := i) o dj
  refine ⟨F', ⟨h1, s.sub, fun j hj => ?_⟩, h2⟩
  rw [List.getElem?_set_ne (fun e => hi (by rw [e]; exact hj))]
  exact s.fix j hj
def tgN (i : Nat) : PyData → Env → Option Env := fun d ρ => some (ρ.set i (some (.c d)))
theorem pg_mono {t t' : TG} {tg : Expr} (h : PG X tg t) (m : ∀ v σ H Q, t' v σ H Q → t v σ H Q) : PG X tg t' := ⟨fun pins s σ H v u Q I r q => h.run pins s σ H v u Q I r (m v σ H Q q)⟩
theorem pgs_mono {t t' : TGs} {tg : List Expr} (h : PGs X tg t) (m : ∀ v σ H Q, t' v σ H Q → t v σ H Q) : PGs X tg t' := ⟨fun pins s σ H v u Q I r q => h.run pins s σ H v u Q I r (m v σ H Q q)⟩
theorem vg_name (i : Nat) {x : Str} (hN : X.N.Nodup) (hi : X.N[i]? = some x := by rfl) (hx : Loc X.env.scope x := by first | exact Or.inl rfl | exact Or.inr rfl) (hio : i ∉ io := by decide)
    (hf : X.fn x = true ∨ X.env.scope.names.lookup x = some .local := by first | exact .inl rfl | exact .inr rfl) : VG X io v0 (.Name x pos) [i] (tgN i) := pg_mono (pg_name hN hi hx hf) fun v σ H Q q => by
  obtain ⟨ρ, C, F, d, ρ', s, r, e, q⟩ := q
  simp only [tgN, Option.some.injEq] at e
  subst e
  obtain ⟨F', h1, h2⟩ := s.put (i := i) (.c (F := Foot.none) r fun _ z => z) (fun a z => z.elim) hio
  exact q _ F' ⟨List.length_set, fun j hj => List.getElem?_set_ne (fun e => hj (by rw [e]; exact List.mem_singleton.mpr rfl))⟩ (fun a z => (h2 a z).elim id fun z => z.elim) h1
def tgsN : List PyData → Env → Option Env
  | [], ρ => some ρ
  | _ :: _, _ => none
def tgsC (g : PyData → Env → Option Env) (gs : List PyData → Env → Option Env) : List PyData → Env → Option Env
  | d :: ds, ρ => (g d ρ).bind (gs ds)
  | [], _ => none
theorem vg_nil : VGs X io v0 [] [] tgsN := pgs_mono pgs_nil fun vs σ H Q q => by
  obtain ⟨ρ, C, F, ds, ρ', s, r, e, q⟩ := q
  cases r with
  | nil =>
    simp only [tgsN, Option.some.injEq] at e
    subst e
    exact ⟨rfl, q σ F (Only.refl σ) (fun _ z => z) s⟩
  | cons _ _ => simp [tgsN] at e
theorem vg_cons {tg : Expr} {tgs : List Expr} {sl sl' : List Nat} {g : PyData → Env → Option Env} {gs : List PyData → Env → Option Env} (h1 : VG X io v0 tg sl g) (h2 : VGs X io v0 tgs sl' gs)
    (hs : (assignEach (tg :: tgs) X.env).map (·.2) = assign tg X.env :: (assignEach tgs X.env).map (·.2) := by rfl) : VGs X io v0 (tg :: tgs) (sl ++ sl') (tgsC g gs) := pgs_mono (pgs_cons h1 h2 hs) fun vs σ H Q q => by
  obtain ⟨ρ, C, F, ds, ρ', s, r, e, q⟩ := q
  cases r with
  | nil => simp [tgsC] at e
  | cons a b =>
    rename_i v vs d ds
    simp only [tgsC] at e
    cases e1 : g d ρ with
    | none => rw [e1] at e; cases e
    | some ρ1 =>
      rw [e1] at e
      exact ⟨v, vs, rfl, ρ, C, F, d, ρ1, s, a, e1, fun σ1 F1 o1 n1 s1 => ⟨ρ1, C, F1, ds, ρ', s1, b, e, fun σ2 F2 o2 n2 s2 => q σ2 F2 (o1.trans o2) (fun a z => n1 a (n2 a z)) s2⟩⟩
/-- a tuple of targets takes a tuple or a list of that length -/
def tgT (n : Nat) (gs : List PyData → Env → Option Env) : PyData → Env → Option Env
  | .tuple ds, ρ => if ds.length = n then gs ds ρ else none
  | .list ds, ρ => if ds.length = n then gs ds ρ else none
  | _, _ => none
theorem pg_or {tg : Expr} {t t' : TG} (h : PG X tg t) (h' : PG X tg t') : PG X tg (fun v σ H Q => t v σ H Q ∨ t' v σ H Q) := ⟨fun pins s σ H v u Q I r q => q.elim (h.run pins s σ H v u Q I r) (h'.run pins s σ H v u Q I r)⟩
theorem vg_tup {es : List Expr} {k : Nat} {sl : List Nat} {gs : List PyData → Env → Option Env} {n : Nat} (hc : X.calm = true) (h : VGs X io v0 es sl gs)
    (hn : (assignEach es X.env).length = n := by rfl) (hst : (assignEach es X.env).findIdx? (·.1) = none := by rfl) : VG X io v0 (.Tuple es k pos) sl (tgT n gs) := pg_mono (pg_or (pg_tup hc h hn hst) (pg_lst hc h hn hst)) fun v σ H Q q => by
  obtain ⟨ρ, C, F, d, ρ', s, r, e, q⟩ := q
  cases r with
  | tup a t =>
    simp only [tgT] at e
    split at e
    · rename_i hl
      exact .inl ⟨_, _, rfl, SqT.of (s.sub _ _ a), t.length.trans hl, ρ, C, F, _, ρ', s, t, e, q⟩
    · cases e
  | lst a t =>
    simp only [tgT] at e
    split at e
    · rename_i hl
      exact .inr ⟨_, _, rfl, .inl (same_rd s.sub a), t.length.trans hl, ρ, C, F, _, ρ', s, t, e, q⟩
    · cases e
  | _ => simp [tgT] at e
/-! ### assignments -/
def asgS (i : Nat) (f : Env → R W) : Env → RS := fun ρ => (f ρ).toS fun w ρ' => .nx (ρ'.set i (some w))
theorem To.put {i : Nat} {w : W} {v : V} {G : Foot} (t : ToV X.K io v0 C H F w v ρ1 σ C1 H1 G F1) (hi : i ∉ io) : ∃ F', To X.K io v0 C H F (ρ1.set i (some w)) (σ.set i (some v)) C1 H1 F' := by
  obtain ⟨F', h1, h2⟩ := t.to.st.put (i := i) t.own t.dis hi
  exact ⟨F', t.to.step, fun a z => (h2 a z).elim (t.to.new a) (t.newv a), h1⟩
theorem vs_set (i : Nat) {x : Str} {pos' : Pos} (hN : X.N.Nodup) (he : VE X Wx io v0 e f) (hi : X.N[i]? = some x := by rfl) (hx : Loc X.env.scope x := by first | exact Or.inl rfl | exact Or.inr rfl) (hio : i ∉ io := by decide)
    (hs : swapsWith e (some (.Name x pos')) pos.line X.env = pure false := by rfl) (hf : X.fn x = true ∨ X.env.scope.names.lookup x = some .local := by first | exact .inl rfl | exact .inr rfl) :
    VS X Wx io v0 (.Assign [.Name x pos'] e pos) (asgS i f) := ps_mono (ps_set hN hi hx he hs hf) fun D σ H q => by
  obtain ⟨ρ, C, F, s, p⟩ := q
  refine ⟨ρ, C, F, s, (SPost.of_toS p σ).imp fun w ρ' _ q v C' H' G F' t => ?_⟩
  obtain ⟨F2, t2⟩ := To.put t hio
  exact q _ _ _ _ t2
/-- a, b = value (one value that is unpacked) -/
def unpS (g : PyData → Env → Option Env) (f : Env → R W) : Env → RS := fun ρ => (frzE f ρ).toS fun w ρ' => match w with
  | .c d => (match g d ρ' with
    | some ρ2 => .nx ρ2
    | none => .stuck)
  | _ => .stuck
theorem vs_unp {tg : Expr} {sl : List Nat} {g : PyData → Env → Option Env} (he : VE X Wx io v0 e f) (hg : VG X io v0 tg sl g) (hs : swapsWithSole [tg] e pos.line X.env = pure false := by rfl) (hw : swappedStores [tg] e X.env = pure none := by rfl)
    (h1 : (assignEach [tg] X.env).map (·.2) = [assign tg X.env] := by rfl) : VS X Wx io v0 (.Assign [tg] e pos) (unpS g f) := ps_mono (ps_asg (ve_frz he) hg hs hw h1) fun D σ H q => by
  obtain ⟨ρ, C, F, s, p⟩ := q
  refine ⟨ρ, C, F, s, (SPost.of_toS p σ).imp fun w ρ' _ q v C' H' G F' t => ?_⟩
  split at q
  · split at q
    · rename_i ρ2 hg2
      exact ⟨ρ', C', F', _, ρ2, t.to.st, own_c t.own, hg2, fun σ2 F2 _ n s2 => q σ2 C' H' F2 ⟨t.to.step, fun a z => t.to.new a (n a z), s2⟩⟩
    · exact q.elim
  · exact q.elim
/-- a, b = x, y -/
def par2S (i j : Nat) (os : List Opd) : Env → RS := fun ρ => (evs os ρ).toS fun ts ρ' => match ts with
  | [.v w, .v u] => .nx ((ρ'.set i (some w)).set j (some u))
  | _ => .stuck
theorem vs_par2 (i j : Nat) {os : List Opd} {x y : Str} {a b : Expr} {px py pt : Pos} {kt k2 pt2} (hc : X.calm = true) (hN : X.N.Nodup) (ha : VA X Wx io v0 [a, b] os) (hi : X.N[i]? = some x := by rfl) (hj : X.N[j]? = some y := by rfl) (hij : i ≠ j := by decide)
    (hx : X.env.scope.names.lookup x = some .local := by rfl) (hy : X.env.scope.names.lookup y = some .local := by rfl) (hio : i ∉ io := by decide) (hjo : j ∉ io := by decide)
    (hw : swappedStores [.Tuple [.Name x px, .Name y py] kt pt] (.Tuple [a, b] k2 pt2) X.env = pure (some [x, y]) := by rfl)
    (hs : swapsWithSole [.Tuple [.Name x px, .Name y py] kt pt] (.Tuple [a, b] k2 pt2) pos.line X.env = pure false := by rfl) :
    VS X Wx io v0 (.Assign [.Tuple [.Name x px, .Name y py] kt pt] (.Tuple [a, b] k2 pt2) pos) (par2S i j os) := ps_mono (ps_par hc hN hi hj hij hx hy ha hw hs) fun D σ H q => by
  obtain ⟨ρ, C, F, s, p⟩ := q
  refine ⟨ρ, C, F, s, (SPost.of_toS p σ).imp fun ts ρ' _ q vs C' H' G F' t => ?_⟩
  split at q
  · rename_i w u
    have o := t.own
    cases o with
    | v o1 o2 d1 q1 =>
      cases o2 with
      | v o3 o4 d3 q3 =>
        cases o4
        rename_i v G1 G2 v2 G3 G4 n4
        have n2 : ∀ a, G2 a → G3 a := fun a z => ((q3 a).mp z).elim id fun z => (n4 a z).elim
        refine ⟨v, v2, rfl, ?_⟩
        obtain ⟨F2, h1, h2⟩ := t.to.st.put (i := i) o1 (fun a z y => t.dis a ((q1 a).mpr (.inl z)) y) hio
        obtain ⟨F3, h3, h4⟩ := h1.put (i := j) o3 (fun a z y => by
          rcases h2 a y with y | y
          · exact t.dis a ((q1 a).mpr (.inr ((q3 a).mpr (.inl z)))) y
          · exact d1 a y ((q3 a).mpr (.inl z))) hjo
        refine q _ C' H' F3 ⟨t.to.step, fun a z => ?_, h3⟩
        rcases h4 a z with z | z
        · rcases h2 a z with z | z
          · exact t.to.new a z
          · exact t.newv a ((q1 a).mpr (.inl z))
        · exact t.newv a ((q1 a).mpr (.inr ((q3 a).mpr (.inl z))))
  · exact q.elim
end
/-! ### what is walked -/
structure ItOk (K : PySem.W.Frag) (C : Hp) (J : It) (ds : List PyData) : Prop where
  go : ∀ i H, Same C H → i < ds.length → J.go i H
  stop : ∀ H, Same C H → J.stop ds.length H
  yld : ∀ i H x H' C2, Same C C2 → Same C2 H → i < ds.length → J.yld i H x H' → ∃ C3 d, ds[i]? = some d ∧ Step C2 H Foot.none C3 H' ∧ Same C3 H' ∧ Rep K C3 x d
section
variable {X : Cx} {Wx : WX} {io : List Nat} {v0 : L2.St} {e tg : Expr} {f : Env → R W} {pos p : Pos} {os : List Opd}
def tI (X : Cx) (Wx : WX) (io : List Nat) (v0 : L2.St) (f : Env → R (List PyData)) : TI := fun σ H R => ∃ ρ C F, St X.K io v0 ρ σ C H F ∧ RPost X Wx io v0 σ C H F (f ρ) fun ds ρ' => ∀ C' H' F' J, To X.K io v0 C H F ρ' σ C' H' F' → ItOk X.K C' J ds → R J H'
def VI (X : Cx) (Wx : WX) (io : List Nat) (v0 : L2.St) (tg e : Expr) (f : Env → R (List PyData)) : Prop := PI X tg e (tI X Wx io v0 f)
theorem pi_mono {t t' : TI} (h : PI X tg e t) (m : ∀ σ H Q, t' σ H Q → t σ H Q) : PI X tg e t' := ⟨fun pins s σ H R I q => h.run pins s σ H R I (m σ H R q)⟩
/-- a list, a tuple, a text -/
def itemsOf : PyData → Option (List PyData)
  | .list ds => some ds
  | .tuple ds => some ds
  | .str z => some (z.cps.toList.map fun c => .str ⟨#[c]⟩)
  | _ => none
def seqI (f : Env → R W) : Env → R (List PyData) := fun ρ => (frzE f ρ).bind fun w ρ' => match w with
  | .c d => (match itemsOf d with
    | some ds => .ok ds ρ'
    | none => .stuck)
  | _ => .stuck
theorem pi_any {te : TE} (hl : PE X e te) : PI X tg e (fun σ H R => te σ H fun x H1 => (∃ a, x = .ref a ∧ (∃ xs, SqL X.K H1 a xs) ∧ R (Itl X.K a) H1) ∨ ((∃ a, x = .ref a ∧ (∃ xs, SqT X.K H1 a xs) ∧ R (Itt X.K a) H1) ∨ ∃ z, x = .str z ∧ R (Its z) H1)) := by
  refine ⟨fun pins s σ H R I h => ?_⟩
  have h1 : ∀ (x : V), PE X e te := fun _ => hl
  refine thn (hl.run pins s σ H _ I h) fun v s1 ⟨x, H1, I1, r1, q1⟩ => ?_
  -- each way as its own rule, over a constant expression's value
  have one : ∀ {wi : TI} (te2 : TE), PI X tg e wi → True := fun _ _ => trivial
  rcases q1 with ⟨a, ex, ⟨xs, hq⟩, q⟩ | ⟨a, ex, ⟨xs, hq⟩, q⟩ | ⟨z, ex, q⟩
  · subst ex
    cases r1
    obtain ⟨its, rv, p, hz⟩ := I1.list hq
    refine wpAny_pyIter_list p.isList ?_
    refine ⟨s1.heap.objs.size, [s1.heap.objs.size], _, _, H1, rfl, I1.kept (t' := s1.toks) fun b o e => Heap.get?_push_of_some _ e, turn_list a _, ⟨_, Heap.get?_push_size _ rfl, rfl, rfl⟩, fun b hb => ?_, q⟩
    have e : b = s1.heap.objs.size := by simpa using hb
    subst e
    exact I1.fpOk (Nat.le_refl _) (I1.hok.fresh (Nat.le_refl _))
  · subst ex
    cases r1
    obtain ⟨its, rv, p, hz⟩ := I1.tuple hq
    refine wpAny_pyIter_tuple (show s1.heap.IsTuple a its.toArray from p) ?_
    refine ⟨s1.heap.objs.size, [s1.heap.objs.size], _, _, H1, rfl, I1.kept (t' := s1.toks) fun b o e => Heap.get?_push_of_some _ e, turn_tuple a _, ⟨_, Heap.get?_push_size _ rfl, rfl, rfl⟩, fun b hb => ?_, q⟩
    have e : b = s1.heap.objs.size := by simpa using hb
    subst e
    exact I1.fpOk (Nat.le_refl _) (I1.hok.fresh (Nat.le_refl _))
  · subst ex
    obtain ⟨t, rfl⟩ := r1
    cases ha : z.cps.all (· < 128)
    · exact wpAny_pyIter_wide ha (pi_one (tk := s1.toks) I1 _ (turn_str _ z t "str_iterator" (.inr rfl)) ⟨_, Heap.get?_push_size _ rfl, rfl, rfl⟩ q)
    · exact wpAny_pyIter_ascii ha (pi_one (tk := s1.toks) I1 _ (turn_str _ z t "str_ascii_iterator" (.inl rfl)) ⟨_, Heap.get?_push_size _ rfl, rfl, rfl⟩ q)
theorem itok_l {K : PySem.W.Frag} {C : Hp} {a : Addr} {xs : List V} {ds : List PyData} (h : Rd C a (.lst xs)) (t : RepAll K C xs ds) : ItOk K C (Itl K a) ds where
  go := fun i H s hi => by
    obtain ⟨x, h1, h2⟩ := t.get' (i := i) (d := ds[i]) (by simp [hi])
    exact ⟨xs, x, .inl (same_rd s h), h1⟩
  stop := fun H s => ⟨xs, .inl (same_rd s h), by rw [t.length]; exact Nat.le_refl _⟩
  yld := fun i H x H' C2 s1 s2 hi y => by
    obtain ⟨rfl, y⟩ := y
    obtain ⟨d, h1, h2⟩ := t.get (y xs (.inl (same_rd (s1.trans s2) h)))
    exact ⟨C2, d, h1, Step.refl _, s2, h2.mono s1⟩
theorem itok_t {K : PySem.W.Frag} {C : Hp} {a : Addr} {xs : List V} {ds : List PyData} (h : C a = some (.tup xs)) (t : RepAll K C xs ds) : ItOk K C (Itt K a) ds where
  go := fun i H s hi => by
    obtain ⟨x, h1, h2⟩ := t.get' (i := i) (d := ds[i]) (by simp [hi])
    exact ⟨xs, x, SqT.of (s _ _ h), h1⟩
  stop := fun H s => ⟨xs, SqT.of (s _ _ h), by rw [t.length]; exact Nat.le_refl _⟩
  yld := fun i H x H' C2 s1 s2 hi y => by
    obtain ⟨rfl, y⟩ := y
    obtain ⟨d, h1, h2⟩ := t.get (y xs (SqT.of ((s1.trans s2) _ _ h)))
    exact ⟨C2, d, h1, Step.refl _, s2, h2.mono s1⟩
theorem itok_s {K : PySem.W.Frag} {C : Hp} (z : Str) : ItOk K C (Its z) (z.cps.toList.map fun c => .str ⟨#[c]⟩) where
  go := fun i H s hi => by
    show i < z.cps.size
    simpa using hi
  stop := fun H s => by
    show z.cps.size ≤ _
    simp
  yld := fun i H x H' C2 s1 s2 hi y => by
    obtain ⟨rfl, c, y1, rfl⟩ := y
    exact ⟨C2, .str ⟨#[c]⟩, by rw [List.getElem?_map, Array.getElem?_toList, y1]; rfl, Step.refl _, s2, .str _⟩
theorem vi_seq (h : VE X Wx io v0 e f) : VI X Wx io v0 tg e (seqI f) := pi_mono (pi_any (ve_frz h)) fun σ H R q => by
  obtain ⟨ρ, C, F, s, p⟩ := q
  refine tW_bind s p fun w ρ1 v C1 H1 G F1 t p2 => ?_
  split at p2
  · rename_i d
    split at p2
    · rename_i ds hd
      have p3 : ∀ C' H' F' J, To X.K io v0 C H F ρ1 σ C' H' F' → ItOk X.K C' J ds → R J H' := p2
      have r := own_c t.own
      cases r with
      | lst a b =>
        simp only [itemsOf, Option.some.injEq] at hd
        subst hd
        exact .inl ⟨_, rfl, ⟨_, .inl (same_rd t.to.st.sub a)⟩, p3 C1 H1 F1 _ t.to (itok_l a b)⟩
      | tup a b =>
        simp only [itemsOf, Option.some.injEq] at hd
        subst hd
        exact .inr (.inl ⟨_, rfl, ⟨_, SqT.of (t.to.st.sub _ _ a)⟩, p3 C1 H1 F1 _ t.to (itok_t a b)⟩)
      | str z =>
        simp only [itemsOf, Option.some.injEq] at hd
        subst hd
        exact .inr (.inr ⟨z, rfl, p3 C1 H1 F1 _ t.to (itok_s z)⟩)
      | _ => simp [itemsOf] at hd
    · exact p2.elim
  · exact p2.elim
/-! ranges -/
def rangeD (lo hi : Int) : List PyData := (List.range (hi - lo).toNat).map fun i : Nat => .int (lo + i)
theorem itok_r {K : PySem.W.Frag} {C : Hp} (lo hi : Int) : ItOk K C (Itr lo (hi - lo).toNat) (rangeD lo hi) where
  go := fun i H s h => by
    show i < (hi - lo).toNat
    simpa [rangeD] using h
  stop := fun H s => by
    show (hi - lo).toNat ≤ _
    simp [rangeD]
  yld := fun i H x H' C2 s1 s2 h y => by
    obtain ⟨rfl, rfl⟩ := y
    have h' : i < (hi - lo).toNat := by simpa [rangeD] using h
    exact ⟨C2, .int (lo + i), by unfold rangeD; rw [List.getElem?_map, List.getElem?_range h']; rfl, Step.refl _, s2, .int _⟩
/-- what a call hands on to an iterator -/
def rngI (P : List W → Option (List PyData)) (os : List Opd) : Env → R (List PyData) := fun ρ => (evs os ρ).bind fun ts ρ' => match rds ρ' ts with
  | some ws => (match P ws with
    | some ds => .ok ds ρ'
    | none => .stuck)
  | none => .stuck
theorem rng_of {P : List W → Option (List PyData)} {σ : L2.St} {H : Hp} {R : It → Hp → Prop} (q : tI X Wx io v0 (rngI P os) σ H R) {Z : List V → Hp → Prop}
    (h : ∀ (C H : Hp) (ws : List W) (vs : List V) (ds : List PyData), Same C H → OwnL X.K C H ws vs → P ws = some ds → (∀ J, ItOk X.K C J ds → R J H) → Z vs H) : tAs X Wx io v0 os σ H Z := by
  obtain ⟨ρ, C, F, s, p⟩ := q
  refine ⟨ρ, C, F, s, (RPost.of_bind p).imp fun ts ρ' _ q => fun vs C1 H1 G F1 t => ?_⟩
  cases e : rds ρ' ts with
  | none => simp only [e] at q; exact q.elim
  | some ws =>
    cases e2 : P ws with
    | none => simp only [e, e2] at q; exact q.elim
    | some ds =>
      simp only [e, e2] at q
      have q' : ∀ C' H' F' J, To X.K io v0 C H F ρ' σ C' H' F' → ItOk X.K C' J ds → R J H' := q
      exact h C1 H1 ws vs ds t.to.st.sub (t.own.all t.to.st.env e) e2 fun J j => q' C1 H1 F1 J t.to j
def rng1 : List W → Option (List PyData)
  | [.c (.int j)] => if -(2 ^ 62) ≤ j ∧ j < 2 ^ 62 then some (rangeD 0 j) else none
  | _ => none
def rng2 : List W → Option (List PyData)
  | [.c (.int i), .c (.int j)] => if -(2 ^ 62) ≤ i ∧ i < 2 ^ 62 ∧ -(2 ^ 62) ≤ j ∧ j < 2 ^ 62 then some (rangeD i j) else none
  | _ => none
theorem vi_range1 {a : Expr} (hg : Gl X "range") (hm : X.mg "range" = none) (ha : VA X Wx io v0 [a] os) (hs : starEach [a] X.env = [(false, eval a X.env)] := by rfl) : VI X Wx io v0 tg (.Call (.Name "range" p) [a] [] pos) (rngI rng1 os) :=
  pi_mono (pi_range1 hg hm ha hs) fun σ H R q => rng_of q fun C H ws vs ds s o e k => by
    unfold rng1 at e
    split at e
    · split at e
      · rename_i j h
        cases e
        obtain ⟨v, _, rfl, o1⟩ := ownL1 o
        have k2 := k (Itr 0 ((_ : Int) - 0).toNat) (itok_r 0 _)
        simp only [Int.sub_zero] at k2
        exact ⟨_, by rw [rep_int (own_c o1)], h.1, h.2, k2⟩
      · cases e
    · cases e
theorem vi_range2 {a b : Expr} (hg : Gl X "range") (hm : X.mg "range" = none) (ha : VA X Wx io v0 [a, b] os) (hs : starEach [a, b] X.env = [(false, eval a X.env), (false, eval b X.env)] := by rfl) (hs2 : starEach [b] X.env = [(false, eval b X.env)] := by rfl) :
    VI X Wx io v0 tg (.Call (.Name "range" p) [a, b] [] pos) (rngI rng2 os) :=
  pi_mono (pi_range2 hg hm ha hs hs2) fun σ H R q => rng_of q fun C H ws vs ds s o e k => by
    unfold rng2 at e
    split at e
    · split at e
      · rename_i i j h
        cases e
        obtain ⟨v, u, _, _, rfl, o1, o2⟩ := ownL2 o
        exact ⟨_, _, by rw [rep_int (own_c o1), rep_int (own_c o2)], h, k _ (itok_r _ _)⟩
      · cases e
    · cases e
/-- a if t else b, walked -/
def ifI (t : Env → R Bool) (f g : Env → R (List PyData)) : Env → R (List PyData) := fun ρ => (t ρ).bind fun b ρ' => if b = true then f ρ' else g ρ'
end
end VL
set_option maxHeartbeats 4000000
namespace VL
open PySem PySem.Spec PyProof.Rows L2
/-! ### for -/
def loopS (g : PyData → Env → Option Env) (b : Env → RS) : List PyData → Env → RS
  | [], ρ => .nx ρ
  | d :: ds, ρ => match g d ρ with
    | some ρ1 => (b ρ1).seq (loopS g b ds)
    | none => .stuck
def forS (fi : Env → R (List PyData)) (g : PyData → Env → Option Env) (b : Env → RS) : Env → RS := fun ρ => (fi ρ).toS fun ds ρ' => loopS g b ds ρ'
section
variable {X : Cx} {Wx : WX} {io : List Nat} {v0 : L2.St} {e tg iter : Expr} {fi : Env → R (List PyData)} {g : PyData → Env → Option Env} {sl : List Nat} {b : Env → RS} {body : List Stmt} {pos : Pos}
theorem vs_for (hp : PassesOwn (model X.prog X.w) X.A X.env X.xe) (hc : X.calm = true) (hi : VI X Wx io v0 tg iter fi) (hg : VG X io v0 tg sl g) (hb : VSs X Wx io v0 body b)
    (hs : ∀ x, foldedSetIterable iter X.env x = pure x := by intro _; rfl) : VS X Wx io v0 (.For tg iter body [] pos) (forS fi g b) := ps_mono (ps_for hp hc hi hg hb hs) fun D σ H q => by
  obtain ⟨ρ, C, F, s, p⟩ := q
  refine ⟨ρ, C, F, s, (SPost.of_toS p σ).imp fun ds ρ1 _ q C1 H1 F1 J t1 ok => ?_⟩
  refine ⟨fun i m σ' H' => m = ds.length - i ∧ i ≤ ds.length ∧ ∃ ρ2 C2 F2, To X.K io v0 C H F ρ2 σ' C2 H' F2 ∧ Same C1 C2 ∧ SPost X Wx io v0 C H F (loopS g b (ds.drop i) ρ2) D,
    ⟨ds.length, by simp, Nat.zero_le _, ρ1, C1, F1, t1, Same.refl _, by simpa using q⟩, ?_⟩
  rintro i m σ' H' ⟨rfl, hi', ρ2, C2, F2, t2, c2, q2⟩
  by_cases hlt : i < ds.length
  · refine .inr ⟨ok.go i H' (c2.trans t2.st.sub) hlt, fun σ'' H'' => i + 1 ≤ ds.length ∧ ∃ ρ2 C2 F2, To X.K io v0 C H F ρ2 σ'' C2 H'' F2 ∧ Same C1 C2 ∧ SPost X Wx io v0 C H F (loopS g b (ds.drop (i + 1)) ρ2) D,
      fun σ'' H'' ⟨h1, h2⟩ => ⟨ds.length - (i + 1), by omega, rfl, h1, h2⟩, fun x H'' y => ?_⟩
    obtain ⟨C3, d, hd, st3, sb3, r3⟩ := ok.yld i H' x H'' C2 c2 t2.st.sub hlt y
    have hdrop : ds.drop i = d :: ds.drop (i + 1) := by
      rw [List.drop_eq_getElem_cons hlt]
      rw [List.getElem?_eq_getElem hlt] at hd
      rw [Option.some.inj hd]
    rw [hdrop] at q2
    simp only [loopS] at q2
    have t3 : To X.K io v0 C H F ρ2 σ' C3 H'' F2 := ⟨t2.step.trans (st3.mono fun _ z => z.elim) t2.new, t2.new, t2.st.carry st3 (fun _ _ z => z.elim) sb3⟩
    cases hg2 : g d ρ2 with
    | none => rw [hg2] at q2; exact q2.elim
    | some ρ3 =>
      rw [hg2] at q2
      refine ⟨ρ2, C3, F2, d, ρ3, t3.st, r3, hg2, fun σ3 F3 _ n3 s3 => ?_⟩
      have t4 : To X.K io v0 C H F ρ3 σ3 C3 H'' F3 := ⟨t3.step, fun a z => t3.new a (n3 a z), s3⟩
      refine ⟨ρ3, C3, F3, s3, ?_⟩
      have q3 : SPost X Wx io v0 C H F ((b ρ3).seq (loopS g b (ds.drop (i + 1)))) D := q2
      cases hb3 : b ρ3 with
      | nx ρ4 =>
        rw [hb3] at q3
        exact fun σ5 C5 H5 F5 t5 => ⟨hlt, ρ4, C5, F5, t4.trans t5, c2.trans (st3.cc.trans t5.step.cc), q3⟩
      | rt w ρ4 =>
        rw [hb3] at q3
        exact fun v σ5 C5 H5 G5 F5 t5 => (show SPost X Wx io v0 C H F (.rt w ρ4) D from q3) v σ5 C5 H5 G5 F5 (t4.transV t5)
      | exn ex ρ4 =>
        rw [hb3] at q3
        exact fun σ5 cls dd C5 H5 F5 t5 k => (show SPost X Wx io v0 C H F (.exn ex ρ4) D from q3) σ5 cls dd C5 H5 F5 (t4.trans t5) k
      | stuck => rw [hb3] at q3; exact q3.elim
  · have e : i = ds.length := by omega
    subst e
    have q3 : SPost X Wx io v0 C H F (.nx ρ2) D := by simpa [loopS] using q2
    exact .inl ⟨ok.stop H' (c2.trans t2.st.sub), q3 σ' C2 H' F2 t2⟩
end
/-! ### while -/
def whileN (t : Env → R Bool) (b : Env → RS) : Nat → Env → RS
  | 0, _ => .stuck
  | n + 1, ρ => (t ρ).toS fun c ρ' => if c = true then (b ρ').seq (whileN t b n) else .nx ρ'
open Classical in
noncomputable def whileS (t : Env → R Bool) (b : Env → RS) : Env → RS := fun ρ => if h : ∃ n, whileN t b n ρ ≠ .stuck then whileN t b h.choose ρ else .stuck
section
variable {X : Cx} {Wx : WX} {io : List Nat} {v0 : L2.St} {e : Expr} {t : Env → R Bool} {b : Env → RS} {body : List Stmt} {pos : Pos}
theorem vs_whileN (hp : PassesOwn (model X.prog X.w) X.A X.env X.xe) (hc : VT X Wx io v0 e t) (hb : VSs X Wx io v0 body b) (n : Nat) : VS X Wx io v0 (.While e body [] pos) (whileN t b n) := ps_mono (ps_while hp hc hb) fun D σ H q => by
  obtain ⟨ρ, C, F, s, p⟩ := q
  refine ⟨fun m σ' H' => ∃ ρ2 C2 F2, To X.K io v0 C H F ρ2 σ' C2 H' F2 ∧ SPost X Wx io v0 C H F (whileN t b m ρ2) D, ⟨n, ρ, C, F, To.refl s, p⟩, ?_⟩
  rintro m σ1 H1 ⟨ρ1, C1, F1, t1, q⟩
  cases m with
  | zero => exact q.elim
  | succ m =>
    have q' : SPost X Wx io v0 C H F ((t ρ1).toS fun c ρ' => if c = true then (b ρ').seq (whileN t b m) else .nx ρ') D := q
    refine ⟨ρ1, C1, F1, t1.st, (SPost.of_toS q' σ1).shift t1 fun c ρ2 _ q2 C2 H2 F2 t2 => ?_⟩
    have t12 := t1.trans t2
    cases c with
    | false => exact (show SPost X Wx io v0 C H F (.nx ρ2) D from q2) σ1 C2 H2 F2 t12
    | true =>
      have q3 : SPost X Wx io v0 C H F ((b ρ2).seq (whileN t b m)) D := q2
      refine ⟨fun σ' H' => ∃ ρ2 C2 F2, To X.K io v0 C H F ρ2 σ' C2 H' F2 ∧ SPost X Wx io v0 C H F (whileN t b m ρ2) D, fun σ' H' h => ⟨m, Nat.lt_succ_self _, h⟩, ρ2, C2, F2, t12.st, ?_⟩
      cases hb3 : b ρ2 with
      | nx ρ4 =>
        rw [hb3] at q3
        exact fun σ5 C5 H5 F5 t5 => ⟨ρ4, C5, F5, t12.trans t5, q3⟩
      | rt w ρ4 =>
        rw [hb3] at q3
        exact fun v σ5 C5 H5 G5 F5 t5 => (show SPost X Wx io v0 C H F (.rt w ρ4) D from q3) v σ5 C5 H5 G5 F5 (t12.transV t5)
      | exn ex ρ4 =>
        rw [hb3] at q3
        exact fun σ5 cls dd C5 H5 F5 t5 k => (show SPost X Wx io v0 C H F (.exn ex ρ4) D from q3) σ5 cls dd C5 H5 F5 (t12.trans t5) k
      | stuck => rw [hb3] at q3; exact q3.elim
theorem vs_while (hp : PassesOwn (model X.prog X.w) X.A X.env X.xe) (hc : VT X Wx io v0 e t) (hb : VSs X Wx io v0 body b) : VS X Wx io v0 (.While e body [] pos) (whileS t b) := by
  refine ⟨fun pins s σ H D I q => ?_⟩
  obtain ⟨ρ, C, F, st, p⟩ := q
  unfold whileS at p
  split at p
  · rename_i h
    exact (vs_whileN hp hc hb h.choose).run pins s σ H D I ⟨ρ, C, F, st, p⟩
  · exact p.elim
theorem RS.seq_ns {r : RS} {k k' : Env → RS} (h : ∀ ρ, k ρ ≠ .stuck → k' ρ = k ρ) (n : r.seq k ≠ .stuck) : r.seq k' = r.seq k := by
  cases r with
  | nx ρ => exact h ρ n
  | _ => rfl
theorem whileN_succ : ∀ (n : Nat) (ρ : Env), whileN t b n ρ ≠ .stuck → whileN t b (n + 1) ρ = whileN t b n ρ
  | 0, ρ, h => absurd rfl h
  | n + 1, ρ, h => by
    have h' : ((t ρ).toS fun c ρ' => if c = true then (b ρ').seq (whileN t b n) else .nx ρ') ≠ .stuck := h
    show ((t ρ).toS fun c ρ' => if c = true then (b ρ').seq (whileN t b (n + 1)) else .nx ρ') = ((t ρ).toS fun c ρ' => if c = true then (b ρ').seq (whileN t b n) else .nx ρ')
    cases ht : t ρ with
    | ok c ρ' =>
      rw [ht] at h'
      cases c with
      | false => rfl
      | true => exact RS.seq_ns (fun ρ h => whileN_succ n ρ h) h'
    | _ => rfl
theorem whileN_le {n m : Nat} {ρ : Env} (h : whileN t b n ρ ≠ .stuck) (l : n ≤ m) : whileN t b m ρ = whileN t b n ρ := by
  induction m with
  | zero =>
    have : n = 0 := by omega
    subst this; rfl
  | succ m ih =>
    by_cases e : n = m + 1
    · subst e; rfl
    · have i := ih (by omega)
      rw [whileN_succ m ρ (by rw [i]; exact h), i]
theorem whileS_eq {n : Nat} {ρ : Env} (h : whileN t b n ρ ≠ .stuck) : whileS t b ρ = whileN t b n ρ := by
  have hx : ∃ n, whileN t b n ρ ≠ .stuck := ⟨n, h⟩
  unfold whileS
  rw [dif_pos hx]
  rcases Nat.le_total n hx.choose with l | l
  · exact whileN_le h l
  · exact (whileN_le hx.choose_spec l).symm
end
/-! ### [e for x in xs if t] -/
def noX {α : Type} (r : R α) : R α := match r with
  | .ok a ρ => .ok a ρ
  | _ => .stuck
def wipeE (ρ : Env) : List Nat → Env
  | [] => ρ
  | v :: vs => (wipeE ρ vs).set v none
def coldAt (ρ : Env) (i : Nat) : Bool := match ρ[i]? with
  | some (some (.c _)) => true
  | some none => true
  | _ => false
/-- back from the block: the own names as they were -/
def backE (ρ1 ρ2 : Env) : List Nat → Env
  | [] => ρ2
  | v :: vs => (backE ρ1 ρ2 vs).set v (match ρ1[v]? with
    | some o => o
    | none => none)
def lcLoop (vs : List Nat) (g : PyData → Env → Option Env) (tt : Env → R Bool) (fe : Env → R W) : List PyData → Env → R (List PyData)
  | [], ρ => .ok [] ρ
  | d :: ds, ρ => match g d ρ with
    | none => .stuck
    | some ρa => (noX (tt ρa)).bind fun b ρb => if b = true then (noX (frzE fe ρb)).bind fun w ρc => match w with
        | .c d' => (lcLoop vs g tt fe ds (wipeE ρc vs)).bind fun r ρ' => .ok (d' :: r) ρ'
        | _ => .stuck
      else lcLoop vs g tt fe ds (wipeE ρb vs)
def lcE (vs : List Nat) (fi : Env → R (List PyData)) (g : PyData → Env → Option Env) (tt : Env → R Bool) (fe : Env → R W) : Env → R W := fun ρ => (fi ρ).bind fun ds ρ1 =>
  if (vs.all (coldAt ρ1)) = true ∧ ds.length ≤ sizeLine then (lcLoop vs g tt fe ds (wipeE ρ1 vs)).bind fun r ρ2 => .ok (.l (r.map .c)) (backE ρ1 ρ2 vs) else .stuck
def W0 : WX := fun _ _ _ _ => False
def yesT : Env → R Bool := fun ρ => .ok true ρ
section
variable {X : Cx} {Wx : WX} {io : List Nat} {v0 : L2.St} {C C' C1 H H' H1 : Hp} {F F1 : Foot} {ρ ρ1 : Env} {σ : L2.St} {vs : List Nat}
theorem wipeE_length (ρ : Env) : ∀ vs, (wipeE ρ vs).length = ρ.length
  | [] => rfl
  | v :: vs => by unfold wipeE; rw [List.length_set, wipeE_length ρ vs]
theorem wipeE_in : ∀ {vs : List Nat} {i : Nat}, i ∈ vs → (wipeE ρ vs)[i]? = if i < ρ.length then some none else none
  | v :: vs, i, h => by
    unfold wipeE
    by_cases e : v = i
    · subst e
      by_cases hl : v < ρ.length
      · rw [List.getElem?_set_self (by rw [wipeE_length]; exact hl), if_pos hl]
      · rw [if_neg hl, List.getElem?_eq_none]
        rw [List.length_set, wipeE_length]; omega
    · rw [List.getElem?_set_ne e]
      rcases List.mem_cons.mp h with h | h
      · exact absurd h.symm e
      · exact wipeE_in h
theorem wipeE_out : ∀ {vs : List Nat} {i : Nat}, i ∉ vs → (wipeE ρ vs)[i]? = ρ[i]?
  | [], i, _ => rfl
  | v :: vs, i, h => by
    rw [List.mem_cons, not_or] at h
    unfold wipeE
    rw [List.getElem?_set_ne (Ne.symm h.1)]
    exact wipeE_out h.2
theorem wipe_in : ∀ {vs : List Nat} {i : Nat}, i ∈ vs → (wipe σ vs)[i]? = if i < σ.length then some none else none
  | v :: vs, i, h => by
    unfold wipe
    by_cases e : v = i
    · subst e
      by_cases hl : v < σ.length
      · rw [List.getElem?_set_self (by rw [wipe_length]; exact hl), if_pos hl]
      · rw [if_neg hl, List.getElem?_eq_none]
        rw [List.length_set, wipe_length]; omega
    · rw [List.getElem?_set_ne e]
      rcases List.mem_cons.mp h with h | h
      · exact absurd h.symm e
      · exact wipe_in h
theorem wipe_outS : ∀ {vs : List Nat} {i : Nat}, i ∉ vs → (wipe σ vs)[i]? = σ[i]?
  | [], i, _ => rfl
  | v :: vs, i, h => by
    rw [List.mem_cons, not_or] at h
    unfold wipe
    rw [List.getElem?_set_ne (Ne.symm h.1)]
    exact wipe_outS h.2
theorem wipe_only {σ' : L2.St} {sl : List Nat} (o : Only sl σ σ') (h : ∀ i ∈ sl, i ∈ vs) : wipe σ' vs = wipe σ vs := by
  apply List.ext_getElem?
  intro i
  by_cases hi : i ∈ vs
  · rw [wipe_in hi, wipe_in hi, o.1]
  · rw [wipe_outS hi, wipe_outS hi]
    exact o.2 i fun z => hi (h i z)
theorem wipe_wipe : wipe (wipe σ vs) vs = wipe σ vs := by
  apply List.ext_getElem?
  intro i
  by_cases hi : i ∈ vs
  · rw [wipe_in hi, wipe_in hi, wipe_length]
  · rw [wipe_outS hi]
theorem St.wipe (s : St X.K io v0 ρ σ C H F) : ∀ (vs : List Nat), (∀ i ∈ vs, i ∉ io) → ∃ F', St X.K io v0 (wipeE ρ vs) (L2.wipe σ vs) C H F' ∧ ∀ a, F' a → F a
  | [], _ => ⟨F, s, fun _ z => z⟩
  | v :: vs, h => by
    obtain ⟨F', h1, h2⟩ := s.wipe vs fun i hi => h i (List.mem_cons_of_mem _ hi)
    obtain ⟨F2, h3, h4⟩ := h1.env.wipe v none
    refine ⟨F2, ⟨h3, h1.sub, fun j hj => ?_⟩, fun a z => h2 a (h4 a z)⟩
    have hv : v ∉ io := h v List.mem_cons_self
    show ((L2.wipe σ vs).set v none)[j]? = _
    rw [List.getElem?_set_ne (fun e => hv (by rw [e]; exact hj))]
    exact h1.fix j hj
/-- what stands is known place by place -/
theorem OwnEnv.place {K : PySem.W.Frag} : ∀ {ρ : Env} {σ : L2.St} {F : Foot} {i : Nat} {w : W}, OwnEnv K C H ρ σ F → ρ[i]? = some (some w) → ∃ v G, σ[i]? = some (some v) ∧ Own K C H w v G ∧ ∀ a, G a → F a := fun o e => o.at e
/-- from the block's environment back to the def's: own names were cold -/
theorem St.back {ρ2 : Env} {F2 : Foot} (s1 : St X.K io v0 ρ1 σ C1 H1 F1) (cc : Same C1 C') : ∀ (vs : List Nat), (∀ i ∈ vs, coldAt ρ1 i = true) → (∀ i ∈ vs, i ∉ io) → ρ2.length = σ.length → St X.K io v0 ρ2 (L2.wipe σ vs) C' H' F2 →
    ∃ F', St X.K io v0 (backE ρ1 ρ2 vs) σ C' H' F' ∧ ∀ a, F' a → F2 a := by
  -- one by one, over any slots that agree outside
  have main : ∀ (vs : List Nat) (ρ2 : Env) (σ2 : L2.St) (F2 : Foot), (∀ i ∈ vs, coldAt ρ1 i = true) → (∀ i ∈ vs, i ∉ io) → ρ2.length = σ.length → St X.K io v0 ρ2 σ2 C' H' F2 → (∀ i : Nat, i ∉ vs → σ2[i]? = σ[i]?) → σ2.length = σ.length →
      ∃ F' σ3, St X.K io v0 (backE ρ1 ρ2 vs) σ3 C' H' F' ∧ (∀ a, F' a → F2 a) ∧ (∀ i : Nat, σ3[i]? = σ[i]?) := by
    intro vs
    induction vs with
    | nil => exact fun ρ2 σ2 F2 _ _ _ s2 h _ => ⟨F2, σ2, s2, fun _ z => z, fun i => h i (by simp)⟩
    | cons v vs ih =>
      intro ρ2 σ2 F2 hc hio hl s2 h hl2
      -- put σ's own value at v first
      have hcv := hc v List.mem_cons_self
      have hvio := hio v List.mem_cons_self
      obtain ⟨Fw, hw1, hw2⟩ := s2.env.wipe v (match σ[v]? with | some x => x | none => none)
      have sW : St X.K io v0 (ρ2.set v none) (σ2.set v (match σ[v]? with | some x => x | none => none)) C' H' Fw := ⟨hw1, s2.sub, fun j hj => by
        rw [List.getElem?_set_ne (fun e => hvio (by rw [e]; exact hj))]
        exact s2.fix j hj⟩
      have hσ : ∀ i : Nat, i ∉ vs → (σ2.set v (match σ[v]? with | some x => x | none => none))[i]? = σ[i]? := fun i hi => by
        by_cases e : v = i
        · subst e
          by_cases hlt : v < σ2.length
          · rw [List.getElem?_set_self hlt]
            have : v < σ.length := by omega
            rw [List.getElem?_eq_getElem this]
          · rw [List.getElem?_eq_none (by rw [List.length_set]; omega), List.getElem?_eq_none (by omega)]
        · rw [List.getElem?_set_ne e]
          exact h i (by rw [List.mem_cons, not_or]; exact ⟨fun z => e z.symm, hi⟩)
      obtain ⟨F3, σ3, s3, n3, e3⟩ := ih (ρ2.set v none) _ Fw (fun i hi => hc i (List.mem_cons_of_mem _ hi)) (fun i hi => hio i (List.mem_cons_of_mem _ hi)) (by rw [List.length_set]; exact hl) sW hσ (by rw [List.length_set]; exact hl2)
      -- backE over the emptied place is backE with the place emptied, then set
      have hset : ∀ (vs : List Nat) (ρ : Env) (o : Option W), (backE ρ1 (ρ.set v none) vs).set v o = (backE ρ1 ρ vs).set v o := by
        intro vs
        induction vs with
        | nil => intro ρ o; show (ρ.set v none).set v o = ρ.set v o; rw [List.set_set]
        | cons u us ih =>
          intro ρ o
          show ((backE ρ1 (ρ.set v none) us).set u _).set v o = ((backE ρ1 ρ us).set u _).set v o
          by_cases e : u = v
          · subst e
            rw [List.set_set, List.set_set]
            exact ih ρ o
          · rw [List.set_comm _ _ e, List.set_comm _ _ e, ih ρ o]
      -- the value itself
      have hgoal : (backE ρ1 ρ2 (v :: vs)) = (backE ρ1 (ρ2.set v none) vs).set v (match ρ1[v]? with | some o => o | none => none) := (hset vs ρ2 _).symm
      rw [hgoal]
      unfold coldAt at hcv
      split at hcv
      · rename_i d hd
        rw [hd]
        obtain ⟨x, G, hx, ox, _⟩ := s1.env.at hd
        have r : Rep X.K C' x d := (own_c ox).mono cc
        obtain ⟨F4, s4, n4⟩ := s3.put (i := v) (.c (F := Foot.none) r fun _ z => z) (fun a z => z.elim) hvio
        have hsv : σ3[v]? = some (some x) := (e3 v).trans hx
        have hs4 : σ3.set v (some x) = σ3 := by
          apply List.ext_getElem?
          intro j
          by_cases hj : v = j
          · subst hj
            rw [List.getElem?_set_self (List.getElem?_eq_some_iff.mp hsv).1, hsv]
          · rw [List.getElem?_set_ne hj]
        rw [hs4] at s4
        exact ⟨F4, σ3, s4, fun a z => (n4 a z).elim (fun z => hw2 a (n3 a z)) fun z => z.elim, e3⟩
      · rename_i hd
        rw [hd]
        obtain ⟨F4, h4, n4⟩ := s3.env.wipe v (match σ3[v]? with | some x => x | none => none)
        have hs4 : σ3.set v (match σ3[v]? with | some x => x | none => none) = σ3 := by
          apply List.ext_getElem?
          intro j
          by_cases hj : v = j
          · subst hj
            by_cases hlt : v < σ3.length
            · rw [List.getElem?_set_self hlt, List.getElem?_eq_getElem hlt]
            · rw [List.getElem?_eq_none (by rw [List.length_set]; omega), List.getElem?_eq_none (by omega)]
          · rw [List.getElem?_set_ne hj]
        rw [hs4] at h4
        exact ⟨F4, σ3, ⟨h4, s3.sub, s3.fix⟩, fun a z => hw2 a (n3 a (n4 a z)), e3⟩
      · cases hcv
  intro vs hc hio hl s2
  obtain ⟨F', σ3, h1, h2, h3⟩ := main vs ρ2 (L2.wipe σ vs) F2 hc hio hl s2 (fun i hi => wipe_outS hi) (wipe_length _ _)
  have e : σ3 = σ := List.ext_getElem? h3
  subst e
  exact ⟨F', h1, h2⟩
theorem RPost.noX {α : Type} {X' : Cx} {r : R α} {k : α → Env → Prop} (p : RPost X Wx io v0 σ C H F (noX r) k) : ∃ a ρ', r = .ok a ρ' ∧ k a ρ' := by
  cases r with
  | ok a ρ => exact ⟨a, ρ, rfl, p⟩
  | exn _ _ => exact p.elim
  | stuck => exact p.elim
end
end VL
set_option maxHeartbeats 4000000
namespace VL
open PySem PySem.Spec PyProof.Rows L2
theorem R.bind_ok {α β : Type} {r : R α} {k : α → Env → R β} {b : β} {ρ : Env} (h : r.bind k = .ok b ρ) : ∃ a ρ1, r = .ok a ρ1 ∧ k a ρ1 = .ok b ρ := by
  cases r with
  | ok a ρ1 => exact ⟨a, ρ1, rfl, h⟩
  | exn _ _ => cases h
  | stuck => cases h
theorem noX_ok {α : Type} {r : R α} {a : α} {ρ : Env} (h : noX r = .ok a ρ) : r = .ok a ρ := by
  cases r with
  | ok _ _ => exact h
  | exn _ _ => cases h
  | stuck => cases h
theorem noX_noexn {α : Type} {r : R α} {e : Exn} {ρ : Env} : noX r ≠ .exn e ρ := by
  cases r <;> simp [noX]
theorem lcLoop_noexn {vs : List Nat} {g : PyData → Env → Option Env} {tt : Env → R Bool} {fe : Env → R W} {e : Exn} {ρ' : Env} : ∀ (ds : List PyData) (ρ : Env), lcLoop vs g tt fe ds ρ ≠ .exn e ρ'
  | [], ρ => by simp [lcLoop]
  | d :: ds, ρ => by
    unfold lcLoop
    cases g d ρ with
    | none => simp
    | some ρa =>
      simp only
      intro h
      cases ht : noX (tt ρa) with
      | ok b ρb =>
        rw [ht] at h
        simp only [R.bind] at h
        cases b with
        | true =>
          simp only [if_true] at h
          cases hf : noX (frzE fe ρb) with
          | ok w ρc =>
            rw [hf] at h
            simp only at h
            split at h
            · cases hl : lcLoop vs g tt fe ds (wipeE ρc vs) with
              | ok _ _ => rw [hl] at h; cases h
              | exn e2 ρ2 => exact lcLoop_noexn ds _ hl
              | stuck => rw [hl] at h; cases h
            · cases h
          | exn _ _ => exact noX_noexn hf
          | stuck => rw [hf] at h; cases h
        | false =>
          simp only [Bool.false_eq_true, if_false] at h
          exact lcLoop_noexn ds _ h
      | exn _ _ => exact noX_noexn ht
      | stuck => rw [ht] at h; cases h
section
variable {X : Cx} {Wx : WX} {io : List Nat} {v0 : L2.St} {vs : List Nat}
theorem tLc_of {fi : Env → R (List PyData)} {sl : List Nat} {g : PyData → Env → Option Env} {tt : Env → R Bool} {fe : Env → R W} {σ : L2.St} {H : Hp} {Q : VK} (hsl : ∀ i ∈ sl, i ∈ vs) (hio : ∀ i ∈ vs, i ∉ io)
    (q : tW X Wx io v0 (lcE vs fi g tt fe) σ H Q) : tLc (tI X Wx io v0 fi) (tgG X io v0 sl g) (tT X W0 io v0 tt) (tW X W0 io v0 (frzE fe)) vs σ H Q := by
  obtain ⟨ρ, C, F, s, p⟩ := q
  have p' : RPost X Wx io v0 σ C H F ((fi ρ).bind fun ds ρ1 => if (vs.all (coldAt ρ1)) = true ∧ ds.length ≤ sizeLine then (lcLoop vs g tt fe ds (wipeE ρ1 vs)).bind fun r ρ2 => R.ok (W.l (r.map W.c)) (backE ρ1 ρ2 vs) else R.stuck) _ := p
  refine ⟨ρ, C, F, s, (RPost.of_bind p').imp fun ds ρ1 _ q C1 H1 F1 J t1 ok D hD => ?_⟩
  split at q
  rotate_left
  · exact q.elim
  rename_i hcond
  obtain ⟨hcold, hlen⟩ := hcond
  cases hL : lcLoop vs g tt fe ds (wipeE ρ1 vs) with
  | exn e ρ2 => exact (lcLoop_noexn _ _ hL).elim
  | stuck => rw [hL] at q; exact q.elim
  | ok rfin ρfin =>
  rw [hL] at q
  have kfin : ∀ v C' H' G F', ToV X.K io v0 C H F (.l (rfin.map .c)) v (backE ρ1 ρfin vs) σ C' H' G F' → Q v H' := q
  have hcD : C1 D = none := free_sub t1.st.sub hD
  have hnD : New H F (fun a => a = D) := fun a z => by
    subst z
    by_cases hf : F a
    · exact .inl hf
    · refine .inr ?_
      cases e : H a with
      | none => rfl
      | some o => rw [t1.step.fr a o e hf] at hD; cases hD
  have hwl : ∀ {σ' : L2.St}, wipe σ' vs = wipe σ vs → σ'.length = σ.length := fun {σ'} e => by
    have := congrArg List.length e
    rw [wipe_length, wipe_length] at this
    exact this
  let Inv : Nat → Hp → Prop := fun i H' => i ≤ ds.length ∧ ∃ ρ2 C2 F2 acc dacc r, St X.K io v0 ρ2 (wipe σ vs) C2 H' F2 ∧ Step C H F C2 H' ∧ New H F F2 ∧ Same C1 C2 ∧ H' D = some (.lst acc) ∧ C2 D = none ∧ ¬ F2 D ∧ RepAll X.K C2 acc dacc ∧ dacc.length ≤ i ∧
    lcLoop vs g tt fe (ds.drop i) ρ2 = .ok r ρfin ∧ dacc ++ r = rfin
  refine ⟨fun i m H' => m = ds.length - i ∧ Inv i H', ⟨ds.length, by simp, Nat.zero_le _, ?_⟩, ?_⟩
  · obtain ⟨F2, h1, h2⟩ := t1.st.wipe vs hio
    have st : Step C1 H1 Foot.none C1 (upd H1 D (.lst [])) := ⟨Same.refl _, fun a o e _ => by rw [upd_ne (ne_of_none e hD)]; exact e, fun a z => .inl z⟩
    have sb : Same C1 (upd H1 D (.lst [])) := fun a o e => by rw [upd_ne (ne_of_none e hcD)]; exact t1.st.sub a o e
    refine ⟨wipeE ρ1 vs, C1, F2, [], [], rfin, h1.carry st (fun _ _ z => z.elim) sb, t1.step.trans (st.mono fun _ z => z.elim) t1.new, fun a z => t1.new a (h2 a z), Same.refl _, upd_same, hcD, fun z => (t1.st.env.foot (h2 _ z)).1 hD, .nil, Nat.le_refl _, by simpa using hL, rfl⟩
  · rintro i m H2 ⟨rfl, hi, ρ2, C2, F2, acc, dacc, r, s2, st2, n2, c2, hD2, hC2, hF2, ra, la, hloop, hr⟩
    by_cases hlt : i < ds.length
    · refine .inr ⟨ok.go i H2 (c2.trans s2.sub) hlt, fun H' => Inv (i + 1) H', fun H' h => ⟨ds.length - (i + 1), by omega, rfl, h⟩, fun x H3 y => ?_⟩
      obtain ⟨C3, d, hd, st3, sb3, r3⟩ := ok.yld i H2 x H3 C2 c2 s2.sub hlt y
      have hdrop : ds.drop i = d :: ds.drop (i + 1) := by
        rw [List.drop_eq_getElem_cons hlt]
        rw [List.getElem?_eq_getElem hlt] at hd
        rw [Option.some.inj hd]
      rw [hdrop] at hloop
      unfold lcLoop at hloop
      cases hg : g d ρ2 with
      | none => rw [hg] at hloop; cases hloop
      | some ρa =>
      rw [hg] at hloop
      simp only at hloop
      obtain ⟨b, ρb, htt, hloop⟩ := R.bind_ok hloop
      have htt := noX_ok htt
      refine ⟨ρ2, C3, F2, d, ρa, s2.carry st3 (fun _ _ z => z.elim) sb3, r3, hg, fun σa Fa only nFa sa => ?_⟩
      have hwa : wipe σa vs = wipe σ vs := (wipe_only only hsl).trans wipe_wipe
      refine ⟨hwa, ρa, C3, Fa, sa, ?_⟩
      rw [htt]
      show ∀ C' H' F', To X.K io v0 C3 H3 Fa ρb σa C' H' F' → _
      intro C4 H4 F4 t4
      -- the list's place through these steps
      have hFaD : ¬ Fa D := fun z => hF2 (nFa _ z)
      have hD3 : H3 D = some (.lst acc) := st3.fr D _ hD2 fun z => z
      have hD4 : H4 D = some (.lst acc) := t4.step.fr D _ hD3 hFaD
      have hC3 : C3 D = none := (stay_of st3 (a := D) ⟨by rw [hD2]; simp, hC2⟩ fun z => z).2
      have hC4 : C4 D = none := (stay_of t4.step (a := D) ⟨by rw [hD3]; simp, hC3⟩ hFaD).2
      have n23 : New H2 Foot.none Foot.none := New.zero
      have stA : Step C H F C3 H3 := st2.trans (st3.mono fun _ z => z.elim) n2
      have nA : New H F Fa := fun a z => n2 a (nFa a z)
      have stB : Step C H F C4 H4 := stA.trans t4.step nA
      have nB : New H F F4 := New.trans stA nA t4.new
      have hF4D : ¬ F4 D := fun z => by
        rcases t4.new D z with y | y
        · exact hFaD y
        · rw [hD3] at y; cases y
      cases b with
      | false =>
        simp only [Bool.false_eq_true, if_false] at hloop ⊢
        obtain ⟨F5, h5, m5⟩ := t4.st.wipe vs hio
        rw [hwa] at h5
        exact ⟨hlt, wipeE ρb vs, C4, F5, acc, dacc, r, h5, stB, fun a z => nB a (m5 a z), c2.trans (st3.cc.trans t4.step.cc), hD4, hC4, fun z => hF4D (m5 _ z), ra.mono (st3.cc.trans t4.step.cc), by omega, hloop, hr⟩
      | true =>
        simp only [if_true] at hloop ⊢
        obtain ⟨w, ρc, hfe, hloop⟩ := R.bind_ok hloop
        have hfe := noX_ok hfe
        refine ⟨ρb, C4, F4, t4.st, ?_⟩
        rw [hfe]
        show ∀ v C' H' G F', ToV X.K io v0 C4 H4 F4 w v ρc σa C' H' G F' → _
        intro v C5 H5 G5 F5 t5
        have hD5 : H5 D = some (.lst acc) := t5.to.step.fr D _ hD4 hF4D
        have hC5 : C5 D = none := (stay_of t5.to.step (a := D) ⟨by rw [hD4]; simp, hC4⟩ hF4D).2
        have hF5D : ¬ F5 D := fun z => by
          rcases t5.to.new D z with y | y
          · exact hF4D y
          · rw [hD4] at y; cases y
        have hal : acc.length < sizeLine := by rw [ra.length]; omega
        refine ⟨acc, hD5, hal, ?_⟩
        split at hloop
        rotate_left
        · cases hloop
        obtain ⟨r', ρ', hl2, heq⟩ := R.bind_ok hloop
        cases heq
        obtain ⟨F6, h6, m6⟩ := t5.to.st.wipe vs hio
        rw [hwa] at h6
        have st6 : Step C5 H5 (fun a => a = D) C5 (upd H5 D (.lst (acc ++ [v]))) := ⟨Same.refl _, fun a o e z => by rw [upd_ne z]; exact e, fun a z => .inl z⟩
        have sb6 : Same C5 (upd H5 D (.lst (acc ++ [v]))) := fun a o e => by rw [upd_ne (ne_of_none e hC5)]; exact t5.to.st.sub a o e
        have stC : Step C H F C5 H5 := stB.trans t5.to.step nB
        have rv := own_c t5.own
        refine ⟨hlt, wipeE ρc vs, C5, F6, acc ++ [v], dacc ++ [_], r', h6.carry st6 (fun a z y => hF5D (by rw [← y]; exact m6 _ z)) sb6, stC.trans st6 hnD, fun a z => New.trans stB nB t5.to.new a (m6 a z), c2.trans (st3.cc.trans (t4.step.cc.trans t5.to.step.cc)), upd_same, hC5, fun z => hF5D (m6 _ z), (ra.mono (st3.cc.trans (t4.step.cc.trans t5.to.step.cc))).append (.cons rv .nil), by rw [List.length_append]; simp; omega, hl2, by rw [← hr]; simp⟩
    · have e : i = ds.length := by omega
      subst e
      have hz : ds.drop ds.length = [] := by simp
      rw [hz] at hloop
      unfold lcLoop at hloop
      have e1 : r = [] := by cases hloop; rfl
      have e2 : ρ2 = ρfin := by cases hloop; rfl
      rw [e1, List.append_nil] at hr
      subst hr e2
      refine .inl ⟨ok.stop H2 (c2.trans s2.sub), ?_⟩
      have hl2 : ρ2.length = σ.length := by rw [s2.env.length, wipe_length]
      obtain ⟨F3, h3, m3⟩ := St.back (ρ2 := ρ2) t1.st c2 vs (fun i hi => List.all_eq_true.mp hcold i hi) hio hl2 s2
      refine kfin (.ref D) C2 H2 (fun a => a = D) F3 ⟨⟨st2, fun a z => n2 a (m3 a z), h3⟩, hnD, fun a z y => hF2 (by rw [← z]; exact m3 _ y), .l hD2 hC2 (colds_own ra) (fun z => z) fun a => ⟨fun z => .inl z, fun z => z.elim id fun z => z.elim⟩⟩
def VTs (X : Cx) (Wx : WX) (io : List Nat) (v0 : L2.St) (ifs : List Expr) (f : Env → R Bool) : Prop := PTs X ifs (tT X Wx io v0 f)
theorem pts_mono {t t' : TT} {ifs : List Expr} (h : PTs X ifs t) (m : ∀ σ H Q, t' σ H Q → t σ H Q) : PTs X ifs t' := ⟨fun pins s σ H Q I q => h.run pins s σ H Q I (m σ H Q q)⟩
theorem vts_nil : VTs X Wx io v0 [] yesT := pts_mono pts_nil fun σ H Q q => by
  obtain ⟨ρ, C, F, s, p⟩ := q
  exact p C H F (To.refl s)
theorem vts_one {c : Expr} {f : Env → R Bool} (h : VT X Wx io v0 c f) : VTs X Wx io v0 [c] f := pts_one h
variable {elt tg iter : Expr} {ifs : List Expr} {scope : Scope} {pos : Pos} {fi : Env → R (List PyData)} {sl : List Nat} {g : PyData → Env → Option Env} {tt : Env → R Bool} {fe : Env → R W}
theorem ve_lc (own : List (Str × Nat)) (hc : X.calm = true) (hN : X.N.Nodup) (hi : VI X Wx io v0 tg iter fi) (ok : BlkOk X.N X.env.scope scope own)
    (hg : ∀ (s : Shared) (H : Hp) (C : Addr) (cl : List (Str × Addr)) (fp : List Addr), VG (X.blk s H scope (compEnvC scope cl C X.env) fp) io v0 tg sl g)
    (ht : ∀ (s : Shared) (H : Hp) (C : Addr) (cl : List (Str × Addr)) (fp : List Addr), VTs (X.blk s H scope (compEnvC scope cl C X.env) fp) W0 io v0 ifs tt)
    (he : ∀ (s : Shared) (H : Hp) (C : Addr) (cl : List (Str × Addr)) (fp : List Addr), VE (X.blk s H scope (compEnvC scope cl C X.env) fp) W0 io v0 elt fe)
    (hsl : ∀ i ∈ sl, i ∈ own.map (·.2) := by decide) (hio : ∀ i ∈ own.map (·.2), i ∉ io := by decide) (hs : ∀ x, foldedSetIterable iter X.env x = pure x := by intro _; rfl) :
    VE X Wx io v0 (.ListComp elt [⟨tg, iter, ifs, 0⟩] scope pos) (lcE (own.map (·.2)) fi g tt fe) :=
  pe_mono (pe_lc (own := own) (g := tgG X io v0 sl g) (tt := tT X W0 io v0 tt) (te := tW X W0 io v0 (frzE fe)) hc hN hi ok hg ht (fun s H C cl fp => ve_frz (he s H C cl fp)) hs) fun σ H Q q => tLc_of hsl hio q
theorem vs_setLc (i : Nat) {y : Str} {py spos : Pos} (own : List (Str × Nat)) (hc : X.calm = true) (hN : X.N.Nodup) (hi : VI X Wx io v0 tg iter fi) (ok : BlkOk X.N X.env.scope scope own)
    (hg : ∀ (s : Shared) (H : Hp) (C : Addr) (cl : List (Str × Addr)) (fp : List Addr), VG (X.blk s H scope (compEnvC scope cl C X.env) fp) io v0 tg sl g)
    (ht : ∀ (s : Shared) (H : Hp) (C : Addr) (cl : List (Str × Addr)) (fp : List Addr), VTs (X.blk s H scope (compEnvC scope cl C X.env) fp) W0 io v0 ifs tt)
    (he : ∀ (s : Shared) (H : Hp) (C : Addr) (cl : List (Str × Addr)) (fp : List Addr), VE (X.blk s H scope (compEnvC scope cl C X.env) fp) W0 io v0 elt fe)
    (hsw : swapsWith (.ListComp elt [⟨tg, iter, ifs, 0⟩] scope pos) (some (.Name y py)) spos.line X.env = pure true) (hy : X.N[i]? = some y := by rfl) (hyl : X.env.scope.names.lookup y = some .local := by rfl)
    (hsl : ∀ i ∈ sl, i ∈ own.map (·.2) := by decide) (hio : ∀ i ∈ own.map (·.2), i ∉ io := by decide) (hyo : i ∉ io := by decide) (hs : ∀ x, foldedSetIterable iter X.env x = pure x := by intro _; rfl) :
    VS X Wx io v0 (.Assign [.Name y py] (.ListComp elt [⟨tg, iter, ifs, 0⟩] scope pos) spos) (asgS i (lcE (own.map (·.2)) fi g tt fe)) :=
  ps_mono (ps_setLc (own := own) (i := i) (g := tgG X io v0 sl g) (tt := tT X W0 io v0 tt) (te := tW X W0 io v0 (frzE fe)) hc hN hy hyl hsw hi ok hg ht (fun s H C cl fp => ve_frz (he s H C cl fp)) hs) fun D σ H q => tLc_of hsl hio (by
    obtain ⟨ρ, C, F, s, p⟩ := q
    refine ⟨ρ, C, F, s, (SPost.of_toS p σ).imp fun w ρ' _ q v C' H' G F' t => ?_⟩
    obtain ⟨F2, t2⟩ := To.put t hyo
    exact q _ _ _ _ t2)
end
end VL
set_option maxHeartbeats 4000000
namespace VL
open PySem PySem.Spec PyProof.Rows L2
/-! ### defs -/
/-- a def keeps a promise, where nothing is being shown (repr) around -/
structure FnG (P : Program) (w : World) (K : PySem.W.Frag) (mg : Str → Option Value) (base : Heap) (k : Nat) (f : Addr) (fd : FuncData) (ps : List Str) (sp : Sp) : Prop where
  len : ∀ vs H Q E, sp vs H Q E → vs.length = ps.length
  run : ∀ (A : Around) (outer : List PySem.Env) (s : Shared) (H : Hp) (args : Args) (us : List Value) (vs : List V) (Q : VK) (E : XK), Room k A → A.guards = some [] → Env0 P w K mg base A outer s H → BindsTo s fd args (ps.zip us) → Vals vs us → sp vs H Q E →
    codeAny (model P w) A (.call (.ref f) args) (CR (L2.CX P w) outer P w H s Q E) s
theorem FnG.mono {P : Program} {w : World} {K : PySem.W.Frag} {mg : Str → Option Value} {base : Heap} {j k : Nat} {f : Addr} {fd : FuncData} {ps : List Str} {sp : Sp} (F : FnG P w K mg base j f fd ps sp) (h : j ≤ k) : FnG P w K mg base k f fd ps sp :=
  ⟨F.len, fun A outer s H args us vs Q E hr => F.run A outer s H args us vs Q E (hr.mono h)⟩
inductive RD where
  | ok (w : W) (us : List W)
  | exn (e : Exn) (us : List W)
  | stuck
/-- the values at the places io -/
def pickV (io : List Nat) (vs : List V) : List V := io.map fun i => vs.getD i .non
structure DOut (K : PySem.W.Frag) (C H : Hp) (F : Foot) (us : List W) (xs : List V) (C' H' : Hp) (F' : Foot) : Prop where
  step : Step C H F C' H'
  new : New H F F'
  sub : Same C' H'
  own : OwnAll K C' H' us xs F'
def spW (K : PySem.W.Frag) (mg : Str → Option Value) (n : Nat) (io : List Nat) (g : List W → RD) : Sp := fun vs H Q E => vs.length = n ∧ ∃ C F ws, Same C H ∧ OwnAll K C H ws vs F ∧ match g ws with
  | .ok w us => ∀ v C' H' G F', DOut K C H F us (pickV io vs) C' H' F' → New H F G → (∀ a, G a → ¬ F' a) → Own K C' H' w v G → Q v H'
  | .exn e us => ∀ cls d C' H' F', DOut K C H F us (pickV io vs) C' H' F' → (∃ D, mg e.cls = some (.ref D) ∧ cls = .ref D ∧
      ((e.args = [] ∧ d = none) ∨ ∃ dd zs, d = some dd ∧ e.args.length = zs.length ∧ C' dd = some (.xd ((e.args.map (·.1)).zip zs)) ∧ RepAll K C' zs (e.args.map (·.2)))) → E cls d H'
  | .stuck => False
/-! the callee's side -/
def pickE (io : List Nat) (ρ : Env) : Option (List W) := match io with
  | [] => some []
  | i :: r => match ρ[i]? with
    | some (some w) => (pickE r ρ).map (w :: ·)
    | _ => none
def runD (n : Nat) (io : List Nat) (g : Env → RS) : List W → RD := fun ws => match g (ws.map some ++ List.replicate (n - ws.length) none) with
  | .nx ρ => (match pickE io ρ with
    | some us => .ok (.c .none) us
    | none => .stuck)
  | .rt w ρ => (match pickE io ρ with
    | some us => .ok w us
    | none => .stuck)
  | .exn e ρ => (match pickE io ρ with
    | some us => .exn e us
    | none => .stuck)
  | .stuck => .stuck
section
variable {K : PySem.W.Frag} {C H : Hp} {F : Foot} {ρ : Env} {σ : L2.St} {ws : List W} {vs : List V}
theorem OwnEnv.nones : ∀ n, OwnEnv K C H (List.replicate n none) (List.replicate n none) Foot.none
  | 0 => .nil fun _ z => z
  | n + 1 => .non (OwnEnv.nones n)
theorem OwnEnv.start : ∀ {ws : List W} {vs : List V} {F : Foot} (n : Nat), OwnAll K C H ws vs F → OwnEnv K C H (ws.map some ++ List.replicate n none) (vs.map some ++ List.replicate n none) F
  | _, _, _, n, .nil h => (OwnEnv.nones n).congr fun a => ⟨fun z => z.elim, fun z => (h a z).elim⟩
  | _, _, _, n, .cons o t dj q => .som o (OwnEnv.start n t) dj q
theorem pickE_set : ∀ {io : List Nat} {i : Nat} {o : Option W}, i ∉ io → pickE io (ρ.set i o) = pickE io ρ
  | [], _, _, _ => rfl
  | j :: r, i, o, h => by
    rw [List.mem_cons, not_or] at h
    unfold pickE
    rw [List.getElem?_set_ne h.1, pickE_set h.2]
/-- the value at a place -/
def valAt (σ : L2.St) (i : Nat) : V := match σ[i]? with
  | some (some v) => v
  | _ => .non
theorem valAt_some {i : Nat} {v : V} (h : σ[i]? = some (some v)) : valAt σ i = v := by
  unfold valAt
  rw [h]
theorem OwnEnv.pick : ∀ {io : List Nat} {ρ : Env} {F : Foot} {us : List W}, io.Nodup → OwnEnv K C H ρ σ F → pickE io ρ = some us → ∃ F', OwnAll K C H us (io.map (valAt σ)) F' ∧ ∀ a, F' a → F a
  | [], ρ, F, us, _, o, e => by
    simp only [pickE, Option.some.injEq] at e
    subst e
    exact ⟨Foot.none, .nil fun _ z => z, fun _ z => z.elim⟩
  | i :: r, ρ, F, us, nd, o, e => by
    unfold pickE at e
    split at e
    · rename_i w hw
      cases e2 : pickE r ρ with
      | none => rw [e2] at e; cases e
      | some us' =>
        rw [e2] at e
        simp only [Option.map_some, Option.some.injEq] at e
        subst e
        have nd' := List.nodup_cons.mp nd
        obtain ⟨v, G, G', h1, h2, h3, h4, h5⟩ := o.out hw
        obtain ⟨F', h6, h7⟩ := OwnEnv.pick nd'.2 h3 ((pickE_set nd'.1).trans e2)
        refine ⟨Foot.or G F', ?_, fun a z => ?_⟩
        · rw [List.map_cons, valAt_some h1]
          exact .cons h2 h6 (fun a x y => h4 a x (h7 a y)) fun a => Iff.rfl
        · rcases z with z | z
          · exact (h5 a).mpr (.inl z)
          · exact (h5 a).mpr (.inr (h7 a z))
    · cases e
theorem start_at {N : List Str} {i : Nat} (h : i < vs.length) : (L2.start N vs)[i]? = some (some (vs.getD i .non)) := by
  unfold L2.start
  rw [List.getElem?_append_left (by simpa using h), List.getElem?_map, List.getElem?_eq_getElem h]
  simp [List.getD, List.getElem?_eq_getElem h]
end
section
variable {P : Program} {w : World} {K : PySem.W.Frag} {mg : Str → Option Value} {base : Heap}
/-- the context of a def's body -/
abbrev cxG (P : Program) (w : World) (K : PySem.W.Frag) (mg : Str → Option Value) (base : Heap) (N : List Str) (qual : Str) (scope : Scope) (f : Addr) (cd : Value) (A : Around) (outer : List PySem.Env) (s : Shared) (H : Hp) (E : XK) : Cx := cxOf (L2.CX P w) P w K mg base N qual scope f cd A outer s H E
/-- what a body may lean on -/
structure Bd (X : Cx) (k : Nat) (Wx : WX) : Prop where
  room : Room k X.A
  guards : X.A.guards = some []
  calm : X.calm = true
  takes : Takes X Wx
theorem fnG_of {x qual : Str} {st : Stmt} {f : Addr} {fd : FuncData} {N ps : List Str} {k : Nat} {g : Env → RS} {io : List Nat} (F : Fun K x qual st f fd) (S : FnScope N ps (defScope st)) (hio : io.Nodup) (hlt : ∀ i ∈ io, i < ps.length)
    (hbody : ∀ (cdv : Value) (A : Around) (outer : List PySem.Env) (s : Shared) (H : Hp) (vs : List V) (E : XK), Bd (cxG P w K mg base N qual (defScope st) f cdv A outer s H E) k (fun cls d _ H => E cls d H) →
      PassesOwn (model P w) (cxG P w K mg base N qual (defScope st) f cdv A outer s H E).A (cxG P w K mg base N qual (defScope st) f cdv A outer s H E).env (cxG P w K mg base N qual (defScope st) f cdv A outer s H E).xe →
      VSs (cxG P w K mg base N qual (defScope st) f cdv A outer s H E) (fun cls d _ H => E cls d H) io (L2.start N vs) (defBody st) g) : FnG P w K mg base (k + 1) f fd ps (spW K mg ps.length io (runD N.length io g)) := by
  obtain ⟨oc, od, kV, doc, pm, an, cdv, ct, osl, rfl, lk, hcd⟩ := F.ex
  refine ⟨fun vs H Q E h => h.1, fun A outer s H args us vs Q E hr hgd e0 hb r hsp => ?_⟩
  have hl := hsp.1
  have KX : K.In s.heap := e0.mod.kin.keeps fun b o e => (e0.bs b o e).1
  have lim : s.heap.NoLimit := e0.mod.nolimit.keeps fun b o e => (e0.bs b o e).1
  have hkind : ∀ y ∈ ps.zip us, (defScope st).names.lookup y.1 = some .local ∨ ((defScope st).names.lookup y.1 = some .cell ∧ ((cellsFrom (s.heap.objs.size + 1) (defScope st).names []).lookup y.1).isSome = true) := fun ⟨n, v⟩ hy => by
    rcases S.par n (List.of_mem_zip hy).1 with q | q
    · exact .inl q
    · exact .inr ⟨q, PySem.W.cellsFrom_some _ _ _ (.inl q)⟩
  refine codeAny_call_function hr.depth (KX _ _ lk) rfl S.co S.gen rfl (PySem.W.codeRec_of KX hcd) (hb _ _ _ _ ?_)
  refine wpAny_newFunctionEnv_cells S.kind hkind fun env he s1 x => ?_
  subst he
  refine ⟨lim.keeps x.toInCall.keep, codeAny_func ?_⟩
  have ht := hbody cdv A outer s H vs E ⟨hr.deeper _, hgd, rfl, takes_of rfl rfl rfl rfl⟩ (passes_of rfl)
  have I : Inv (cxOf (L2.CX P w) P w K mg base N qual (defScope st) f cdv A outer s H E) [] (L2.start N vs) H s1 := inv_start S hr.hd e0 hl r x
  have hq : tS (cxG P w K mg base N qual (defScope st) f cdv A outer s H E) (fun cls d _ H => E cls d H) io (L2.start N vs) g { nx := fun _ H' => Q .non H', rt := Q } (L2.start N vs) H := by
    obtain ⟨_, C, F, ws, sb, ow, post⟩ := hsp
    have hwl := ow.length
    have en := OwnEnv.start (N.length - vs.length) ow
    refine ⟨ws.map some ++ List.replicate (N.length - ws.length) none, C, F, ⟨by rw [hwl]; exact en, sb, fun _ _ => rfl⟩, ?_⟩
    have fin : ∀ {ρ' : Env} {us : List W} {σ' : L2.St} {C' H' : Hp} {F' : Foot}, pickE io ρ' = some us → To K io (L2.start N vs) C H F ρ' σ' C' H' F' → ∃ F2, DOut K C H F us (pickV io vs) C' H' F2 ∧ ∀ a, F2 a → F' a := fun {ρ' us σ' C' H' F'} hp t => by
      obtain ⟨F2, h1, h2⟩ := t.st.env.pick hio hp
      refine ⟨F2, ⟨t.step, fun a z => t.new a (h2 a z), t.st.sub, ?_⟩, h2⟩
      have e : io.map (valAt σ') = pickV io vs := by
        unfold pickV
        refine List.map_congr_left fun i hi => valAt_some ?_
        rw [t.st.fix i hi, start_at (by rw [hl]; exact hlt i hi)]
      rw [e] at h1
      exact h1
    unfold runD at post
    cases hg : g (ws.map some ++ List.replicate (N.length - ws.length) none) with
    | nx ρ' =>
      rw [hg] at post
      intro σ' C' H' F' t
      cases hp : pickE io ρ' with
      | none => simp only [hp] at post
      | some us =>
        simp only [hp] at post
        obtain ⟨F2, d, _⟩ := fin hp t
        exact post .non C' H' Foot.none F2 d New.zero (fun _ z => z.elim) (.c .non fun _ z => z)
    | rt w' ρ' =>
      rw [hg] at post
      intro v σ' C' H' G F' t
      cases hp : pickE io ρ' with
      | none => simp only [hp] at post
      | some us =>
        simp only [hp] at post
        obtain ⟨F2, d, n2⟩ := fin hp t.to
        exact post v C' H' G F2 d t.newv (fun a z y => t.dis a z (n2 a y)) t.own
    | exn e ρ' =>
      rw [hg] at post
      intro σ' cls d C' H' F' t k
      cases hp : pickE io ρ' with
      | none => simp only [hp] at post
      | some us =>
        simp only [hp] at post
        obtain ⟨F2, dd, n2⟩ := fin hp t
        exact post cls d C' H' F2 dd k
    | stuck => rw [hg] at post; exact post.elim
  refine wpAny_mono (ht.run [] s1 (L2.start N vs) H _ I hq) (fun fl s' hs => ?_) fun e s' hs => hs
  have fin : ∀ {σ' : L2.St} {H' : Hp} {v : V} {u : Value}, Inv (cxOf (L2.CX P w) P w K mg base N qual (defScope st) f cdv A outer s H E) [] σ' H' s' → RelV v u → Q v H' → CE outer P w H s Q u s' :=
    fun {σ' H' v u} J rv q => ⟨v, H', J.os, J.bare, J.base, J.hok, rv, q⟩
  cases fl with
  | ret u =>
    obtain ⟨v, σ', H', J, rv, q⟩ := hs
    exact fin J rv q
  | next =>
    obtain ⟨σ', H', J, q⟩ := hs
    exact fin (v := V.non) (u := Value.none) J rfl q
  | brk =>
    obtain ⟨_, _, _, q⟩ := hs
    exact False.elim q
  | cont =>
    obtain ⟨_, _, _, q⟩ := hs
    exact False.elim q
end
/-! ### calls -/
/-- the temporaries, the names taken out of the environment -/
def takeTs : List AV → Env → Option (List W × Env)
  | [], ρ => some ([], ρ)
  | .v w :: ts, ρ => match takeTs ts ρ with
    | some (ws, ρ') => some (w :: ws, ρ')
    | none => none
  | .r i :: ts, ρ => match ρ[i]? with
    | some (some w) => (match takeTs ts (ρ.set i none) with
      | some (ws, ρ') => some (w :: ws, ρ')
      | none => none)
    | _ => none
def refsOf : List AV → List Nat
  | [] => []
  | .v _ :: ts => refsOf ts
  | .r i :: ts => i :: refsOf ts
def backTs : List Nat → List W → Env → Option Env
  | [], [], ρ => some ρ
  | i :: r, u :: us, ρ => backTs r us (ρ.set i (some u))
  | _, _, _ => none
/-- the places of the names among the operands -/
def refIx (n : Nat) : List Opd → List Nat
  | [] => []
  | .val _ :: os => refIx (n + 1) os
  | .bor _ :: os => n :: refIx (n + 1) os
def callE (g : List W → RD) (os : List Opd) : Env → R W := fun ρ => (evs os ρ).bind fun ts ρ' => match takeTs ts ρ' with
  | some (ws, ρ2) => (match g ws with
    | .ok w us => (match backTs (refsOf ts) us ρ2 with
      | some ρ3 => .ok w ρ3
      | none => .stuck)
    | .exn e us => (match backTs (refsOf ts) us ρ2 with
      | some ρ3 => .exn e ρ3
      | none => .stuck)
    | .stuck => .stuck)
  | none => .stuck
section
variable {K : PySem.W.Frag} {C H : Hp} {F G : Foot} {ρ ρ' : Env} {σ : L2.St} {ws us : List W} {vs : List V} {ts : List AV}
theorem take_ok : ∀ {ts : List AV} {ρ ρ' : Env} {ws : List W} {vs : List V} {F G : Foot}, OwnTs K C H σ ts vs G → OwnEnv K C H ρ σ F → (∀ a, G a → ¬ F a) → takeTs ts ρ = some (ws, ρ') →
    ∃ F1 F2, OwnAll K C H ws vs F1 ∧ OwnEnv K C H ρ' σ F2 ∧ (∀ a, F1 a → ¬ F2 a) ∧ (∀ a, F1 a ∨ F2 a → G a ∨ F a)
  | _, ρ, ρ', ws, _, F, G, .nil n, en, _, e => by
    simp only [takeTs, Option.some.injEq, Prod.mk.injEq] at e
    obtain ⟨rfl, rfl⟩ := e
    exact ⟨Foot.none, F, .nil fun _ z => z, en, fun _ z => z.elim, fun a z => z.elim (fun z => z.elim) .inr⟩
  | _, ρ, ρ', ws, _, F, G, .v (w := w) (ts := ts) (G := G1) (G' := G2) o t dj q, en, d, e => by
    unfold takeTs at e
    cases e1 : takeTs ts ρ with
    | none => rw [e1] at e; cases e
    | some p =>
      obtain ⟨ws', ρ1⟩ := p
      rw [e1] at e
      simp only [Option.some.injEq, Prod.mk.injEq] at e
      obtain ⟨rfl, rfl⟩ := e
      obtain ⟨F1, F2, h1, h2, h3, h4⟩ := take_ok t en (fun a z => d a ((q a).mpr (.inr z))) e1
      have d1 : ∀ a, G1 a → ¬ (F1 a ∨ F2 a) := fun a z y => by
        rcases h4 a y with y | y
        · exact dj a z y
        · exact d a ((q a).mpr (.inl z)) y
      refine ⟨Foot.or G1 F1, F2, .cons o h1 (fun a z y => d1 a z (.inl y)) fun a => Iff.rfl, h2, fun a z y => ?_, fun a z => ?_⟩
      · rcases z with z | z
        · exact d1 a z (.inr y)
        · exact h3 a z y
      · rcases z with (z | z) | z
        · exact .inl ((q a).mpr (.inl z))
        · exact (h4 a (.inl z)).imp (fun y => (q a).mpr (.inr y)) id
        · exact (h4 a (.inr z)).imp (fun y => (q a).mpr (.inr y)) id
  | _, ρ, ρ', ws, _, F, G, .r (i := i) (ts := ts) (v := v) hs t, en, d, e => by
    unfold takeTs at e
    cases hi : ρ[i]? with
    | none => simp only [hi] at e; cases e
    | some o =>
      cases o with
      | none => simp only [hi] at e; cases e
      | some w =>
        simp only [hi] at e
        cases e1 : takeTs ts (ρ.set i none) with
        | none => rw [e1] at e; cases e
        | some p =>
          obtain ⟨ws', ρ1⟩ := p
          rw [e1] at e
          simp only [Option.some.injEq, Prod.mk.injEq] at e
          obtain ⟨rfl, rfl⟩ := e
          obtain ⟨v', Gi, Gr, h1, h2, h3, h4, h5⟩ := en.out hi
          rw [hs] at h1
          cases h1
          obtain ⟨F1, F2, h6, h7, h8, h9⟩ := take_ok t h3 (fun a z y => d a z ((h5 a).mpr (.inr y))) e1
          have d1 : ∀ a, Gi a → ¬ (F1 a ∨ F2 a) := fun a z y => by
            rcases h9 a y with y | y
            · exact d a y ((h5 a).mpr (.inl z))
            · exact h4 a z y
          refine ⟨Foot.or Gi F1, F2, .cons h2 h6 (fun a z y => d1 a z (.inl y)) fun a => Iff.rfl, h7, fun a z y => ?_, fun a z => ?_⟩
          · rcases z with z | z
            · exact d1 a z (.inr y)
            · exact h8 a z y
          · rcases z with (z | z) | z
            · exact .inr ((h5 a).mpr (.inl z))
            · exact (h9 a (.inl z)).imp id fun y => (h5 a).mpr (.inr y)
            · exact (h9 a (.inr z)).imp id fun y => (h5 a).mpr (.inr y)
/-- what comes back is put at its places -/
theorem back_ok : ∀ {r : List Nat} {us : List W} {xs : List V} {ρ ρ' : Env} {F F2 : Foot}, OwnAll K C H us xs F → OwnEnv K C H ρ σ F2 → (∀ a, F a → ¬ F2 a) → r.length = xs.length → (∀ (j i : Nat) (x : V), r[j]? = some i → xs[j]? = some x → σ[i]? = some (some x)) → backTs r us ρ = some ρ' →
    ∃ F', OwnEnv K C H ρ' σ F' ∧ ∀ a, F' a → F a ∨ F2 a
  | [], _, _, ρ, ρ', F, F2, .nil _, en, _, _, _, e => by
    simp only [backTs, Option.some.injEq] at e
    subst e
    exact ⟨F2, en, fun a z => .inr z⟩
  | [], _, _, _, _, _, _, .cons _ _ _ _, _, _, hl, _, _ => by simp at hl
  | i :: r, _, _, ρ, ρ', F, F2, .cons (w := u) (ws := us) (v := x) (G := G1) (G' := G2) o t dj q, en, d, hl, hx, e => by
    have e' : backTs r us (ρ.set i (some u)) = some ρ' := e
    have hs := hx 0 i x (by simp) (by simp)
    obtain ⟨F3, h1, h2⟩ := en.put (i := i) o (fun a z => d a ((q a).mpr (.inl z)))
    have hσ : σ.set i (some x) = σ := by
      apply List.ext_getElem?
      intro j
      by_cases hj : i = j
      · subst hj; rw [List.getElem?_set_self (List.getElem?_eq_some_iff.mp hs).1, hs]
      · rw [List.getElem?_set_ne hj]
    rw [hσ] at h1
    obtain ⟨F', h3, h4⟩ := back_ok t h1 (fun a z y => by
      rcases h2 a y with y | y
      · exact d a ((q a).mpr (.inr z)) y
      · exact dj a y z) (by simpa using hl) (fun j i' x' h1 h2 => hx (j + 1) i' x' (by simpa using h1) (by simpa using h2)) e'
    refine ⟨F', h3, fun a z => ?_⟩
    rcases h4 a z with z | z
    · exact .inl ((q a).mpr (.inr z))
    · rcases h2 a z with z | z
      · exact .inr z
      · exact .inl ((q a).mpr (.inl z))
  | _ :: _, _, _, _, _, _, _, .nil _, _, _, hl, _, _ => by simp at hl
/-- the places of the names among the operands -/
def refIxT (n : Nat) : List AV → List Nat
  | [] => []
  | .v _ :: ts => refIxT (n + 1) ts
  | .r _ :: ts => n :: refIxT (n + 1) ts
theorem evs_refIx : ∀ {os : List Opd} {ρ ρ' : Env} {ts : List AV} {n : Nat}, evs os ρ = .ok ts ρ' → refIxT n ts = refIx n os ∧ ts.length = os.length
  | [], ρ, ρ', ts, n, e => by
    simp only [evs, R.ok.injEq] at e
    obtain ⟨rfl, _⟩ := e
    exact ⟨rfl, rfl⟩
  | .val f :: os, ρ, ρ', ts, n, e => by
    unfold evs at e
    cases e1 : f ρ with
    | ok w ρ1 =>
      rw [e1] at e
      cases e2 : evs os ρ1 with
      | ok ts' ρ2 =>
        simp only [R.bind, e2, R.ok.injEq] at e
        obtain ⟨rfl, rfl⟩ := e
        obtain ⟨h1, h2⟩ := evs_refIx (n := n + 1) e2
        exact ⟨h1, by simp [h2]⟩
      | exn _ _ => simp only [R.bind, e2] at e; cases e
      | stuck => simp only [R.bind, e2] at e; cases e
    | exn _ _ => rw [e1] at e; cases e
    | stuck => rw [e1] at e; cases e
  | .bor i :: os, ρ, ρ', ts, n, e => by
    unfold evs at e
    split at e
    · cases e2 : evs os ρ with
      | ok ts' ρ2 =>
        simp only [R.bind, e2, R.ok.injEq] at e
        obtain ⟨rfl, rfl⟩ := e
        obtain ⟨h1, h2⟩ := evs_refIx (n := n + 1) e2
        exact ⟨by rw [refIxT, refIx, h1], by simp [h2]⟩
      | exn _ _ => simp only [R.bind, e2] at e; cases e
      | stuck => simp only [R.bind, e2] at e; cases e
    · cases e
theorem OwnTs.length : ∀ {ts : List AV} {vs : List V} {G : Foot}, OwnTs K C H σ ts vs G → ts.length = vs.length
  | _, _, _, .nil _ => rfl
  | _, _, _, .v _ t _ _ => by simp [t.length]
  | _, _, _, .r _ t => by simp [t.length]
theorem pick_len : ∀ {ts : List AV} {n : Nat}, (refsOf ts).length = (refIxT n ts).length
  | [], _ => rfl
  | .v _ :: ts, n => pick_len (ts := ts) (n := n + 1)
  | .r _ :: ts, n => by
    rw [refsOf, refIxT, List.length_cons, List.length_cons, pick_len (ts := ts) (n := n + 1)]
theorem pick_at {zs : List V} : ∀ {ts : List AV} {vs : List V} {G : Foot} {n : Nat}, OwnTs K C H σ ts vs G → (∀ k, zs[n + k]? = vs[k]?) → ∀ (j i : Nat) (x : V), (refsOf ts)[j]? = some i → ((refIxT n ts).map fun i => zs.getD i .non)[j]? = some x → σ[i]? = some (some x)
  | _, _, _, _, .nil _, _, j, i, x, h, _ => by simp [refsOf] at h
  | _, _, _, n, .v (ts := ts) _ t _ _, hz, j, i, x, h1, h2 => pick_at t (fun k => by
      have := hz (k + 1)
      rw [show n + 1 + k = n + (k + 1) by omega, this]; rfl) j i x h1 h2
  | _, _, _, n, .r (ts := ts) (v := v) hs t, hz, 0, i, x, h1, h2 => by
    simp only [refsOf, List.getElem?_cons_zero, Option.some.injEq] at h1
    simp only [refIxT, List.map_cons, List.getElem?_cons_zero, Option.some.injEq] at h2
    subst h1
    have := hz 0
    simp only [Nat.add_zero, List.getElem?_cons_zero] at this
    rw [List.getD, this] at h2
    simp only [Option.getD_some] at h2
    rw [← h2]; exact hs
  | _, _, _, n, .r (ts := ts) (v := v) hs t, hz, j + 1, i, x, h1, h2 => pick_at t (fun k => by
      have := hz (k + 1)
      rw [show n + 1 + k = n + (k + 1) by omega, this]; rfl) j i x (by simpa [refsOf] using h1) (by simpa [refIxT] using h2)
end
section
variable {X : Cx} {Wx : WX} {io : List Nat} {v0 : L2.St} {os : List Opd} {es : List Expr} {e : Expr} {σ : L2.St} {H : Hp} {k n : Nat} {jo : List Nat} {g : List W → RD} {f : Addr} {fd : FuncData} {ps : List Str}
theorem call_of {Q : VK} (hn : os.length = n) (hjo : refIx 0 os = jo) (h : tW X Wx io v0 (callE g os) σ H Q) : tAs X Wx io v0 os σ H fun vs H1 => spW X.K X.mg n jo g vs H1 Q (WE Wx σ) := by
  obtain ⟨ρ, C, F, s, p⟩ := h
  refine ⟨ρ, C, F, s, (RPost.of_bind p).imp fun ts ρ' he q => fun vs C1 H1 G F1 t => ?_⟩
  obtain ⟨hix, hlen⟩ := evs_refIx (n := 0) he
  have hvl : vs.length = n := by rw [← t.own.length, hlen, hn]
  cases e1 : takeTs ts ρ' with
  | none => simp only [e1] at q; exact q.elim
  | some pr =>
    obtain ⟨ws, ρ2⟩ := pr
    simp only [e1] at q
    obtain ⟨Fa, Fb, oa, ob, dab, sub⟩ := take_ok t.own t.to.st.env t.dis e1
    refine ⟨hvl, C1, Fa, ws, t.to.st.sub, oa, ?_⟩
    have nw0 : New H F (Foot.or G F1) := fun a z => z.elim (t.newv a) (t.to.new a)
    have fin : ∀ {us : List W} {ρ3 : Env} {C' H' : Hp} {F' : Foot}, backTs (refsOf ts) us ρ2 = some ρ3 → DOut X.K C1 H1 Fa us (pickV jo vs) C' H' F' → ∃ F3, To X.K io v0 C H F ρ3 σ C' H' F3 ∧ ∀ a, F3 a → F' a ∨ Fb a := fun {us ρ3 C' H' F'} hb d => by
      have ob' := ob.carry d.step fun a y z => dab a z y
      have dj : ∀ a, F' a → ¬ Fb a := fun a y z => by
        rcases d.new a y with x | x
        · exact dab a x z
        · exact (ob.foot z).1 x
      obtain ⟨F3, h1, h2⟩ := back_ok d.own ob' dj (by unfold pickV; rw [List.length_map, ← hjo, ← hix]; exact pick_len) (by
        unfold pickV
        rw [← hjo, ← hix]
        exact pick_at t.own fun k => by rw [Nat.zero_add]) hb
      refine ⟨F3, ⟨t.to.step.trans (d.step.mono fun a z => sub a (.inl z)) nw0, New.trans t.to.step nw0 fun a z => ?_, h1, d.sub, t.to.st.fix⟩, h2⟩
      rcases h2 a z with z | z
      · exact (d.new a z).imp (fun y => sub a (.inl y)) id
      · exact .inl (sub a (.inr z))
    cases hg : g ws with
    | ok w us =>
      simp only [hg] at q
      cases hb : backTs (refsOf ts) us ρ2 with
      | none => simp only [hb] at q; exact q.elim
      | some ρ3 =>
        simp only [hb] at q
        have q' : ∀ v C' H' G F', ToV X.K io v0 C H F w v ρ3 σ C' H' G F' → Q v H' := q
        intro v C' H' G' F' d nw dd ow
        obtain ⟨F3, h1, h2⟩ := fin hb d
        refine q' v C' H' G' F3 ⟨h1, New.trans t.to.step nw0 fun a z => (nw a z).imp (fun y => sub a (.inl y)) id, fun a y z => ?_, ow⟩
        rcases h2 a z with z | z
        · exact dd a y z
        · rcases nw a y with x | x
          · exact dab a x z
          · exact (ob.foot z).1 x
    | exn e us =>
      simp only [hg] at q
      cases hb : backTs (refsOf ts) us ρ2 with
      | none => simp only [hb] at q; exact q.elim
      | some ρ3 =>
        simp only [hb] at q
        have q' : ∀ cls d C' H' F', To X.K io v0 C H F ρ3 σ C' H' F' → ExOk X e cls d C' → Wx cls d σ H' := q
        intro cls d C' H' F' dd k
        obtain ⟨F3, h1, _⟩ := fin hb dd
        exact q' cls d C' H' F3 h1 k
    | stuck => simp only [hg] at q; exact q.elim
theorem run_fnG {x : Str} {sp : Sp} {E : L2.St → XK} {pins : List (Addr × Obj)} {s : Shared} {Q : VK} {us : List Value} {vs : List V} (F : FnG X.prog X.w X.K X.mg X.base k f fd ps sp) (hr : Room k X.A) (hg : X.A.guards = some []) (hb : Binds X.K fd ps []) (hx : PassesAt (L2.CX X.prog X.w) X σ (E σ))
    (I : Inv X pins σ H s) (r : Vals vs us) (h : sp vs H Q (E σ)) : wpAny (model X.prog X.w) X.A (call (.ref f) us) (EP X pins σ Q) X.xe s := by
  have hl : us.length = ps.length := by rw [← r.length]; exact F.len _ _ _ _ h
  have b := hb s us I.kIn (by rw [List.append_nil]; exact hl)
  rw [List.append_nil] at b
  refine wpAny_call (codeAny_mono (F.run X.A X.stack s H ⟨us, []⟩ us vs Q (E σ) hr hg I.env0 b r h) fun r s' hq => ?_)
  cases r with
  | error e => exact hx pins H s e s' I hq
  | ok fl =>
    cases fl with
    | ret u => exact I.after hq
    | next => exact False.elim hq
    | brk => exact False.elim hq
    | cont => exact False.elim hq
theorem ve_callG {x : Str} {p pos : Pos} (B : Bd X k Wx) (F : FnG X.prog X.w X.K X.mg X.base k f fd ps (spW X.K X.mg n jo g)) (hm : X.mg x = some (.ref f)) (hk : PySem.W.keepIn X.K (.ref f) = true) (hb : Binds X.K fd ps []) (ha : VA X Wx io v0 (e :: es) os) (hn : os.length = n := by rfl) (hjo : refIx 0 os = jo := by rfl)
    (hg : Gl X x := by rfl) (hdb : (x == ("__debug__" : Str)) = false := by decide) (he : starEach (e :: es) X.env = (false, eval e X.env) :: starEach es X.env := by rfl) (hpl : (backTo pos (starEach es X.env)).any (·.1) = false := by rfl) :
    VE X Wx io v0 (.Call (.Name x p) (e :: es) [] pos) (callE g os) := by
  refine ⟨fun pins s σ H Q I h => ?_⟩
  refine wpAny_Call_Name_kw (ld_glob I hg hm ?_ hdb)
  refine PySem.W.callWith_K (h₀ := X.base) I.ok.mod.kin hk (thn (ha.run pos pins s σ H _ I (call_of hn hjo h)) fun us s1 ⟨vs, H1, I1, r, q⟩ => ⟨I1.kIn, ?_⟩) he hpl
  exact run_fnG (x := x) F B.room B.guards hb (passAt B.takes σ) I1 r q
end
end VL
set_option maxHeartbeats 4000000
namespace VL
open PySem PySem.Spec PyProof.Rows L2
/-! ### what changes a list or a dict that a name has -/
def wsV : List AV → Option (List W)
  | [] => some []
  | .v w :: ts => (wsV ts).map (w :: ·)
  | .r _ :: _ => none
/-- r does what M says: the new receiver, and the result -/
def MutOk (K : PySem.W.Frag) (r : V → List V → Hp → VK → Prop) (M : W → List W → Option (W × W)) : Prop :=
  ∀ (C H : Hp) (w : W) (v : V) (F : Foot) (ws : List W) (vs : List V) (G : Foot) (w' u : W) (Q : VK), Same C H → Own K C H w v F → OwnAll K C H ws vs G → (∀ a, F a → ¬ G a) → M w ws = some (w', u) →
    (∀ x C' H' F' G', Step C H (Foot.or F G) C' H' → Same C' H' → New H (Foot.or F G) F' → New H (Foot.or F G) G' → (∀ a, G' a → ¬ F' a) → Own K C' H' w' v F' → Own K C' H' u x G' → Q x H') → r v vs H Q
def isHot : W → Bool
  | .c _ => false
  | _ => true
def mutE (M : W → List W → Option (W × W)) (i : Nat) (os : List Opd) : Env → R W := fun ρ => match ρ[i]? with
  | some (some (.l _)) => (evs os ρ).bind fun ts ρ' => match wsV ts with
    | some ws => (match ρ'[i]? with
      | some (some w) => (match M w ws with
        | some (w', u) => .ok u (ρ'.set i (some w'))
        | none => .stuck)
      | _ => .stuck)
    | none => .stuck
  | _ => .stuck
section
variable {K : PySem.W.Frag} {C H : Hp} {σ : L2.St}
theorem own_ts : ∀ {ts : List AV} {vs : List V} {ws : List W} {G : Foot}, OwnTs K C H σ ts vs G → wsV ts = some ws → OwnAll K C H ws vs G
  | _, _, _, _, .nil n, e => by
    simp only [wsV, Option.some.injEq] at e
    subst e; exact .nil n
  | _, _, _, _, .v (ts := ts) o t dj q, e => by
    unfold wsV at e
    cases e1 : wsV ts with
    | none => rw [e1] at e; cases e
    | some ws' =>
      rw [e1] at e
      simp only [Option.map_some, Option.some.injEq] at e
      subst e
      exact .cons o (own_ts t e1) dj q
  | _, _, _, _, .r _ _, e => by simp [wsV] at e
end
section
variable {X : Cx} {Wx : WX} {io : List Nat} {v0 : L2.St} {os : List Opd} {σ : L2.St} {H : Hp} {C : Hp} {F F1 G : Foot} {M : W → List W → Option (W × W)} {r : V → List V → Hp → VK → Prop} {i : Nat} {ρ ρ' : Env} {C1 H1 : Hp}
/-- the change, where receiver and operands stand -/
theorem mut_at {ws : List W} {vs : List V} {w w' u : W} {v : V} {Q : VK} (hM : MutOk X.K r M) (t : To X.K io v0 C H F ρ' σ C1 H1 F1) (nG : New H F G) (dis : ∀ a, G a → ¬ F1 a) (ow : OwnAll X.K C1 H1 ws vs G) (hi : ρ'[i]? = some (some w)) (hv : σ[i]? = some (some v)) (e : M w ws = some (w', u))
    (q : ∀ x C' H' G' F', ToV X.K io v0 C H F u x (ρ'.set i (some w')) σ C' H' G' F' → Q x H') : r v vs H1 Q := by
  obtain ⟨v', Gi, Gr, h1, h2, h3, h4, h5⟩ := t.st.env.out hi
  rw [hv] at h1
  cases h1
  refine hM C1 H1 w v Gi ws vs G w' u Q t.st.sub h2 ow (fun a x y => dis a y ((h5 a).mpr (.inl x))) e fun x C' H' F' G' st sb n1 n2 d o1 o2 => ?_
  have dj : ∀ a, Gr a → ¬ Foot.or Gi G a := fun a x y => y.elim (fun y => h4 a y x) fun y => dis a y ((h5 a).mpr (.inr x))
  have er := h3.carry st dj
  have nin : ∀ {J : Foot}, New H1 (Foot.or Gi G) J → ∀ a, J a → ¬ Gr a := fun {J} n a x y => by
    rcases n a x with z | z
    · exact dj a y z
    · exact (h3.foot y).1 z
  obtain ⟨F2, e2, s2⟩ := own_put er hv o1 (nin n1)
  have e2' : OwnEnv X.K C' H' (ρ'.set i (some w')) σ F2 := by
    exact e2
  have nw0 : New H F (Foot.or G F1) := fun a z => z.elim (nG a) (t.new a)
  have stp : Step C H F C' H' := t.step.trans (st.mono (F' := Foot.or G F1) fun a z => z.elim (fun z => .inr ((h5 a).mpr (.inl z))) .inl) nw0
  refine q x C' H' G' F2 ⟨⟨stp, New.trans t.step nw0 fun a z => ?_, e2', sb, t.st.fix⟩, New.trans t.step nw0 fun a z => (n2 a z).imp (fun z => z.elim (fun z => .inr ((h5 a).mpr (.inl z))) .inl) id, fun a y z => ?_, o2⟩
  · rcases s2 a z with z | z
    · exact .inl (.inr ((h5 a).mpr (.inr z)))
    · exact (n1 a z).imp (fun z => z.elim (fun z => .inr ((h5 a).mpr (.inl z))) .inl) id
  · rcases s2 a z with z | z
    · exact nin n2 a y z
    · exact d a y z
theorem mut_of {Q : VK} (hM : MutOk X.K r M) (h : tW X Wx io v0 (mutE M i os) σ H Q) : ∃ v, σ[i]? = some (some v) ∧ tyV X.K "list" v H ∧ tAs X Wx io v0 os σ H fun vs H1 => r v vs H1 Q := by
  obtain ⟨ρ, C, F, s, p⟩ := h
  unfold mutE at p
  split at p
  · rename_i ws0 hi0
    obtain ⟨v, G0, hv, o0, _⟩ := s.env.at hi0
    refine ⟨v, hv, ?_, ρ, C, F, s, (RPost.of_bind p).imp fun ts ρ' he q => fun vs C1 H1 G F1 t => ?_⟩
    · cases o0 with
      | l a b c d e => exact .inl ⟨rfl, _, .inl (Rd.of a)⟩
    · cases e1 : wsV ts with
      | none => simp only [e1] at q; exact q.elim
      | some ws =>
        simp only [e1] at q
        split at q
        · rename_i w hi
          cases e2 : M w ws with
          | none => simp only [e2] at q; exact q.elim
          | some pr =>
            obtain ⟨w', u⟩ := pr
            simp only [e2] at q
            have q' : ∀ x C' H' G F', ToV X.K io v0 C H F u x (ρ'.set i (some w')) σ C' H' G F' → Q x H' := q
            exact mut_at hM t.to t.newv t.dis (own_ts t.own e1) hi hv e2 q'
        · exact q.elim
  · exact p.elim
end
/-! ### the changes -/
def few (n : Nat) : Bool := decide (n ≤ 1000)
theorem few_line {n : Nat} (h : few n = true) : n ≤ sizeLine := small_line (of_decide_eq_true h)
theorem few_lt {n : Nat} (h : few n = true) : n < sizeLine := small1000 (of_decide_eq_true h)
def appM : W → List W → Option (W × W)
  | .l ws, [w] => if few ws.length = true then some (.l (ws ++ [w]), .c .none) else none
  | _, _ => none
def extM : W → List W → Option (W × W)
  | .l ws, [w] => (match w with
    | .l us => if few ws.length = true ∧ few us.length = true then some (.l (ws ++ us), .c .none) else none
    | .c (.list ds) => if few ws.length = true ∧ few ds.length = true then some (.l (ws ++ ds.map .c), .c .none) else none
    | _ => none)
  | _, _ => none
def popM : W → List W → Option (W × W)
  | .l ws, [] => (match ws[ws.length - 1]? with
    | some w => some (.l ws.dropLast, w)
    | none => none)
  | _, _ => none
section
variable {K : PySem.W.Frag} {C C' H H' : Hp} {ws us : List W} {xs ys : List V} {F G : Foot}
theorem OwnAll.append : ∀ {ws us : List W} {xs ys : List V} {F G : Foot}, OwnAll K C H ws xs F → OwnAll K C H us ys G → (∀ a, F a → ¬ G a) → OwnAll K C H (ws ++ us) (xs ++ ys) (Foot.or F G)
  | _, _, _, _, F, G, .nil n, o, d => o.congr fun a => ⟨.inr, fun z => z.elim (fun z => (n a z).elim) id⟩
  | _, _, _, _, F, G, .cons h t dj q, o, d => .cons h (t.append o fun a x y => d a ((q a).mpr (.inr x)) y) (fun a x y => y.elim (dj a x) (d a ((q a).mpr (.inl x)))) fun a => ⟨fun z => z.elim (fun z => ((q a).mp z).imp id .inl) fun z => .inr (.inr z), fun z => z.elim (fun z => .inl ((q a).mpr (.inl z))) fun z => z.imp (fun z => (q a).mpr (.inr z)) id⟩
/-- the last one is taken off -/
theorem OwnAll.last : ∀ {ws : List W} {xs : List V} {F : Foot} {w : W}, OwnAll K C H ws xs F → ws[ws.length - 1]? = some w → ∃ x G G', xs[xs.length - 1]? = some x ∧ Own K C H w x G ∧ OwnAll K C H ws.dropLast xs.dropLast G' ∧ (∀ a, G a → ¬ G' a) ∧ ∀ a, F a ↔ (G a ∨ G' a)
  | _, _, _, _, .nil _, e => by simp at e
  | _, _, _, w, .cons (w := w0) (v := v0) (G := G1) (G' := G2) h (.nil n) dj q, e => by
    simp at e; subst e
    exact ⟨v0, G1, G2, by simp, h, .nil n, dj, q⟩
  | _, _, F, w, .cons (w := w0) (v := v0) (G := G1) (G' := G2) h (.cons (w := w1) (ws := ws1) (v := v1) (vs := vs1) h2 t2 dj2 q2) dj q, e => by
    obtain ⟨x, G, G', a1, a2, a3, a4, a5⟩ := OwnAll.last (ws := w1 :: ws1) (xs := v1 :: vs1) (.cons h2 t2 dj2 q2) (w := w) (by simpa using e)
    refine ⟨x, G, Foot.or G1 G', by simpa using a1, a2, by simpa using .cons h a3 (fun a x y => dj a x ((a5 a).mpr (.inr y))) fun a => Iff.rfl, fun a x y => ?_, fun a => ⟨fun z => ?_, fun z => ?_⟩⟩
    · rcases y with y | y
      · exact dj a y ((a5 a).mpr (.inl x))
      · exact a4 a x y
    · rcases (q a).mp z with z | z
      · exact .inr (.inl z)
      · exact ((a5 a).mp z).imp id .inr
    · rcases z with z | z | z
      · exact (q a).mpr (.inr ((a5 a).mpr (.inl z)))
      · exact (q a).mpr (.inl z)
      · exact (q a).mpr (.inr ((a5 a).mpr (.inr z)))
theorem same_upd {p : Addr} {o : HO} (s : Same C H) (h : C p = none) : Same C (upd H p o) := fun a u e => by
  by_cases q : a = p
  · subst q; rw [h] at e; cases e
  · rw [upd_ne q]; exact s a u e
/-- an owned object is rewritten -/
theorem step_upd {p : Addr} {o : HO} (hF : F p) : Step C H F C (upd H p o) := ⟨Same.refl C, fun a u e n => by
  rw [upd_ne (fun q => n (by rw [q]; exact hF))]; exact e, fun a h => .inl h⟩
theorem OwnAll.upd {p : Addr} {o : HO} (t : OwnAll K C H ws xs G) (h : ¬ G p) : OwnAll K C (L2.upd H p o) ws xs G :=
  t.keep (Same.refl C) (fun a u g e => by rw [upd_ne (fun q => h (by rw [← q]; exact g))]; exact e) fun a g => (t.foot g).2
theorem Own.upd {p : Addr} {o : HO} {w : W} {v : V} (t : Own K C H w v G) (h : ¬ G p) : Own K C (L2.upd H p o) w v G :=
  t.keep (Same.refl C) (fun a u g e => by rw [upd_ne (fun q => h (by rw [← q]; exact g))]; exact e) fun a g => (t.foot g).2
end
theorem app_ok {K : PySem.W.Frag} : MutOk K rAppend appM := fun C H w v F ws vs G w' u Q s o os dj e q => by
  unfold appM at e
  split at e
  · rename_i ws0 w1
    split at e
    · rename_i hf
      simp only [Option.some.injEq, Prod.mk.injEq] at e
      obtain ⟨rfl, rfl⟩ := e
      cases o with
      | l a b c d f =>
        rename_i xs p G0
        cases os with
        | cons o1 o2 d1 q1 =>
          cases o2 with
          | nil n1 =>
            rename_i y G1 G2
            have hp : Foot.or F G p := .inl ((f p).mpr (.inl rfl))
            have npG : ¬ G p := fun z => dj p ((f p).mpr (.inl rfl)) z
            refine ⟨p, xs, y, rfl, rfl, a, by rw [← c.length]; exact few_lt hf, ?_⟩
            refine q .non C _ (Foot.or F G) Foot.none (step_upd hp) (same_upd s b) (fun _ z => .inl z) New.zero (fun _ z => z.elim) ?_ (.c .non fun _ z => z)
            have c1 : OwnAll K C (L2.upd H p (.lst (xs ++ [y]))) ([w1] : List W) [y] G := (OwnAll.cons o1 (.nil n1) d1 q1).upd npG
            exact .l upd_same b ((c.upd d).append c1 fun x z1 z2 => dj x ((f x).mpr (.inr z1)) z2) (fun z => z.elim d npG) fun x => ⟨fun z => z.elim (fun z => ((f x).mp z).imp id .inl) fun z => .inr (.inr z), fun z => z.elim (fun z => .inl ((f x).mpr (.inl z))) fun z => z.imp (fun z => (f x).mpr (.inr z)) id⟩
    · cases e
  · cases e
/-! extend, also by a cold list -/
def rExtR : V → List V → Hp → VK → Prop := fun x vs H Q => ∃ l b xs zs, x = .ref l ∧ vs = [.ref b] ∧ H l = some (.lst xs) ∧ Rd H b (.lst zs) ∧ xs.length + zs.length ≤ sizeLine ∧ Q .non (upd H l (.lst (xs ++ zs)))
theorem mt_extR {X : Cx} : MtR X "list.extend" rExtR := by
  intro pins s σ H x vs v us Q I rx rv h
  obtain ⟨l, b, xs, zs, rfl, rfl, hH, hB, hz, q⟩ := h
  cases rx
  obtain ⟨u, rfl, ru⟩ := rv.one
  cases ru
  obtain ⟨z, its, n, r, hl, e⟩ := I.lstM hH
  obtain ⟨z2, its2, n2, r2, hl2, e2⟩ := lstR I hB
  have hsz : its.toArray.size + its2.toArray.size ≤ sizeLine := by rw [List.size_toArray, List.size_toArray]; omega
  have hlong : ¬ (!its.toArray.isEmpty && Builtin.List.listTooLong (its.toArray.size + its2.toArray.size)) = true := by
    rw [notLongL hsz, Bool.and_false]
    exact Bool.false_ne_true
  refine call_meets F.slot_list_extend ⟨_, e, rfl⟩ F.entry_list_extend (F.args_list_extend_2 _ _)
    (AutoSeq1.list_extend_list_list_0 l its.toArray n b its2.toArray n2 hlong (by rw [List.size_toArray]; omega) (by omega)) ⟨e, e2, ?_⟩
  refine ⟨.non, _, I.lset (its' := its ++ its2) hH e (by simp) (r.append r2) ?_, rfl, q⟩
  rw [List.length_append]
  omega
theorem few_add {a b : Nat} (h : few a = true) (h' : few b = true) : a + b ≤ sizeLine := by
  have h1 := of_decide_eq_true h
  have h2 := of_decide_eq_true h'
  rw [sizeLine_eq]; omega
theorem ext_ok {K : PySem.W.Frag} : MutOk K rExtR extM := fun C H w v F ws vs G w' u Q s o os dj e q => by
  unfold extM at e
  split at e
  · rename_i ws0 w1
    cases o with
    | l a b c d f =>
      rename_i xs p G0
      cases os with
      | cons o1 o2 d1 q1 =>
        cases o2 with
        | nil n1 =>
          rename_i y G1 G2
          have hp : Foot.or F G p := .inl ((f p).mpr (.inl rfl))
          have npG : ¬ G p := fun z => dj p ((f p).mpr (.inl rfl)) z
          split at e
          · rename_i us
            split at e
            · rename_i hf
              simp only [Option.some.injEq, Prod.mk.injEq] at e
              obtain ⟨rfl, rfl⟩ := e
              cases o1 with
              | l a' b' c' d' f' =>
                rename_i zs p' G3
                have sub3 : ∀ x, G3 x → G x := fun x z => (q1 x).mpr (.inl ((f' x).mpr (.inr z)))
                refine ⟨p, p', xs, zs, rfl, rfl, a, Rd.of a', by rw [← c.length, ← c'.length]; exact few_add hf.1 hf.2, ?_⟩
                refine q .non C _ (Foot.or F G3) Foot.none (step_upd hp) (same_upd s b) (fun x z => .inl (z.imp id (sub3 x))) New.zero (fun _ z => z.elim) ?_ (.c .non fun _ z => z)
                refine Own.l (F := Foot.or F G3) upd_same b ((c.upd d).append (c'.upd fun z => npG (sub3 _ z)) fun x z1 z2 => dj x ((f x).mpr (.inr z1)) (sub3 x z2)) (fun z => z.elim d fun z => npG (sub3 _ z)) fun x => ?_
                exact ⟨fun z => z.elim (fun z => ((f x).mp z).imp id .inl) fun z => .inr (.inr z), fun z => z.elim (fun z => .inl ((f x).mpr (.inl z))) fun z => z.imp (fun z => (f x).mpr (.inr z)) id⟩
            · cases e
          · rename_i ds
            split at e
            · rename_i hf
              simp only [Option.some.injEq, Prod.mk.injEq] at e
              obtain ⟨rfl, rfl⟩ := e
              obtain ⟨p', zs, rfl, h1, h2⟩ := rep_lst (own_c o1)
              refine ⟨p, p', xs, zs, rfl, rfl, a, same_rd s h1, by rw [← c.length, h2.length]; exact few_add hf.1 hf.2, ?_⟩
              refine q .non C _ F Foot.none (step_upd hp) (same_upd s b) (fun x z => .inl (.inl z)) New.zero (fun _ z => z.elim) ?_ (.c .non fun _ z => z)
              refine Own.l upd_same b ((c.upd d).append ((colds_own h2).upd fun z => z) fun x z1 z2 => z2.elim) (fun z => z.elim d fun z => z) fun x => ?_
              exact ⟨fun z => ((f x).mp z).imp id .inl, fun z => (f x).mpr (z.imp id fun z => z.elim id False.elim)⟩
            · cases e
          · cases e
  · cases e
theorem pop_ok {K : PySem.W.Frag} : MutOk K rPop popM := fun C H w v F ws vs G w' u Q s o os dj e q => by
  unfold popM at e
  split at e
  · rename_i ws0
    split at e
    · rename_i w1 hw
      simp only [Option.some.injEq, Prod.mk.injEq] at e
      obtain ⟨rfl, rfl⟩ := e
      cases o with
      | l a b c d f =>
        rename_i xs p G0
        cases os with
        | nil n1 =>
          obtain ⟨x, G1, G2, h1, h2, h3, h4, h5⟩ := c.last hw
          have hp : Foot.or F G p := .inl ((f p).mpr (.inl rfl))
          refine ⟨p, xs, x, rfl, rfl, a, h1, ?_⟩
          refine q x C _ (fun a => a = p ∨ G2 a) G1 (step_upd hp) (same_upd s b) (fun x z => .inl (.inl ((f x).mpr (z.imp id fun z => (h5 x).mpr (.inr z))))) (fun x z => .inl (.inl ((f x).mpr (.inr ((h5 x).mpr (.inl z)))))) (fun x z y => ?_) ?_ (h2.upd fun z => d ((h5 p).mpr (.inl z)))
          · rcases y with rfl | y
            · exact d ((h5 x).mpr (.inl z))
            · exact h4 x z y
          · exact .l upd_same b (h3.upd fun z => d ((h5 p).mpr (.inr z))) (fun z => d ((h5 p).mpr (.inr z))) fun x => Iff.rfl
    · cases e
  · cases e
section
variable {X : Cx} {Wx : WX} {io : List Nat} {v0 : L2.St} {os : List Opd} {e : Expr} {es : List Expr}
/-- x.m(e, ..) of a list that a name has -/
theorem ve_meth {M : W → List W → Option (W × W)} {r : V → List V → Hp → VK → Prop} {x m : Str} {id : String} {p apos cpos : Pos} (i : Nat) (hM : MutOk X.K r M) (slot : Slot "list" m id) (hty : typeOf (.builtin id) = pure (.type "method_descriptor")) (hm : MtR X id r) (ha : VA X Wx io v0 (e :: es) os)
    (hN : X.N[i]? = some x := by rfl) (hv : Vis X.env.scope x := by first | exact Or.inl rfl | exact Or.inr (Or.inl rfl) | exact Or.inr (Or.inr rfl)) (hd : (x == ("__debug__" : Str)) = false := by decide) (hcd : (x == ("__classdict__" : Str)) = false := by decide)
    (hbase : attributeBase (.Name x p) m X.env (eval (.Name x p) X.env) = eval (.Name x p) X.env := by rfl)
    (hfew : ((backTo cpos (starEach (e :: es) X.env)).all (fun x => !x.1) && (backToKw cpos (keywordEach [] X.env)).all (fun x => x.1.isSome)
      && decide ((e :: es).length + ([] : List Keyword).length + (if ([] : List Keyword).isEmpty then 0 else 1) < 30)) = true := by rfl)
    (hline : (apos.endLine == cpos.line) = true := by rfl) (hs : starEach (e :: es) X.env = (false, eval e X.env) :: starEach es X.env := by rfl) (hplain : (backTo cpos (starEach es X.env)).any (·.1) = false := by rfl) :
    VE X Wx io v0 (.Call (.Attribute (.Name x p) m apos) (e :: es) [] cpos) (mutE M i os) :=
  pe_mono (pe_bm PySem.F.plainAttrs_list slot hty hm (pe_var hN hv hd hcd) ha hbase hfew hline hs hplain) fun σ H Q h => by
    obtain ⟨v, h1, h2, h3⟩ := mut_of hM h
    exact ⟨v, h1, h2, h3⟩
theorem ve_meth0 {M : W → List W → Option (W × W)} {r : V → List V → Hp → VK → Prop} {x m : Str} {id : String} {p apos cpos : Pos} (i : Nat) (hM : MutOk X.K r M) (slot : Slot "list" m id) (hty : typeOf (.builtin id) = pure (.type "method_descriptor")) (hm : MtR X id r)
    (hN : X.N[i]? = some x := by rfl) (hv : Vis X.env.scope x := by first | exact Or.inl rfl | exact Or.inr (Or.inl rfl) | exact Or.inr (Or.inr rfl)) (hd : (x == ("__debug__" : Str)) = false := by decide) (hcd : (x == ("__classdict__" : Str)) = false := by decide)
    (hbase : attributeBase (.Name x p) m X.env (eval (.Name x p) X.env) = eval (.Name x p) X.env := by rfl) (hline : (apos.endLine == cpos.line) = true := by rfl) :
    VE X Wx io v0 (.Call (.Attribute (.Name x p) m apos) [] [] cpos) (mutE M i []) :=
  pe_mono (pe_bm0 PySem.F.plainAttrs_list slot hty hm (pe_var hN hv hd hcd) hbase hline) fun σ H Q h => by
    obtain ⟨v, h1, h2, h3⟩ := mut_of hM h
    exact ⟨v, h1, h2, tAs_nil h3⟩
end
end VL
set_option maxHeartbeats 4000000
namespace VL
open PySem PySem.Spec PyProof.Rows L2
/-! ### o[i] = e, o a name -/
section
variable {κ : Type} [DecidableEq κ] {K : PySem.W.Frag} {C C' H H' : Hp} {v : V} {d : PyData} {k : κ}
theorem any_keys : ∀ {kws : List (κ × W)} {kvs : List (κ × V)}, kvs.map (·.1) = kws.map (·.1) → (kvs.any fun kv => decide (kv.1 = k)) = (kws.any fun kv => decide (kv.1 = k))
  | [], [], _ => rfl
  | [], _ :: _, h => by simp at h
  | _ :: _, [], h => by simp at h
  | a :: r, b :: t, h => by
    simp only [List.map_cons, List.cons.injEq] at h
    rw [List.any_cons, List.any_cons, any_keys h.2, h.1]
theorem own_replW (r : Rep K C v d) : ∀ {kws : List (κ × W)} {kvs : List (κ × V)} {G : Foot}, kvs.map (·.1) = kws.map (·.1) → OwnAll K C H (kws.map (·.2)) (kvs.map (·.2)) G →
    ∃ G', OwnAll K C H ((kws.map fun kv => if kv.1 = k then (kv.1, W.c d) else kv).map (·.2)) ((kvs.map fun kv => if kv.1 = k then (kv.1, v) else kv).map (·.2)) G' ∧ ∀ a, G' a → G a
  | [], [], G, _, o => ⟨G, by simpa using o, fun _ h => h⟩
  | [], _ :: _, _, h, _ => by simp at h
  | _ :: _, [], _, h, _ => by simp at h
  | a :: t, b :: u, G, h, .cons (G := G1) (G' := G2) o os dj q => by
    simp only [List.map_cons, List.cons.injEq] at h
    obtain ⟨G', h1, h2⟩ := own_replW r h.2 os
    by_cases e : a.1 = k
    · have e' : b.1 = k := h.1.trans e
      refine ⟨G', ?_, fun x z => (q x).mpr (.inr (h2 x z))⟩
      simp only [List.map_cons, e, e', if_true]
      exact .cons (G := Foot.none) (.c r fun _ z => z) h1 (fun _ z => z.elim) fun x => ⟨.inr, fun z => z.elim (fun z => z.elim) id⟩
    · have e' : ¬ b.1 = k := fun z => e (h.1.symm.trans z)
      refine ⟨Foot.or G1 G', ?_, fun x z => (q x).mpr (z.imp id (h2 x))⟩
      simp only [List.map_cons, e, e', if_false]
      exact .cons o h1 (fun x y z => dj x y (h2 x z)) fun x => Iff.rfl
theorem keys_repl : ∀ {kws : List (κ × W)} {w : W}, (kws.map fun kv => if kv.1 = k then (kv.1, w) else kv).map (·.1) = kws.map (·.1)
  | [], _ => rfl
  | a :: r, w => by
    by_cases e : a.1 = k
    · simp only [List.map_cons, e, if_true]; rw [keys_repl]
    · simp only [List.map_cons, e, if_false]; rw [keys_repl]
theorem keys_replV : ∀ {kws : List (κ × V)} {w : V}, (kws.map fun kv => if kv.1 = k then (kv.1, w) else kv).map (·.1) = kws.map (·.1)
  | [], _ => rfl
  | a :: r, w => by
    by_cases e : a.1 = k
    · simp only [List.map_cons, e, if_true]; rw [keys_replV]
    · simp only [List.map_cons, e, if_false]; rw [keys_replV]
theorem own_putW (r : Rep K C v d) {kws : List (κ × W)} {kvs : List (κ × V)} {G : Foot} (m : kvs.map (·.1) = kws.map (·.1)) (o : OwnAll K C H (kws.map (·.2)) (kvs.map (·.2)) G) :
    ∃ G', OwnAll K C H ((putW kws k (.c d)).map (·.2)) ((putK kvs k v).map (·.2)) G' ∧ (∀ a, G' a → G a) ∧ (putK kvs k v).map (·.1) = (putW kws k (.c d)).map (·.1) := by
  unfold putW putK
  rw [any_keys m]
  split
  · obtain ⟨G', h1, h2⟩ := own_replW (k := k) r m o
    exact ⟨G', h1, h2, by rw [keys_repl, keys_replV, m]⟩
  · refine ⟨Foot.or G Foot.none, ?_, fun a z => z.elim id False.elim, by rw [List.map_append, List.map_append, m]; rfl⟩
    rw [List.map_append, List.map_append]
    exact o.append (.cons (G := Foot.none) (G' := Foot.none) (.c r fun _ z => z) (.nil fun _ z => z) (fun _ z => z.elim) fun x => ⟨.inl, fun z => z.elim id id⟩) fun _ _ z => z
theorem OwnAll.setAt : ∀ {ws : List W} {xs : List V} {F G : Foot} {w : W} {v : V} (j : Nat), OwnAll K C H ws xs F → Own K C H w v G → (∀ a, G a → ¬ F a) → ∃ F', OwnAll K C H (ws.set j w) (xs.set j v) F' ∧ ∀ a, F' a → F a ∨ G a
  | _, _, F, _, _, _, _, .nil n, _, _ => ⟨F, by simpa using .nil n, fun _ z => .inl z⟩
  | _, _, F, G, _, _, 0, .cons (G' := G2) o t dj q, o2, d => ⟨Foot.or G G2, by simpa using .cons o2 t (fun a x y => d a x ((q a).mpr (.inr y))) (fun a => Iff.rfl), fun a z => z.elim .inr fun z => .inl ((q a).mpr (.inr z))⟩
  | _, _, F, G, _, _, j + 1, .cons (G := G1) (G' := G2) o t dj q, o2, d => by
    obtain ⟨F', h1, h2⟩ := t.setAt j o2 fun a x y => d a x ((q a).mpr (.inr y))
    have dd : ∀ a, G1 a → ¬ F' a := fun a x y => by
      rcases h2 a y with y | y
      · exact dj a x y
      · exact d a y ((q a).mpr (.inl x))
    refine ⟨Foot.or G1 F', by simpa using .cons o h1 dd (fun a => Iff.rfl), fun a z => ?_⟩
    · rcases z with z | z
      · exact .inl ((q a).mpr (.inl z))
      · exact (h2 a z).imp (fun z => (q a).mpr (.inr z)) id
end
def setM : W → List W → Option (W × W)
  | .l ws, [k, w] => (match k with
    | .c (.int i) => (match ixN ws.length i with
      | some j => some (.l (ws.set j w), .c .none)
      | none => none)
    | _ => none)
  | .dk kws, [k, w] => (match k, w with
    | .c kd, .c d => (match keyOf kd with
      | some key => if few kws.length = true then some (.dk (putW kws key (.c d)), .c .none) else none
      | none => none)
    | _, _ => none)
  | .dt kws, [k, w] => (match k, w with
    | .c kd, .c d => (match tkeyOf kd with
      | some key => if few kws.length = true then some (.dt (putW kws key (.c d)), .c .none) else none
      | none => none)
    | _, _ => none)
  | _, _ => none
def rSetA : TSet := fun o i v H Q => rSetL o i v H Q ∨ rSetD o i v H Q
theorem set_any {X : Cx} (hu : X.A.units + 1 < cLine) : PSet X rSetA := fun pins s σ H o i v ov iv u Q I ro ri rv h => h.elim (set_list pins s σ H o i v ov iv u Q I ro ri rv) (set_dict hu pins s σ H o i v ov iv u Q I ro ri rv)
def rSetM : V → List V → Hp → VK → Prop := fun o vs H Q => ∃ i v, vs = [i, v] ∧ rSetA o i v H fun H' => Q .non H'
theorem set_okM {K : PySem.W.Frag} : MutOk K rSetM setM := fun C H w v F ws vs G w' u Q s o os dj e q => by
  unfold setM at e
  split at e
  · -- a list
    rename_i ws0 k w1
    split at e
    · rename_i i
      split at e
      · rename_i j hj
        simp only [Option.some.injEq, Prod.mk.injEq] at e
        obtain ⟨rfl, rfl⟩ := e
        cases o with
        | l a b c d f =>
          rename_i xs p G0
          cases os with
          | cons o1 o2 d1 q1 =>
            cases o2 with
            | cons o3 o4 d2 q2 =>
              cases o4 with
              | nil n1 =>
                rename_i y1 G1 G2 y2 G3 G4
                obtain rfl := rep_int (own_c o1)
                have sub3 : ∀ x, G3 x → G x := fun x z => (q1 x).mpr (.inr ((q2 x).mpr (.inl z)))
                have hp : Foot.or F G p := .inl ((f p).mpr (.inl rfl))
                have npG : ¬ G p := fun z => dj p ((f p).mpr (.inl rfl)) z
                obtain ⟨F', h1, h2⟩ := (c.upd (o := .lst (xs.set j y2)) d).setAt j (o3.upd fun z => npG (sub3 p z)) fun x z1 z2 => dj x ((f x).mpr (.inr z2)) (sub3 x z1)
                refine ⟨_, _, rfl, .inl ⟨p, xs, i, j, rfl, rfl, a, by rw [← c.length]; exact hj, ?_⟩⟩
                refine q .non C _ (fun a => a = p ∨ F' a) Foot.none (step_upd hp) (same_upd s b) (fun x z => .inl ?_) New.zero (fun _ z => z.elim) ?_ (.c .non fun _ z => z)
                · rcases z with rfl | z
                  · exact hp
                  · exact (h2 x z).imp (fun z => (f x).mpr (.inr z)) (sub3 x)
                · exact .l upd_same b h1 (fun z => (h2 p z).elim d fun z => npG (sub3 p z)) fun x => Iff.rfl
      · cases e
    · cases e
  · rename_i kws k w1
    split at e
    · rename_i kd d0
      split at e
      · rename_i key hk
        split at e
        · rename_i hf
          simp only [Option.some.injEq, Prod.mk.injEq] at e
          obtain ⟨rfl, rfl⟩ := e
          cases o with
          | dk a b m c d f =>
            rename_i kvs p G0
            cases os with
            | cons o1 o2 d1 q1 =>
              cases o2 with
              | cons o3 o4 d2 q2 =>
                cases o4 with
                | nil n1 =>
                  rename_i y1 G1 G2 y2 G3 G4
                  obtain rfl := rep_key (own_c o1) hk
                  obtain ⟨G', h1, h2, h3⟩ := own_putW (k := key) (own_c o3) m c
                  have hl : kvs.length < sizeLine := by
                    have := congrArg List.length m
                    rw [List.length_map, List.length_map] at this
                    rw [this]; exact few_lt hf
                  have hp : Foot.or F G p := .inl ((f p).mpr (.inl rfl))
                  refine ⟨_, _, rfl, .inr ⟨p, _, rfl, DPut.k a hl, ?_⟩⟩
                  refine q .non C _ (fun a => a = p ∨ G' a) Foot.none (step_upd hp) (same_upd s b) (fun x z => .inl (.inl ((f x).mpr (z.imp id (h2 x))))) New.zero (fun _ z => z.elim) ?_ (.c .non fun _ z => z)
                  exact .dk upd_same b h3 (h1.upd fun z => d (h2 p z)) (fun z => d (h2 p z)) fun x => Iff.rfl
        · cases e
      · cases e
    · cases e
  · rename_i kws k w1
    split at e
    · rename_i kd d0
      split at e
      · rename_i key hk
        split at e
        · rename_i hf
          simp only [Option.some.injEq, Prod.mk.injEq] at e
          obtain ⟨rfl, rfl⟩ := e
          cases o with
          | dt a b m c d f =>
            rename_i kvs p G0
            cases os with
            | cons o1 o2 d1 q1 =>
              cases o2 with
              | cons o3 o4 d2 q2 =>
                cases o4 with
                | nil n1 =>
                  rename_i y1 G1 G2 y2 G3 G4
                  obtain ⟨bb, rfl, hb⟩ := rep_tkey (own_c o1) hk
                  obtain ⟨G', h1, h2, h3⟩ := own_putW (k := key) (own_c o3) m c
                  have hl : kvs.length < sizeLine := by
                    have := congrArg List.length m
                    rw [List.length_map, List.length_map] at this
                    rw [this]; exact few_lt hf
                  have hp : Foot.or F G p := .inl ((f p).mpr (.inl rfl))
                  refine ⟨_, _, rfl, .inr ⟨p, _, rfl, DPut.t a (s _ _ hb) hl, ?_⟩⟩
                  refine q .non C _ (fun a => a = p ∨ G' a) Foot.none (step_upd hp) (same_upd s b) (fun x z => .inl (.inl ((f x).mpr (z.imp id (h2 x))))) New.zero (fun _ z => z.elim) ?_ (.c .non fun _ z => z)
                  exact .dt upd_same b h3 (h1.upd fun z => d (h2 p z)) (fun z => d (h2 p z)) fun x => Iff.rfl
        · cases e
      · cases e
    · cases e
  · cases e
def putS (i : Nat) (f g : Env → R W) : Env → RS := fun ρ => (f ρ).toS fun w ρ1 => match ρ1[i]? with
  | some (some _) => (g ρ1).toS fun k ρ2 => (match ρ2[i]? with
    | some (some w0) => (match setM w0 [k, w] with
      | some (w', _) => .nx (ρ2.set i (some w'))
      | none => .stuck)
    | _ => .stuck)
  | _ => .stuck
section
variable {X : Cx} {Wx : WX} {io : List Nat} {v0 : L2.St} {e ix : Expr} {f g : Env → R W}
/-- x[i] = e -/
theorem vs_put {x : Str} {p pos' pos : Pos} (i : Nat) (hu : X.A.units + 1 < cLine) (he : VE X Wx io v0 e f) (hg : VE X Wx io v0 ix g)
    (hN : X.N[i]? = some x := by rfl) (hv : Vis X.env.scope x := by first | exact Or.inl rfl | exact Or.inr (Or.inl rfl) | exact Or.inr (Or.inr rfl)) (hd : (x == ("__debug__" : Str)) = false := by decide) (hcd : (x == ("__classdict__" : Str)) = false := by decide)
    (ha : ∀ v, assign (.Subscript (.Name x p) ix pos') X.env v = (do
      let ov ← holding [v] (eval (.Name x p) X.env)
      let iv ← holding [v, ov] (eval ix X.env)
      standAt pos'
      holding [v, ov, iv] (setItem ov iv v)
      release [v, ov, iv] []) := by intro _; rfl)
    (hs : swapsWithSole [.Subscript (.Name x p) ix pos'] e pos.line X.env = pure false := by rfl) (hw : swappedStores [.Subscript (.Name x p) ix pos'] e X.env = pure none := by rfl)
    (h1 : (assignEach [.Subscript (.Name x p) ix pos'] X.env).map (·.2) = [assign (.Subscript (.Name x p) ix pos') X.env] := by rfl) :
    VS X Wx io v0 (.Assign [.Subscript (.Name x p) ix pos'] e pos) (putS i f g) := ps_mono (ps_asg he (pg_sub (pe_var hN hv hd hcd) hg (set_any hu) ha) hs hw h1) fun D σ H q => by
  obtain ⟨ρ, C, F, s, p⟩ := q
  refine ⟨ρ, C, F, s, (SPost.of_toS p σ).imp fun w ρ1 _ q1 => fun x1 C1 H1 G F1 t1 => ?_⟩
  split at q1
  · rename_i wa hia
    obtain ⟨vo, _, hvo, _, _⟩ := t1.to.st.env.at hia
    refine ⟨vo, hvo, ρ1, C1, F1, t1.to.st, ((SPost.of_toS q1 σ).shift t1.to) fun k ρ2 _ q2 => fun x2 C2 H2 G2 F2 t2 => ?_⟩
    split at q2
    · rename_i w0 hi
      split at q2
      · rename_i w' u hm
        have q2' : ∀ σ' C' H' F', To X.K io v0 C H F (ρ2.set i (some w')) σ' C' H' F' → D.nx σ' H' := q2
        have dG1 : ∀ a, G a → ¬ F1 a := t1.dis
        have apF : ∀ a, G a → ¬ F2 a := New.apart t2.to.new (fun a h => (t1.own.foot h).1) dG1
        have apG : ∀ a, G a → ¬ G2 a := New.apart t2.newv (fun a h => (t1.own.foot h).1) dG1
        have ow : OwnAll X.K C2 H2 [k, w] [x2, x1] (Foot.or G2 G) := .cons t2.own (.cons (G' := Foot.none) (t1.own.carry t2.to.step dG1) (.nil fun _ z => z) (fun _ _ z => z) fun a => ⟨.inl, fun z => z.elim id False.elim⟩) (fun a y z => apG a z y) fun a => Iff.rfl
        have := mut_at (Q := fun x H => D.nx σ H) set_okM (t1.to.trans t2.to) (fun a z => z.elim (New.trans t1.to.step t1.to.new t2.newv a) (t1.newv a)) (fun a z => z.elim (t2.dis a) (apF a)) ow hi hvo hm fun x C' H' G' F' t => q2' σ C' H' F' t.to
        obtain ⟨i', v', ei, r⟩ := this
        cases ei
        exact r
      · exact q2.elim
    · exact q2.elim
  · exact q1.elim
end
end VL
set_option maxHeartbeats 4000000
namespace VL
open PySem PySem.Spec PyProof.Rows L2
/-! ### enumerate, zip: lists and tuples -/
set_option maxHeartbeats 1000000 in
theorem meets_enum1 {v : Value} {o : Obj} {H : Heap → Prop} (B : Begins v o H) :
    Meets (Builtin.«enumerate.__new__» ⟨[.type "enumerate", v], []⟩) (fun _ R s => H s.heap ∧
      R (.ok (.ret (.ref (s.heap.push o).objs.size))) { s with heap := (s.heap.push o).push { cls := .type "enumerate", data := .fields #[.none, .bool false, .ref s.heap.objs.size, rawInt 0, .none, .none] } }) :=
  .of_wp fun prog w A R s h => by
    obtain ⟨hp, g, d, tk, os⟩ := s; obtain ⟨h1, h⟩ := h
    have hsub := sub_enumerate
    have q1 : ∀ {A' : Around} {E : Value → Shared → Prop} {Q : Value → Shared → Prop}, Q (.ref hp.objs.size) ⟨hp.push o, g, d, tk, os⟩ → wpAny (model prog w) A' (pyIter v) Q E ⟨hp, g, d, tk, os⟩ :=
      fun q => B.iter prog w _ _ ⟨hp, g, d, tk, os⟩ _ h1 q
    wp_walk using q1
    refine wpAny_stack_any fun st => wpAny_pure ?_
    split
    · rename_i c _ _ _ _ _
      cases (c == Value.type "enumerate")
      · wp_walk using q1
        exact ⟨_, rfl, h⟩
      · wp_walk using q1
        exact ⟨_, rfl, h⟩
    · wp_walk using q1
      exact ⟨_, rfl, h⟩
section
variable {prog : Program} {w : World} {A : Around} {E : Value → Shared → Prop} {s : Shared}
theorem enum_begins1 {v : Value} {o : Obj} {H : Heap → Prop} {Q : Value → Shared → Prop} (B : Begins v o H) (h1 : H s.heap)
    (h : ∀ h', IsEnum h' (s.heap.objs.size + 1) s.heap.objs.size 0 .none → h'.get? s.heap.objs.size = some o → h'.objs.size = s.heap.objs.size + 2 →
      (∀ b o, s.heap.get? b = some o → h'.get? b = some o) → Q (.ref (s.heap.objs.size + 1)) { s with heap := h' }) :
    wpAny (model prog w) A (call (.type "enumerate") [v]) Q E s := by
  refine callType_new F.called_enumerate (by decide) (F.typeCall_enumerate_1 _) (F.newCall_enumerate_1 _) (fun obj => F.args_object_init_2 obj _) F.entry_enumerate_new
    (meets_enum1 B) ⟨h1, ?_⟩
  have hz : (s.heap.push o).objs.size = s.heap.objs.size + 1 := Heap.size_push ..
  show _ ∧ _
  rw [hz]
  have he : IsEnum ((s.heap.push o).push { cls := .type "enumerate", data := .fields #[.none, .bool false, .ref s.heap.objs.size, rawInt 0, .none, .none] }) (s.heap.objs.size + 1) s.heap.objs.size 0 .none := by
    have := Heap.get?_push_size (s.heap.push o) (o := { cls := .type "enumerate", data := .fields #[.none, .bool false, .ref s.heap.objs.size, rawInt 0, .none, .none] }) rfl
    rw [hz] at this; exact this
  refine ⟨⟨_, he, rfl⟩, h _ he (Heap.get?_push_of_some _ (Heap.get?_push_size _ B.free)) (by rw [Heap.size_push, hz]) fun b o x => Heap.get?_push_of_some _ (Heap.get?_push_of_some _ x)⟩
end
/-- a turn's steps, told by a walk of just this turn -/
theorem turn_walk {P : Program} {w : World} {K : PySem.W.Frag} {elts : List Expr} {kk : Nat} {tpos : Pos} {J : It} {I : Addr} {own wr : List Addr} {tn : Nat → Heap → Prop} (hI : I ∈ own) (hwr : ∀ b ∈ wr, b ∈ own)
    (obj : ∀ i h, tn i h → ∀ b ∈ own, ∃ o, h.get? b = some o ∧ ∀ v, o.data ≠ .cell v) (keep : ∀ i h h', tn i h → (∀ b ∈ own, ∀ o, h.get? b = some o → h'.get? b = some o) → tn i h')
    (go : ∀ (X : Cx), X.prog = P → X.w = w → X.K = K → X.calm = true → ∀ (i : Nat) (pins : List (Addr × Obj)) (s : Shared) (σ : L2.St) (H : Hp), Inv X pins σ H s → tn i s.heap → J.go i H →
      ∃ fp n Pt St Mid, WalksT P w X.A I fp wr n Pt St Mid ∧ i < n ∧ St i s.heap ∧ (∀ h', St (i + 1) h' → tn (i + 1) h') ∧ ∀ vals, Pt i vals → ∃ zs, Vals zs vals.toList ∧ zs.length ≤ sizeLine ∧ ∀ T, H T = none → J.yld i H (.ref T) (upd H T (.tup zs)))
    (stop : ∀ (X : Cx), X.prog = P → X.w = w → X.K = K → X.calm = true → ∀ (i : Nat) (pins : List (Addr × Obj)) (s : Shared) (σ : L2.St) (H : Hp), Inv X pins σ H s → tn i s.heap → J.stop i H →
      ∃ fp Pt St Mid, WalksT P w X.A I fp wr i Pt St Mid ∧ St i s.heap)
    (self : ∀ (A : Around) (i : Nat) (s : Shared) (Q : Value → Shared → Prop) (E : Value → Shared → Prop), tn i s.heap → Q (.ref I) s → wpAny (model P w) A (pyIter (.ref I)) Q E s) :
    Turn P w K (.Tuple elts kk tpos) J own I tn where
  mem := hI
  obj := obj
  keep := keep
  item := by
    intro X hP hw hK hc i pins s σ H E Iv hf st hg
    obtain ⟨fp, n, Pt, St, Mid, W, hi, hst, nxt, hv⟩ := go X hP hw hK hc i pins s σ H Iv st hg
    refine W.item i s _ E hi hst fun T vals h' tk hp hT hIs hm hk => ⟨_, rfl, W.go elts kk tpos i T { s with heap := h', toks := tk } _ E hm fun h'' st'' hk2 => ?_⟩
    obtain ⟨zs, hz, hl, hy⟩ := hv vals hp
    have hTw : T ∉ wr := W.apart i T h' hm
    obtain ⟨o, ho, hcl, n', hd⟩ := hIs
    have hT2 : h''.get? T = some o := hk2 T o hTw ho
    have hlt : ∀ b ∈ own, b < s.heap.objs.size := fun b hb => by
      obtain ⟨o, e, _⟩ := obj i s.heap st b hb
      exact Heap.lt_size e
    have new : ObjOk X.prog X.w (upd H T (.tup zs)) h'' T (.tup zs) := ⟨hl, vals.toList, hz, ⟨o, hT2, hcl, n', by rw [hd]⟩⟩
    have I1 : Inv X pins σ (upd H T (.tup zs)) { s with heap := h'', toks := tk } :=
      Iv.turnedNew (ch := own) (fun b ob hb q => hk2 b ob (fun z => hb (hwr b z)) (hk b ob (fun z => hb (hwr b z)) q)) hf hT new
    refine ⟨.ref T, _, I1, rfl, hy T (Iv.hok.fresh hT), nxt _ st'', fun b hb => ?_⟩
    rw [upd_ne (Nat.ne_of_lt (Nat.lt_of_lt_of_le (hlt b hb) hT))]
    exact (hf b hb).1
  done := by
    intro X hP hw hK hc i pins s σ H E Iv hf st hg
    obtain ⟨fp, Pt, St, Mid, W, hst⟩ := stop X hP hw hK hc i pins s σ H Iv st hg
    exact W.done s _ E hst fun h' tk hk => ⟨rfl, Iv.turnedL (t' := tk) (ch := own) (fun b o hb q => hk b o (fun z => hb (hwr b z)) q) hf⟩
  self := self
def itB (b : Bool) (h : Heap) (it a : Addr) (i : Nat) : Prop := match b with
  | true => h.IsListIter it a i
  | false => h.IsTupleIter it a i
def isB (b : Bool) (h : Heap) (a : Addr) (items : Array Value) : Prop := match b with
  | true => h.IsList a items
  | false => h.IsTuple a items
def objB (b : Bool) (a : Addr) : Obj := match b with
  | true => { cls := .type "list_iterator", data := .fields #[.ref a, .int 0 0] }
  | false => { cls := .type "tuple_iterator", data := .fields #[.ref a, .int 0 0] }
theorem begins_B (b : Bool) (a : Addr) (items : Array Value) : Begins (.ref a) (objB b a) fun h => isB b h a items := by
  cases b with
  | true => exact begins_list a items
  | false => exact begins_tuple a items
theorem sqB_its {X : Cx} {pins : List (Addr × Obj)} {σ : L2.St} {H : Hp} {s : Shared} {b : Bool} {a : Addr} {xs : List V} (I : Inv X pins σ H s) (h : sqB X.K b H a xs) : ∃ its : List Value, Vals xs its ∧ isB b s.heap a its.toArray ∧ a < s.heap.objs.size := by
  cases b with
  | true =>
    obtain ⟨its, rv, p, _⟩ := I.list h
    exact ⟨its, rv, p.isList, p.lt⟩
  | false =>
    obtain ⟨its, rv, p, _⟩ := I.tuple h
    have p' : s.heap.IsTuple a its.toArray := p
    obtain ⟨o, ho, _⟩ := id p'
    exact ⟨its, rv, p', Heap.lt_size ho⟩
theorem sqB_inj {X : Cx} {pins : List (Addr × Obj)} {σ : L2.St} {H : Hp} {s : Shared} {b : Bool} {a : Addr} {xs ys : List V} (I : Inv X pins σ H s) (h : sqB X.K b H a xs) (h' : sqB X.K b H a ys) : xs = ys := by
  cases b with
  | true => exact I.list_inj h h'
  | false => exact I.tuple_inj h h'
theorem itB_obj {b : Bool} {h : Heap} {it a : Addr} {i : Nat} (q : itB b h it a i) : ∃ o, h.get? it = some o ∧ ∃ vs, o.data = .fields vs := by
  cases b with
  | true => obtain ⟨o, ho, _, hd⟩ := q; exact ⟨o, ho, _, hd⟩
  | false => obtain ⟨o, ho, _, hd⟩ := q; exact ⟨o, ho, _, hd⟩
theorem isB_obj {b : Bool} {h : Heap} {a : Addr} {items : Array Value} (q : isB b h a items) : ∃ o n, h.get? a = some o ∧ o.data = .seq items n := by
  cases b with
  | true => obtain ⟨o, ho, _, n, hd⟩ := q; exact ⟨o, n, ho, hd⟩
  | false => obtain ⟨o, ho, _, n, hd⟩ := q; exact ⟨o, n, ho, hd⟩
theorem seq_ne {h : Heap} {a b : Addr} {o o' : Obj} {items vs : Array Value} {n : Nat} (e : h.get? a = some o) (d : o.data = .seq items n) (e' : h.get? b = some o') (d' : o'.data = .fields vs) : a ≠ b := fun q => by
  subst q
  rw [e] at e'
  cases e'
  rw [d] at d'
  cases d'
theorem itB_at {b : Bool} {h h' : Heap} {it a : Addr} {i : Nat} (q : itB b h it a i) (k : ∀ o, h.get? it = some o → h'.get? it = some o) : itB b h' it a i := by
  cases b with
  | true => exact Heap.IsListIter.at q k
  | false => exact Heap.IsTupleIter.at q k
theorem draws_B {prog : Program} {w : World} {A : Around} (hh : A.handled = none) (b : Bool) (it a : Addr) (hne : a ≠ it) (items : Array Value) :
    Draws prog w A it [it, a] items.size (fun i v => items[i]? = some v) (fun i h => itB b h it a i ∧ isB b h a items) := by
  cases b with
  | true => exact Draws.list hh it a hne items
  | false => exact Draws.tuple hh it a hne items
theorem itB_new {b : Bool} {h : Heap} {it a : Addr} (e : h.get? it = some (objB b a)) : itB b h it a 0 := by
  cases b with
  | true => exact ⟨_, e, rfl, rfl⟩
  | false => exact ⟨_, e, rfl, rfl⟩
def ItEn (K : PySem.W.Frag) (b : Bool) (a : Addr) : It :=
  ⟨fun i H => ∃ (xs : List V) (x : V), sqB K b H a xs ∧ xs[i]? = some x, fun i H v H' => ∃ T x, v = .ref T ∧ H T = none ∧ H' = upd H T (.tup [.int (i : Nat), x]) ∧ ∀ xs, sqB K b H a xs → xs[i]? = some x, fun i H => ∃ xs : List V, sqB K b H a xs ∧ xs.length = i⟩
theorem turn_en {P : Program} {w : World} {K : PySem.W.Frag} {elts : List Expr} {kk : Nat} {tpos : Pos} (b : Bool) (a e it : Addr) (hne : e ≠ it) :
    Turn P w K (.Tuple elts kk tpos) (ItEn K b a) [e, it] e (fun i h => (∃ old, IsEnum h e it ((i : Nat) : Int) old) ∧ itB b h it a i) :=
  turn_walk (wr := [e, it]) (by simp) (fun b hb => hb)
    (fun i h st c hc => by
      obtain ⟨⟨old, he⟩, hi⟩ := st
      obtain ⟨o, ho, vs, hd⟩ := itB_obj hi
      have e' : c = e ∨ c = it := by simpa using hc
      rcases e' with z | z
      · rw [z]; exact ⟨_, he, fun v q => nomatch q⟩
      · rw [z]; exact ⟨o, ho, fun v q => by rw [hd] at q; cases q⟩)
    (fun i h h' st k => ⟨⟨st.1.choose, k e (by simp) _ st.1.choose_spec⟩, itB_at st.2 fun o q => k it (by simp) o q⟩)
    (fun X hP hw hK hc i pins s σ H I st hg => by
      subst hP hw hK
      obtain ⟨⟨old, he⟩, hit⟩ := st
      obtain ⟨xs, x, hq, hx⟩ := hg
      obtain ⟨its, rv, p, hlt⟩ := sqB_its I hq
      obtain ⟨o1, n1, e1, d1⟩ := isB_obj p
      obtain ⟨o2, e2, vs2, d2⟩ := itB_obj hit
      obtain ⟨u, hu, ru⟩ := rv.get hx
      have hae : a ≠ e := seq_ne e1 d1 he rfl
      have W := WalksT.enumerateD (draws_B (prog := X.prog) (w := X.w) (show X.A.in1.handled = none from I.ok.hd hc) b it a (seq_ne e1 d1 e2 d2) its.toArray) e hne (by simp [hne, Ne.symm hae]) (by simp)
      refine ⟨_, _, _, _, _, W, ?_, ⟨⟨old, he⟩, hit, p⟩, fun h' z => ⟨z.1, z.2.1⟩, fun vals hp => ?_⟩
      · simp only [List.size_toArray]
        rw [← rv.length]
        exact (List.getElem?_eq_some_iff.mp hx).1
      · obtain ⟨t, y, hy, rfl⟩ := hp
        rw [List.getElem?_toArray, hu] at hy
        cases hy
        exact ⟨[.int (i : Nat), x], .cons ⟨t, rfl⟩ (.cons ru .nil), by show 2 ≤ sizeLine; decide, fun T hT => ⟨T, x, rfl, hT, rfl, fun ys hy => by rw [sqB_inj I hy hq]; exact hx⟩⟩)
    (fun X hP hw hK hc i pins s σ H I st hg => by
      subst hP hw hK
      obtain ⟨⟨old, he⟩, hit⟩ := st
      obtain ⟨xs, hq, hx⟩ := hg
      obtain ⟨its, rv, p, hlt⟩ := sqB_its I hq
      obtain ⟨o1, n1, e1, d1⟩ := isB_obj p
      obtain ⟨o2, e2, vs2, d2⟩ := itB_obj hit
      have hae : a ≠ e := seq_ne e1 d1 he rfl
      have W := WalksT.enumerateD (draws_B (prog := X.prog) (w := X.w) (show X.A.in1.handled = none from I.ok.hd hc) b it a (seq_ne e1 d1 e2 d2) its.toArray) e hne (by simp [hne, Ne.symm hae]) (by simp)
      have hn : its.toArray.size = i := by rw [List.size_toArray, ← rv.length, hx]
      rw [hn] at W
      exact ⟨_, _, _, _, W, ⟨old, he⟩, hit, p⟩)
    (fun A i s Q E st h => wpAny_pyIter_enum st.1.choose_spec h)
end VL
set_option maxHeartbeats 4000000
namespace VL
open PySem PySem.Spec PyProof.Rows L2
def ItZ2 (K : PySem.W.Frag) (b1 b2 : Bool) (a1 a2 : Addr) : It :=
  ⟨fun i H => ∃ (xs ys : List V) (x y : V), sqB K b1 H a1 xs ∧ sqB K b2 H a2 ys ∧ xs[i]? = some x ∧ ys[i]? = some y,
    fun i H v H' => ∃ T x y, v = .ref T ∧ H T = none ∧ H' = upd H T (.tup [x, y]) ∧ (∀ xs, sqB K b1 H a1 xs → xs[i]? = some x) ∧ ∀ xs, sqB K b2 H a2 xs → xs[i]? = some y,
    fun i H => ∃ xs ys : List V, sqB K b1 H a1 xs ∧ sqB K b2 H a2 ys ∧ min xs.length ys.length = i⟩
theorem turn_z2 {P : Program} {w : World} {K : PySem.W.Frag} {elts : List Expr} {kk : Nat} {tpos : Pos} (b1 b2 : Bool) {a1 a2 z TI TO i1 i2 : Addr} (S : ZipSep2 z TI TO i1 i2 [i1, a1] [i2, a2]) :
    Turn P w K (.Tuple elts kk tpos) (ItZ2 K b1 b2 a1 a2) [z, TI, TO, i1, i2] z (fun i h => IsZip h z TI TO .none ∧ IsTupOf2 h TI (.ref i1) (.ref i2) ∧ (∃ x y, IsTupOf2 h TO x y) ∧ itB b1 h i1 a1 i ∧ itB b2 h i2 a2 i) :=
  turn_walk (wr := [z, TO, i1, i2]) (by simp) (fun b hb => by simp at hb ⊢; rcases hb with h | h | h | h <;> simp [h])
    (fun i h st c hc => by
      obtain ⟨hz, hTI, ⟨x, y, hTO⟩, h1, h2⟩ := st
      obtain ⟨o1, e1, v1, d1⟩ := itB_obj h1
      obtain ⟨o2, e2, v2, d2⟩ := itB_obj h2
      have e' : c = z ∨ c = TI ∨ c = TO ∨ c = i1 ∨ c = i2 := by simpa using hc
      rcases e' with q | q | q | q | q
      · rw [q]; exact ⟨_, hz, fun v q => nomatch q⟩
      · rw [q]; exact ⟨_, hTI, fun v q => nomatch q⟩
      · rw [q]; exact ⟨_, hTO, fun v q => nomatch q⟩
      · rw [q]; exact ⟨o1, e1, fun v q => by rw [d1] at q; cases q⟩
      · rw [q]; exact ⟨o2, e2, fun v q => by rw [d2] at q; cases q⟩)
    (fun i h h' st k => by
      obtain ⟨hz, hTI, ⟨x, y, hTO⟩, h1, h2⟩ := st
      exact ⟨k z (by simp) _ hz, k TI (by simp) _ hTI, ⟨x, y, k TO (by simp) _ hTO⟩, itB_at h1 fun o q => k i1 (by simp) o q, itB_at h2 fun o q => k i2 (by simp) o q⟩)
    (fun X hP hw hK hc i pins s σ H I st hg => by
      subst hP hw hK
      obtain ⟨hz, hTI, hTO, h1, h2⟩ := st
      obtain ⟨xs, ys, x, y, hq1, hq2, hx, hy⟩ := hg
      obtain ⟨its, rv, p, _⟩ := sqB_its I hq1
      obtain ⟨its2, rv2, p2, _⟩ := sqB_its I hq2
      obtain ⟨o1, n1, e1, d1⟩ := isB_obj p
      obtain ⟨o2, n2, e2, d2⟩ := isB_obj p2
      obtain ⟨o3, e3, v3, d3⟩ := itB_obj h1
      obtain ⟨o4, e4, v4, d4⟩ := itB_obj h2
      obtain ⟨u, hu, ru⟩ := rv.get hx
      obtain ⟨u2, hu2, ru2⟩ := rv2.get hy
      have hd : X.A.in1.handled = none := I.ok.hd hc
      have W := WalksT.zipD2 S (draws_B (prog := X.prog) (w := X.w) hd b1 i1 a1 (seq_ne e1 d1 e3 d3) its.toArray) (draws_B hd b2 i2 a2 (seq_ne e2 d2 e4 d4) its2.toArray)
      refine ⟨_, _, _, _, _, W, ?_, ⟨hz, hTI, hTO, ⟨h1, p⟩, h2, p2⟩, fun h' z => ⟨z.1, z.2.1, z.2.2.1, z.2.2.2.1.1, z.2.2.2.2.1⟩, fun vals hp => ?_⟩
      · have l1 := (List.getElem?_eq_some_iff.mp hx).1
        have l2 := (List.getElem?_eq_some_iff.mp hy).1
        simp only [List.size_toArray]
        rw [← rv.length, ← rv2.length]
        omega
      · obtain ⟨y1, y2, k1, k2, rfl⟩ := hp
        rw [List.getElem?_toArray, hu] at k1
        rw [List.getElem?_toArray, hu2] at k2
        cases k1
        cases k2
        exact ⟨[x, y], .cons ru (.cons ru2 .nil), by show 2 ≤ sizeLine; decide, fun T hT => ⟨T, x, y, rfl, hT, rfl, fun l hl => by rw [sqB_inj I hl hq1]; exact hx, fun l hl => by rw [sqB_inj I hl hq2]; exact hy⟩⟩)
    (fun X hP hw hK hc i pins s σ H I st hg => by
      subst hP hw hK
      obtain ⟨hz, hTI, hTO, h1, h2⟩ := st
      obtain ⟨xs, ys, hq1, hq2, hmin⟩ := hg
      obtain ⟨its, rv, p, _⟩ := sqB_its I hq1
      obtain ⟨its2, rv2, p2, _⟩ := sqB_its I hq2
      obtain ⟨o1, n1, e1, d1⟩ := isB_obj p
      obtain ⟨o2, n2, e2, d2⟩ := isB_obj p2
      obtain ⟨o3, e3, v3, d3⟩ := itB_obj h1
      obtain ⟨o4, e4, v4, d4⟩ := itB_obj h2
      have hd : X.A.in1.handled = none := I.ok.hd hc
      have W := WalksT.zipD2 S (draws_B (prog := X.prog) (w := X.w) hd b1 i1 a1 (seq_ne e1 d1 e3 d3) its.toArray) (draws_B hd b2 i2 a2 (seq_ne e2 d2 e4 d4) its2.toArray)
      have hn : min its.toArray.size its2.toArray.size = i := by rw [List.size_toArray, List.size_toArray, ← rv.length, ← rv2.length, hmin]
      rw [hn] at W
      exact ⟨_, _, _, _, W, hz, hTI, hTO, ⟨h1, p⟩, h2, p2⟩)
    (fun A i s Q E st h => wpAny_pyIter_zip st.1 h)
def ItZ3 (K : PySem.W.Frag) (b1 b2 b3 : Bool) (a1 a2 a3 : Addr) : It :=
  ⟨fun i H => ∃ (xs ys zs : List V) (x y z : V), sqB K b1 H a1 xs ∧ sqB K b2 H a2 ys ∧ sqB K b3 H a3 zs ∧ xs[i]? = some x ∧ ys[i]? = some y ∧ zs[i]? = some z,
    fun i H v H' => ∃ T x y z, v = .ref T ∧ H T = none ∧ H' = upd H T (.tup [x, y, z]) ∧ (∀ xs, sqB K b1 H a1 xs → xs[i]? = some x) ∧ (∀ xs, sqB K b2 H a2 xs → xs[i]? = some y) ∧ ∀ xs, sqB K b3 H a3 xs → xs[i]? = some z,
    fun i H => ∃ xs ys zs : List V, sqB K b1 H a1 xs ∧ sqB K b2 H a2 ys ∧ sqB K b3 H a3 zs ∧ min (min xs.length ys.length) zs.length = i⟩
theorem turn_z3 {P : Program} {w : World} {K : PySem.W.Frag} {elts : List Expr} {kk : Nat} {tpos : Pos} (b1 b2 b3 : Bool) {a1 a2 a3 z TI TO i1 i2 i3 : Addr} (S : ZipSep3 z TI TO i1 i2 i3 [i1, a1] [i2, a2] [i3, a3]) :
    Turn P w K (.Tuple elts kk tpos) (ItZ3 K b1 b2 b3 a1 a2 a3) [z, TI, TO, i1, i2, i3] z (fun i h => IsZip h z TI TO .none ∧ IsTupOf3 h TI (.ref i1) (.ref i2) (.ref i3) ∧ (∃ x y u, IsTupOf3 h TO x y u) ∧ itB b1 h i1 a1 i ∧ itB b2 h i2 a2 i ∧ itB b3 h i3 a3 i) :=
  turn_walk (wr := [z, TO, i1, i2, i3]) (by simp) (fun b hb => by simp at hb ⊢; rcases hb with h | h | h | h | h <;> simp [h])
    (fun i h st c hc => by
      obtain ⟨hz, hTI, ⟨x, y, u, hTO⟩, h1, h2, h3⟩ := st
      obtain ⟨o1, e1, v1, d1⟩ := itB_obj h1
      obtain ⟨o2, e2, v2, d2⟩ := itB_obj h2
      obtain ⟨o3, e3, v3, d3⟩ := itB_obj h3
      have e' : c = z ∨ c = TI ∨ c = TO ∨ c = i1 ∨ c = i2 ∨ c = i3 := by simpa using hc
      rcases e' with q | q | q | q | q | q
      · rw [q]; exact ⟨_, hz, fun v q => nomatch q⟩
      · rw [q]; exact ⟨_, hTI, fun v q => nomatch q⟩
      · rw [q]; exact ⟨_, hTO, fun v q => nomatch q⟩
      · rw [q]; exact ⟨o1, e1, fun v q => by rw [d1] at q; cases q⟩
      · rw [q]; exact ⟨o2, e2, fun v q => by rw [d2] at q; cases q⟩
      · rw [q]; exact ⟨o3, e3, fun v q => by rw [d3] at q; cases q⟩)
    (fun i h h' st k => by
      obtain ⟨hz, hTI, ⟨x, y, u, hTO⟩, h1, h2, h3⟩ := st
      exact ⟨k z (by simp) _ hz, k TI (by simp) _ hTI, ⟨x, y, u, k TO (by simp) _ hTO⟩, itB_at h1 fun o q => k i1 (by simp) o q, itB_at h2 fun o q => k i2 (by simp) o q, itB_at h3 fun o q => k i3 (by simp) o q⟩)
    (fun X hP hw hK hc i pins s σ H I st hg => by
      subst hP hw hK
      obtain ⟨hz, hTI, hTO, h1, h2, h3⟩ := st
      obtain ⟨xs, ys, zs, x, y, v, hq1, hq2, hq3, hx, hy, hv⟩ := hg
      obtain ⟨its, rv, p, _⟩ := sqB_its I hq1
      obtain ⟨its2, rv2, p2, _⟩ := sqB_its I hq2
      obtain ⟨its3, rv3, p3, _⟩ := sqB_its I hq3
      obtain ⟨o1, n1, e1, d1⟩ := isB_obj p
      obtain ⟨o2, n2, e2, d2⟩ := isB_obj p2
      obtain ⟨o5, n5, e5, d5⟩ := isB_obj p3
      obtain ⟨o3, e3, v3, d3⟩ := itB_obj h1
      obtain ⟨o4, e4, v4, d4⟩ := itB_obj h2
      obtain ⟨o6, e6, v6, d6⟩ := itB_obj h3
      obtain ⟨u, hu, ru⟩ := rv.get hx
      obtain ⟨u2, hu2, ru2⟩ := rv2.get hy
      obtain ⟨u3, hu3, ru3⟩ := rv3.get hv
      have hd : X.A.in1.handled = none := I.ok.hd hc
      have W := WalksT.zipD3 S (draws_B (prog := X.prog) (w := X.w) hd b1 i1 a1 (seq_ne e1 d1 e3 d3) its.toArray) (draws_B hd b2 i2 a2 (seq_ne e2 d2 e4 d4) its2.toArray) (draws_B hd b3 i3 a3 (seq_ne e5 d5 e6 d6) its3.toArray)
      refine ⟨_, _, _, _, _, W, ?_, ⟨hz, hTI, hTO, ⟨h1, p⟩, ⟨h2, p2⟩, h3, p3⟩, fun h' z => ⟨z.1, z.2.1, z.2.2.1, z.2.2.2.1.1, z.2.2.2.2.1.1, z.2.2.2.2.2.1⟩, fun vals hp => ?_⟩
      · have l1 := (List.getElem?_eq_some_iff.mp hx).1
        have l2 := (List.getElem?_eq_some_iff.mp hy).1
        have l3 := (List.getElem?_eq_some_iff.mp hv).1
        simp only [List.size_toArray]
        rw [← rv.length, ← rv2.length, ← rv3.length]
        omega
      · obtain ⟨y1, y2, y3, k1, k2, k3, rfl⟩ := hp
        rw [List.getElem?_toArray, hu] at k1
        rw [List.getElem?_toArray, hu2] at k2
        rw [List.getElem?_toArray, hu3] at k3
        cases k1
        cases k2
        cases k3
        exact ⟨[x, y, v], .cons ru (.cons ru2 (.cons ru3 .nil)), by show 3 ≤ sizeLine; decide, fun T hT => ⟨T, x, y, v, rfl, hT, rfl, fun l hl => by rw [sqB_inj I hl hq1]; exact hx, fun l hl => by rw [sqB_inj I hl hq2]; exact hy, fun l hl => by rw [sqB_inj I hl hq3]; exact hv⟩⟩)
    (fun X hP hw hK hc i pins s σ H I st hg => by
      subst hP hw hK
      obtain ⟨hz, hTI, hTO, h1, h2, h3⟩ := st
      obtain ⟨xs, ys, zs, hq1, hq2, hq3, hmin⟩ := hg
      obtain ⟨its, rv, p, _⟩ := sqB_its I hq1
      obtain ⟨its2, rv2, p2, _⟩ := sqB_its I hq2
      obtain ⟨its3, rv3, p3, _⟩ := sqB_its I hq3
      obtain ⟨o1, n1, e1, d1⟩ := isB_obj p
      obtain ⟨o2, n2, e2, d2⟩ := isB_obj p2
      obtain ⟨o5, n5, e5, d5⟩ := isB_obj p3
      obtain ⟨o3, e3, v3, d3⟩ := itB_obj h1
      obtain ⟨o4, e4, v4, d4⟩ := itB_obj h2
      obtain ⟨o6, e6, v6, d6⟩ := itB_obj h3
      have hd : X.A.in1.handled = none := I.ok.hd hc
      have W := WalksT.zipD3 S (draws_B (prog := X.prog) (w := X.w) hd b1 i1 a1 (seq_ne e1 d1 e3 d3) its.toArray) (draws_B hd b2 i2 a2 (seq_ne e2 d2 e4 d4) its2.toArray) (draws_B hd b3 i3 a3 (seq_ne e5 d5 e6 d6) its3.toArray)
      have hn : min (min its.toArray.size its2.toArray.size) its3.toArray.size = i := by rw [List.size_toArray, List.size_toArray, List.size_toArray, ← rv.length, ← rv2.length, ← rv3.length, hmin]
      rw [hn] at W
      exact ⟨_, _, _, _, W, hz, hTI, hTO, ⟨h1, p⟩, ⟨h2, p2⟩, h3, p3⟩)
    (fun A i s Q E st h => wpAny_pyIter_zip st.1 h)
/-! the iterators begin -/
section
variable {X : Cx} {p pos tpos : Pos} {elts : List Expr} {kk : Nat} {ta : TA}
theorem pi_enA {e : Expr} (hg : Gl X "enumerate") (hm : X.mg "enumerate" = none) (ha : PA X [e] ta) (hs : starEach [e] X.env = [(false, eval e X.env)] := by rfl) :
    PI X (.Tuple elts kk tpos) (.Call (.Name "enumerate" p) [e] [] pos) (fun σ H R => ta σ H fun vs H1 => ∃ a b xs, vs = [.ref a] ∧ sqB X.K b H1 a xs ∧ R (ItEn X.K b a) H1) := by
  refine ⟨fun pins s σ H R I h => ?_⟩
  refine Call_ (ld_blt I hg hm boot_enumerate (PyProof.Rows.callWith_type1 (thn (ha.run pos pins s σ H _ I h) fun us s1 ⟨vs, H1, I1, r1, q1⟩ => ?_) hs rfl))
  obtain ⟨a, b, xs, ex, hq, q⟩ := q1
  subst ex
  cases r1 with
  | cons r rr =>
    cases rr
    cases r
    obtain ⟨its, rv, p', hlt⟩ := sqB_its I1 hq
    refine enum_begins1 (begins_B b a its.toArray) p' fun h' he hit hsz hk => wpAny_pyIter_enum he ?_
    have I2 : Inv X pins σ H1 { s1 with heap := h' } := I1.kept (t' := s1.toks) hk
    refine ⟨s1.heap.objs.size + 1, [s1.heap.objs.size + 1, s1.heap.objs.size], _, _, H1, rfl, I2, turn_en b a (s1.heap.objs.size + 1) s1.heap.objs.size (Nat.succ_ne_self _), ⟨⟨.none, he⟩, itB_new hit⟩, fun b hb => ?_, q⟩
    have e' : b = s1.heap.objs.size + 1 ∨ b = s1.heap.objs.size := by simpa using hb
    have hle : s1.heap.objs.size ≤ b := by
      rcases e' with z | z
      · rw [z]; exact Nat.le_add_right _ _
      · rw [z]; exact Nat.le_refl _
    exact I1.fpOk hle (I1.hok.fresh hle)
theorem pi_z2A {e e2 : Expr} (hg : Gl X "zip") (hm : X.mg "zip" = none) (ha : PA X [e, e2] ta)
    (hs : starEach [e, e2] X.env = (false, eval e X.env) :: starEach [e2] X.env := by rfl) (hpl : (backTo pos (starEach [e2] X.env)).any (·.1) = false := by rfl) :
    PI X (.Tuple elts kk tpos) (.Call (.Name "zip" p) [e, e2] [] pos) (fun σ H R => ta σ H fun vs H1 => ∃ a1 a2 b1 b2 xs ys, vs = [.ref a1, .ref a2] ∧ sqB X.K b1 H1 a1 xs ∧ sqB X.K b2 H1 a2 ys ∧ R (ItZ2 X.K b1 b2 a1 a2) H1) := by
  refine ⟨fun pins s σ H R I h => ?_⟩
  refine Call_ (ld_blt I hg hm PyProof.Rows.boot_zip (PyProof.Rows.callWith_type1 (thn (ha.run pos pins s σ H _ I h) fun us s1 ⟨vs, H1, I1, r1, q1⟩ => ?_) hs hpl))
  obtain ⟨a1, a2, b1, b2, xs, ys, ex, hq1, hq2, q⟩ := q1
  subst ex
  cases r1 with
  | cons r rr =>
    cases rr with
    | cons r' rr =>
      cases rr
      cases r
      cases r'
      obtain ⟨its, rv, p1, l1⟩ := sqB_its I1 hq1
      obtain ⟨its2, rv2, p2, l2⟩ := sqB_its I1 hq2
      refine zip_begins2 (begins_B b1 a1 its.toArray) (begins_B b2 a2 its2.toArray) p1 p2 fun h' hz hTI hTO h1 h2 hsz hk => wpAny_pyIter_zip hz ?_
      have I2 : Inv X pins σ H1 { s1 with heap := h' } := I1.kept (t' := s1.toks) hk
      refine ⟨s1.heap.objs.size + 4, [s1.heap.objs.size + 4, s1.heap.objs.size + 2, s1.heap.objs.size + 3, s1.heap.objs.size, s1.heap.objs.size + 1], _, _, H1, rfl, I2,
        turn_z2 b1 b2 (zip_sep2 (N := s1.heap.objs.size) (fp1 := [a1]) (fp2 := [a2]) (by simpa using l1) (by simpa using l2)), ⟨hz, hTI, ⟨_, _, hTO⟩, itB_new h1, itB_new h2⟩, fun c hcm => ?_, q⟩
      have e' : c = s1.heap.objs.size + 4 ∨ c = s1.heap.objs.size + 2 ∨ c = s1.heap.objs.size + 3 ∨ c = s1.heap.objs.size ∨ c = s1.heap.objs.size + 1 := by simpa using hcm
      have hle : s1.heap.objs.size ≤ c := by
        rcases e' with z | z | z | z | z
        · rw [z]; exact Nat.le_add_right _ _
        · rw [z]; exact Nat.le_add_right _ _
        · rw [z]; exact Nat.le_add_right _ _
        · rw [z]; exact Nat.le_refl _
        · rw [z]; exact Nat.le_add_right _ _
      exact I1.fpOk hle (I1.hok.fresh hle)
theorem pi_z3A {e e2 e3 : Expr} (hg : Gl X "zip") (hm : X.mg "zip" = none) (ha : PA X [e, e2, e3] ta)
    (hs : starEach [e, e2, e3] X.env = (false, eval e X.env) :: starEach [e2, e3] X.env := by rfl) (hpl : (backTo pos (starEach [e2, e3] X.env)).any (·.1) = false := by rfl) :
    PI X (.Tuple elts kk tpos) (.Call (.Name "zip" p) [e, e2, e3] [] pos) (fun σ H R => ta σ H fun vs H1 => ∃ a1 a2 a3 b1 b2 b3 xs ys zs, vs = [.ref a1, .ref a2, .ref a3] ∧ sqB X.K b1 H1 a1 xs ∧ sqB X.K b2 H1 a2 ys ∧ sqB X.K b3 H1 a3 zs ∧ R (ItZ3 X.K b1 b2 b3 a1 a2 a3) H1) := by
  refine ⟨fun pins s σ H R I h => ?_⟩
  refine Call_ (ld_blt I hg hm PyProof.Rows.boot_zip (PyProof.Rows.callWith_type1 (thn (ha.run pos pins s σ H _ I h) fun us s1 ⟨vs, H1, I1, r1, q1⟩ => ?_) hs hpl))
  obtain ⟨a1, a2, a3, b1, b2, b3, xs, ys, zs, ex, hq1, hq2, hq3, q⟩ := q1
  subst ex
  cases r1 with
  | cons r rr =>
    cases rr with
    | cons r' rr =>
      cases rr with
      | cons r'' rr =>
      cases rr
      cases r
      cases r'
      cases r''
      obtain ⟨its, rv, p1, l1⟩ := sqB_its I1 hq1
      obtain ⟨its2, rv2, p2, l2⟩ := sqB_its I1 hq2
      obtain ⟨its3, rv3, p3, l3⟩ := sqB_its I1 hq3
      refine zip_begins3 (begins_B b1 a1 its.toArray) (begins_B b2 a2 its2.toArray) (begins_B b3 a3 its3.toArray) p1 p2 p3 fun h' hz hTI hTO h1 h2 h3 hsz hk => wpAny_pyIter_zip hz ?_
      have I2 : Inv X pins σ H1 { s1 with heap := h' } := I1.kept (t' := s1.toks) hk
      refine ⟨s1.heap.objs.size + 5, [s1.heap.objs.size + 5, s1.heap.objs.size + 3, s1.heap.objs.size + 4, s1.heap.objs.size, s1.heap.objs.size + 1, s1.heap.objs.size + 2], _, _, H1, rfl, I2,
        turn_z3 b1 b2 b3 (zip_sep3 (N := s1.heap.objs.size) (fp1 := [a1]) (fp2 := [a2]) (fp3 := [a3]) (by simpa using l1) (by simpa using l2) (by simpa using l3)), ⟨hz, hTI, ⟨_, _, _, hTO⟩, itB_new h1, itB_new h2, itB_new h3⟩, fun c hcm => ?_, q⟩
      have e' : c = s1.heap.objs.size + 5 ∨ c = s1.heap.objs.size + 3 ∨ c = s1.heap.objs.size + 4 ∨ c = s1.heap.objs.size ∨ c = s1.heap.objs.size + 1 ∨ c = s1.heap.objs.size + 2 := by simpa using hcm
      have hle : s1.heap.objs.size ≤ c := by
        rcases e' with z | z | z | z | z | z
        · rw [z]; exact Nat.le_add_right _ _
        · rw [z]; exact Nat.le_add_right _ _
        · rw [z]; exact Nat.le_add_right _ _
        · rw [z]; exact Nat.le_refl _
        · rw [z]; exact Nat.le_add_right _ _
        · rw [z]; exact Nat.le_add_right _ _
      exact I1.fpOk hle (I1.hok.fresh hle)
end
end VL
set_option maxHeartbeats 4000000
namespace VL
open PySem PySem.Spec PyProof.Rows L2
/-! ### a list or a tuple walked by a built-in -/
section
variable {prog : Program} {w : World} {A : Around} {E : Value → Shared → Prop} {s : Shared} {a : Addr}
theorem walks_B (hh : A.handled = none) (b : Bool) (I ax : Addr) (hne : ax ≠ I) (items : Array Value) : Walks prog w A I [I, ax] [I] items.size (fun i v => items[i]? = some v) (fun i h => itB b h I ax i ∧ isB b h ax items) := by
  cases b with
  | true => exact Walks.list hh I ax hne items
  | false => exact Walks.tuple hh I ax hne items
theorem isB_keep {b : Bool} {h h' : Heap} {items : Array Value} (x : isB b h a items) (e : ∀ o, h.get? a = some o → h'.get? a = some o) : isB b h' a items := by
  cases b with
  | true => exact Heap.IsList.at x e
  | false => exact Heap.IsTuple.at x e
theorem iter_B {b : Bool} {items : Array Value} {Q : Value → Shared → Prop} (hl : isB b s.heap a items)
    (h : ∀ s₂ : Shared, s₂ = { s with heap := s.heap.push (objB b a) } → (itB b s₂.heap s.heap.objs.size a 0 ∧ isB b s₂.heap a items) → (∀ c ∈ [s.heap.objs.size, a], c < s₂.heap.objs.size) → a ≠ s.heap.objs.size → Q (.ref s.heap.objs.size) s₂) :
    wpAny (model prog w) A (pyIter (.ref a)) Q E s := by
  obtain ⟨o, n, ho, hd⟩ := isB_obj hl
  have hlt : a < s.heap.objs.size := Heap.lt_size ho
  have hfree : (objB b a).isFreed = false := by cases b <;> rfl
  refine (begins_B b a items).iter prog w A E s Q hl (h _ rfl ⟨itB_new (Heap.get?_push_size _ hfree), isB_keep hl fun o e => Heap.get?_push_of_some _ e⟩ (fun c hc => ?_) (Nat.ne_of_lt hlt))
  show c < (s.heap.push _).objs.size
  rw [Heap.size_push]
  have hc' : c = s.heap.objs.size ∨ c = a := by simpa using hc
  rcases hc' with rfl | rfl
  · exact Nat.lt_succ_self _
  · exact Nat.lt_succ_of_lt hlt
theorem kept_B {o : Obj} {h' : Heap} (hk : ∀ b o', b ∉ [s.heap.objs.size] → (s.heap.push o).get? b = some o' → h'.get? b = some o') :
    ∀ b o', s.heap.get? b = some o' → h'.get? b = some o' := fun b o' e => by
  refine hk b o' (fun hm => ?_) (Heap.get?_push_of_some _ e)
  have e1 : b = s.heap.objs.size := by simpa using hm
  exact absurd (e1 ▸ Heap.lt_size e) (Nat.lt_irrefl _)
end
section
variable {X : Cx}
def rSumB (K : PySem.W.Frag) : List V → Hp → VK → Prop := fun vs H Q => ∃ (b : Bool) (a : Addr) (ns : List Int), vs = [V.ref a] ∧ sqB K b H a (ns.map V.int) ∧ Q (.int ns.sum) H
def rMaxB (K : PySem.W.Frag) : List V → Hp → VK → Prop := fun vs H Q => ∃ (b : Bool) (a : Addr) (ns : List Int), vs = [V.ref a] ∧ sqB K b H a (ns.map V.int) ∧ 0 < ns.length ∧ ∀ m, m ∈ ns → (∀ y, y ∈ ns → y ≤ m) → Q (.int m) H
def rMinB (K : PySem.W.Frag) : List V → Hp → VK → Prop := fun vs H Q => ∃ (b : Bool) (a : Addr) (ns : List Int), vs = [V.ref a] ∧ sqB K b H a (ns.map V.int) ∧ 0 < ns.length ∧ ∀ m, m ∈ ns → (∀ y, y ∈ ns → m ≤ y) → Q (.int m) H
def rAnyB (K : PySem.W.Frag) : List V → Hp → VK → Prop := fun vs H Q => ∃ (b : Bool) (a : Addr) (bs : List Bool), vs = [V.ref a] ∧ sqB K b H a (bs.map V.bl) ∧ Q (.bl (bs.any id)) H
def rAllB (K : PySem.W.Frag) : List V → Hp → VK → Prop := fun vs H Q => ∃ (b : Bool) (a : Addr) (bs : List Bool), vs = [V.ref a] ∧ sqB K b H a (bs.map V.bl) ∧ Q (.bl (bs.all id)) H
theorem cr_sumB (hc : X.calm = true) : CallR X (.builtin "sum") (rSumB X.K) := by
  intro pins s σ H vs us Q I r h
  obtain ⟨b, a, ns, rfl, hs, q⟩ := h
  obtain ⟨its, rv, hl, _⟩ := sqB_its I hs
  rw [Vals.ref1 r]
  have hi := rv.ints
  obtain ⟨xs, e⟩ := hi.allInts.items
  have hn : numsOf (intItems xs).toList = ns := by rw [← e]; exact hi.numsOf
  rw [nums_intItems] at hn
  rw [e] at hl
  refine call_sum_walkG (iter_B hl fun s₂ e2 st hfp hne => ?_)
  subst e2
  refine ⟨_, _, _, _, _, _, numAt xs, rfl, walks_B (A := X.A.in1) (I.ok.hd hc) b _ a hne (intItems xs), st, hfp, (fun _ _ => intItems_at), fun h' tk t' hk => ?_⟩
  have e3 : preSum (numAt xs) (intItems xs).size = ns.sum := by
    have : (intItems xs).size = xs.size := by simp [intItems]
    rw [this, preSum_eq, List.take_of_length_le (by simp), hn]
  rw [e3]
  exact ⟨.int _, H, I.kept (kept_B hk), ⟨_, rfl⟩, q⟩
theorem cr_maxB (hc : X.calm = true) : CallR X (.builtin "max") (rMaxB X.K) := by
  intro pins s σ H vs us Q I r h
  obtain ⟨b, a, ns, rfl, hs, hne0, q⟩ := h
  obtain ⟨its, rv, hl, _⟩ := sqB_its I hs
  rw [Vals.ref1 r]
  have hi := rv.ints
  obtain ⟨xs, e⟩ := hi.allInts.items
  have hn : numsOf (intItems xs).toList = ns := by rw [← e]; exact hi.numsOf
  rw [nums_intItems] at hn
  subst hn
  rw [e] at hl
  have hsz : 0 < xs.size := by simpa using hne0
  refine call_max_walk (iter_B hl fun s₂ e2 st hfp hne => ?_)
  subst e2
  refine ⟨_, _, _, _, _, _, _, rfl, walks_B (A := X.A.in1) (I.ok.hd hc) b _ a hne (intItems xs), st, hfp, by simpa [intItems] using hsz, CmpOf.ints_gt (numAt xs) (fun _ _ => intItems_at), fun v h' tk hP hk => ?_⟩
  obtain ⟨t, rfl⟩ := intItems_at hP
  have hz : (intItems xs).size = xs.size := by simp [intItems]
  rw [hz]
  obtain ⟨h1, h2⟩ := argBest_gt (numAt xs) (xs.size - 1)
  refine ⟨.int _, H, I.kept (kept_B hk), ⟨_, rfl⟩, q _ ?_ fun y hy => ?_⟩
  · rw [numAt_eq]; exact PySem.getD_mem (by rw [List.length_map, Array.length_toList]; omega)
  · obtain ⟨j, hj, rfl⟩ := mem_getD hy
    rw [List.length_map, Array.length_toList] at hj
    rw [← numAt_eq]; exact h2 j (by omega)
theorem cr_minB (hc : X.calm = true) : CallR X (.builtin "min") (rMinB X.K) := by
  intro pins s σ H vs us Q I r h
  obtain ⟨b, a, ns, rfl, hs, hne0, q⟩ := h
  obtain ⟨its, rv, hl, _⟩ := sqB_its I hs
  rw [Vals.ref1 r]
  have hi := rv.ints
  obtain ⟨xs, e⟩ := hi.allInts.items
  have hn : numsOf (intItems xs).toList = ns := by rw [← e]; exact hi.numsOf
  rw [nums_intItems] at hn
  subst hn
  rw [e] at hl
  have hsz : 0 < xs.size := by simpa using hne0
  refine call_min_walk (iter_B hl fun s₂ e2 st hfp hne => ?_)
  subst e2
  refine ⟨_, _, _, _, _, _, _, rfl, walks_B (A := X.A.in1) (I.ok.hd hc) b _ a hne (intItems xs), st, hfp, by simpa [intItems] using hsz, CmpOf.ints_lt (numAt xs) (fun _ _ => intItems_at), fun v h' tk hP hk => ?_⟩
  obtain ⟨t, rfl⟩ := intItems_at hP
  have hz : (intItems xs).size = xs.size := by simp [intItems]
  rw [hz]
  obtain ⟨h1, h2⟩ := argBest_lt (numAt xs) (xs.size - 1)
  refine ⟨.int _, H, I.kept (kept_B hk), ⟨_, rfl⟩, q _ ?_ fun y hy => ?_⟩
  · rw [numAt_eq]; exact PySem.getD_mem (by rw [List.length_map, Array.length_toList]; omega)
  · obtain ⟨j, hj, rfl⟩ := mem_getD hy
    rw [List.length_map, Array.length_toList] at hj
    rw [← numAt_eq]; exact h2 j (by omega)
theorem cr_anyB (hc : X.calm = true) : CallR X (.builtin "any") (rAnyB X.K) := by
  intro pins s σ H vs us Q I r h
  obtain ⟨b, a, bs, rfl, hs, q⟩ := h
  obtain ⟨its, rv, hl, _⟩ := sqB_its I hs
  rw [Vals.ref1 r]
  have hb := rv.bls
  refine call_any_walk (iter_B hl fun s₂ e2 st hfp hne => ?_)
  subst e2
  refine ⟨_, _, _, _, _, _, _, rfl, walks_B (A := X.A.in1) (I.ok.hd hc) b _ a hne its.toArray, st, truth_bools hb, fun h' tk hk => ?_⟩
  refine ⟨.bl _, H, I.kept (kept_B hk), ?_, q⟩
  show Value.bool _ = Value.bool _
  rw [← L2.any_range, hb, List.size_toArray, List.length_map]
theorem cr_allB (hc : X.calm = true) : CallR X (.builtin "all") (rAllB X.K) := by
  intro pins s σ H vs us Q I r h
  obtain ⟨b, a, bs, rfl, hs, q⟩ := h
  obtain ⟨its, rv, hl, _⟩ := sqB_its I hs
  rw [Vals.ref1 r]
  have hb := rv.bls
  refine call_all_walk (iter_B hl fun s₂ e2 st hfp hne => ?_)
  subst e2
  refine ⟨_, _, _, _, _, _, _, rfl, walks_B (A := X.A.in1) (I.ok.hd hc) b _ a hne its.toArray, st, truth_bools hb, fun h' tk hk => ?_⟩
  refine ⟨.bl _, H, I.kept (kept_B hk), ?_, q⟩
  show Value.bool _ = Value.bool _
  rw [← L2.all_range, hb, List.size_toArray, List.length_map]
end
/-! by values -/
def srcW : W → Option (List PyData)
  | .c (.list ds) => some ds
  | .c (.tuple ds) => some ds
  | .ks _ ds => some ds
  | _ => none
section
variable {K : PySem.W.Frag} {C H : Hp}
theorem src_ok {w : W} {v : V} {F : Foot} {ds : List PyData} (o : Own K C H w v F) (e : srcW w = some ds) : ∃ b a xs, v = .ref a ∧ sqB K b C a xs ∧ RepAll K C xs ds := by
  unfold srcW at e
  split at e
  · cases e
    obtain ⟨a, xs, rfl, h1, h2⟩ := rep_lst (own_c o)
    exact ⟨true, a, xs, rfl, .inl h1, h2⟩
  · cases e
    obtain ⟨a, xs, rfl, h1, h2⟩ := rep_tup (own_c o)
    exact ⟨false, a, xs, rfl, h1, h2⟩
  · cases e
    cases o with
    | ks h1 h2 n => exact ⟨_, _, _, rfl, h1, h2⟩
  · cases e
end
def boolsD : List PyData → Option (List Bool)
  | [] => some []
  | .bool b :: r => (boolsD r).map (b :: ·)
  | _ :: _ => none
theorem boolsD_map : ∀ bs : List Bool, boolsD (bs.map .bool) = some bs
  | [] => rfl
  | b :: r => by rw [List.map_cons, boolsD, boolsD_map r]; rfl
theorem rep_intsV {K : PySem.W.Frag} {C : Hp} : ∀ {xs : List V} {ns : List Int}, RepAll K C xs (ns.map .int) → xs = ns.map V.int
  | _, [], .nil => rfl
  | _, n :: ns, .cons r t => by
    rw [List.map_cons, rep_int r, rep_intsV t]
theorem rep_bools {K : PySem.W.Frag} {C : Hp} : ∀ {xs : List V} {ds : List PyData} {bs : List Bool}, RepAll K C xs ds → boolsD ds = some bs → xs = bs.map V.bl
  | _, _, _, .nil, e => by simp only [boolsD, Option.some.injEq] at e; subst e; rfl
  | _, _, bs, .cons (d := d) (ds := ds) r t, e => by
    unfold boolsD at e
    split at e
    · rename_i h; cases h
    · rename_i b r' h
      cases h
      cases e2 : boolsD ds with
      | none => rw [e2] at e; cases e
      | some bs' =>
        rw [e2] at e
        simp only [Option.map_some, Option.some.injEq] at e
        subst e
        rw [List.map_cons, rep_bl r, rep_bools t e2]
    · cases e
def maxI : List Int → Option Int
  | [] => none
  | x :: r => some (r.foldl max x)
def minI : List Int → Option Int
  | [] => none
  | x :: r => some (r.foldl min x)
theorem foldl_max : ∀ (r : List Int) (x : Int), (r.foldl max x = x ∨ r.foldl max x ∈ r) ∧ x ≤ r.foldl max x ∧ ∀ y ∈ r, y ≤ r.foldl max x
  | [], x => ⟨.inl rfl, Int.le_refl _, by simp⟩
  | a :: r, x => by
    obtain ⟨h1, h2, h3⟩ := foldl_max r (max x a)
    refine ⟨?_, by simp only [List.foldl_cons]; omega, fun y hy => ?_⟩
    · simp only [List.foldl_cons]
      rcases h1 with h | h
      · rw [h]
        rcases Int.le_total x a with q | q
        · exact .inr (by rw [Int.max_eq_right q]; exact List.mem_cons_self)
        · exact .inl (by rw [Int.max_eq_left q])
      · exact .inr (List.mem_cons_of_mem _ h)
    · rcases List.mem_cons.mp hy with rfl | hy
      · simp only [List.foldl_cons]; omega
      · exact h3 y hy
theorem foldl_min : ∀ (r : List Int) (x : Int), (r.foldl min x = x ∨ r.foldl min x ∈ r) ∧ r.foldl min x ≤ x ∧ ∀ y ∈ r, r.foldl min x ≤ y
  | [], x => ⟨.inl rfl, Int.le_refl _, by simp⟩
  | a :: r, x => by
    obtain ⟨h1, h2, h3⟩ := foldl_min r (min x a)
    refine ⟨?_, by simp only [List.foldl_cons]; omega, fun y hy => ?_⟩
    · simp only [List.foldl_cons]
      rcases h1 with h | h
      · rw [h]
        rcases Int.le_total x a with q | q
        · exact .inl (by rw [Int.min_eq_left q])
        · exact .inr (by rw [Int.min_eq_right q]; exact List.mem_cons_self)
      · exact .inr (List.mem_cons_of_mem _ h)
    · rcases List.mem_cons.mp hy with rfl | hy
      · simp only [List.foldl_cons]; omega
      · exact h3 y hy
theorem maxI_eq {ns : List Int} {m k : Int} (e : maxI ns = some k) (h1 : m ∈ ns) (h2 : ∀ y ∈ ns, y ≤ m) : m = k := by
  cases ns with
  | nil => cases h1
  | cons x r =>
    simp only [maxI, Option.some.injEq] at e
    subst e
    obtain ⟨a, b, c⟩ := foldl_max r x
    have u : m ≤ r.foldl max x := by
      rcases List.mem_cons.mp h1 with rfl | h
      · exact b
      · exact c m h
    have l : r.foldl max x ≤ m := by
      rcases a with h | h
      · rw [h]; exact h2 x List.mem_cons_self
      · exact h2 _ (List.mem_cons_of_mem _ h)
    omega
theorem minI_eq {ns : List Int} {m k : Int} (e : minI ns = some k) (h1 : m ∈ ns) (h2 : ∀ y ∈ ns, m ≤ y) : m = k := by
  cases ns with
  | nil => cases h1
  | cons x r =>
    simp only [minI, Option.some.injEq] at e
    subst e
    obtain ⟨a, b, c⟩ := foldl_min r x
    have u : r.foldl min x ≤ m := by
      rcases List.mem_cons.mp h1 with rfl | h
      · exact b
      · exact c m h
    have l : m ≤ r.foldl min x := by
      rcases a with h | h
      · rw [h]; exact h2 x List.mem_cons_self
      · exact h2 _ (List.mem_cons_of_mem _ h)
    omega
/-- a built-in of one walked operand -/
def walkF (g : List PyData → Option PyData) (w : W) : Option W := (srcW w).bind fun ds => (g ds).map .c
def sumG (ds : List PyData) : Option PyData := (intsD ds).map fun ns => .int ns.sum
def maxG (ds : List PyData) : Option PyData := (intsD ds).bind fun ns => (maxI ns).map .int
def minG (ds : List PyData) : Option PyData := (intsD ds).bind fun ns => (minI ns).map .int
def anyG (ds : List PyData) : Option PyData := (boolsD ds).map fun bs => .bool (bs.any id)
def allG (ds : List PyData) : Option PyData := (boolsD ds).map fun bs => .bool (bs.all id)
section
variable {K : PySem.W.Frag}
theorem walkF_eq {g : List PyData → Option PyData} {w w' : W} (e : walkF g w = some w') : ∃ ds d, srcW w = some ds ∧ g ds = some d ∧ w' = .c d := by
  unfold walkF at e
  cases h : srcW w with
  | none => rw [h] at e; cases e
  | some ds =>
    rw [h] at e
    simp only [Option.bind_some] at e
    cases h2 : g ds with
    | none => rw [h2] at e; cases e
    | some d =>
      rw [h2] at e
      simp only [Option.map_some, Option.some.injEq] at e
      exact ⟨ds, d, rfl, h2, e.symm⟩
theorem walk_ok {g : List PyData → Option PyData} {r : List V → Hp → VK → Prop} (h : ∀ {C H : Hp} {b : Bool} {a : Addr} {xs : List V} {ds : List PyData} {d : PyData} {Q : VK}, Same C H → sqB K b H a xs → RepAll K C xs ds → g ds = some d → (∀ v, Rep K C v d → Q v H) → r [.ref a] H Q) : PrimOk K r (P1 (walkF g)) := fun C H ws vs w Q s o e q => by
  unfold P1 at e
  split at e
  · rename_i w1
    obtain ⟨v, F, rfl, o1⟩ := ownL1 o
    obtain ⟨ds, d, h1, h2, rfl⟩ := walkF_eq e
    obtain ⟨b, a, xs, rfl, h3, h4⟩ := src_ok o1 h1
    exact h s (sqB_mono s h3) h4 h2 fun v r => end_sc s q r
  · cases e
theorem sum_ok : PrimOk K (rSumB K) (P1 (walkF sumG)) := walk_ok fun {C H b a xs ds d Q} s h1 h2 h3 q => by
  unfold sumG at h3
  cases e : intsD ds with
  | none => rw [e] at h3; cases h3
  | some ns =>
    rw [e] at h3
    simp only [Option.map_some, Option.some.injEq] at h3
    subst h3
    rw [intsD_eq e] at h2
    rw [rep_intsV h2] at h1
    exact ⟨b, a, ns, rfl, h1, q _ (.int _)⟩
theorem max_ok : PrimOk K (rMaxB K) (P1 (walkF maxG)) := walk_ok fun {C H b a xs ds d Q} s h1 h2 h3 q => by
  unfold maxG at h3
  cases e : intsD ds with
  | none => rw [e] at h3; cases h3
  | some ns =>
    rw [e] at h3
    simp only [Option.bind_some] at h3
    cases e2 : maxI ns with
    | none => rw [e2] at h3; cases h3
    | some k =>
      rw [e2] at h3
      simp only [Option.map_some, Option.some.injEq] at h3
      subst h3
      rw [intsD_eq e] at h2
      rw [rep_intsV h2] at h1
      refine ⟨b, a, ns, rfl, h1, ?_, fun m i1 i2 => ?_⟩
      · cases ns with
        | nil => cases e2
        | cons _ _ => exact Nat.succ_pos _
      · rw [maxI_eq e2 i1 i2]; exact q _ (.int _)
theorem min_ok : PrimOk K (rMinB K) (P1 (walkF minG)) := walk_ok fun {C H b a xs ds d Q} s h1 h2 h3 q => by
  unfold minG at h3
  cases e : intsD ds with
  | none => rw [e] at h3; cases h3
  | some ns =>
    rw [e] at h3
    simp only [Option.bind_some] at h3
    cases e2 : minI ns with
    | none => rw [e2] at h3; cases h3
    | some k =>
      rw [e2] at h3
      simp only [Option.map_some, Option.some.injEq] at h3
      subst h3
      rw [intsD_eq e] at h2
      rw [rep_intsV h2] at h1
      refine ⟨b, a, ns, rfl, h1, ?_, fun m i1 i2 => ?_⟩
      · cases ns with
        | nil => cases e2
        | cons _ _ => exact Nat.succ_pos _
      · rw [minI_eq e2 i1 i2]; exact q _ (.int _)
theorem any_ok : PrimOk K (rAnyB K) (P1 (walkF anyG)) := walk_ok fun {C H b a xs ds d Q} s h1 h2 h3 q => by
  unfold anyG at h3
  cases e : boolsD ds with
  | none => rw [e] at h3; cases h3
  | some bs =>
    rw [e] at h3
    simp only [Option.map_some, Option.some.injEq] at h3
    subst h3
    rw [rep_bools h2 e] at h1
    exact ⟨b, a, bs, rfl, h1, q _ (.bl _)⟩
theorem all_ok : PrimOk K (rAllB K) (P1 (walkF allG)) := walk_ok fun {C H b a xs ds d Q} s h1 h2 h3 q => by
  unfold allG at h3
  cases e : boolsD ds with
  | none => rw [e] at h3; cases h3
  | some bs =>
    rw [e] at h3
    simp only [Option.map_some, Option.some.injEq] at h3
    subst h3
    rw [rep_bools h2 e] at h1
    exact ⟨b, a, bs, rfl, h1, q _ (.bl _)⟩
end
section
variable {X : Cx} {Wx : WX} {io : List Nat} {v0 : L2.St} {e tg : Expr} {p pos tpos : Pos} {f f2 f3 : Env → R W} {elts : List Expr} {kk : Nat}
theorem va_one (h : VE X Wx io v0 e f) (hs : starEach [e] X.env = (false, eval e X.env) :: starEach [] X.env := by rfl) : VA X Wx io v0 [e] [.val f] := va_cons (vo_val h) va_nil hs
/-- g(e), the operand frozen -/
def walkE (g : List PyData → Option PyData) (f : Env → R W) : Env → R W := prim (P1 (walkF g)) [.val (frzE f)]
theorem ve_sum (hc : X.calm = true) (h : VE X Wx io v0 e f) (hg : Gl X "sum" := by rfl) (hm : X.mg "sum" = none := by rfl) (he : starEach [e] X.env = (false, eval e X.env) :: starEach [] X.env := by rfl) (hpl : (backTo pos (starEach [] X.env)).any (·.1) = false := by rfl) : VE X Wx io v0 (.Call (.Name "sum" p) [e] [] pos) (walkE sumG f) :=
  ve_callB (cr_sumB hc) sum_ok hg hm rfl (va_one (ve_frz h) he) (he := he) (hpl := hpl)
theorem ve_max1 (hc : X.calm = true) (h : VE X Wx io v0 e f) (hg : Gl X "max" := by rfl) (hm : X.mg "max" = none := by rfl) (he : starEach [e] X.env = (false, eval e X.env) :: starEach [] X.env := by rfl) (hpl : (backTo pos (starEach [] X.env)).any (·.1) = false := by rfl) : VE X Wx io v0 (.Call (.Name "max" p) [e] [] pos) (walkE maxG f) :=
  ve_callB (cr_maxB hc) max_ok hg hm rfl (va_one (ve_frz h) he) (he := he) (hpl := hpl)
theorem ve_min1 (hc : X.calm = true) (h : VE X Wx io v0 e f) (hg : Gl X "min" := by rfl) (hm : X.mg "min" = none := by rfl) (he : starEach [e] X.env = (false, eval e X.env) :: starEach [] X.env := by rfl) (hpl : (backTo pos (starEach [] X.env)).any (·.1) = false := by rfl) : VE X Wx io v0 (.Call (.Name "min" p) [e] [] pos) (walkE minG f) :=
  ve_callB (cr_minB hc) min_ok hg hm rfl (va_one (ve_frz h) he) (he := he) (hpl := hpl)
theorem ve_any (hc : X.calm = true) (h : VE X Wx io v0 e f) (hg : Gl X "any" := by rfl) (hm : X.mg "any" = none := by rfl) (he : starEach [e] X.env = (false, eval e X.env) :: starEach [] X.env := by rfl) (hpl : (backTo pos (starEach [] X.env)).any (·.1) = false := by rfl) : VE X Wx io v0 (.Call (.Name "any" p) [e] [] pos) (walkE anyG f) :=
  ve_callB (cr_anyB hc) any_ok hg hm rfl (va_one (ve_frz h) he) (he := he) (hpl := hpl)
theorem ve_all (hc : X.calm = true) (h : VE X Wx io v0 e f) (hg : Gl X "all" := by rfl) (hm : X.mg "all" = none := by rfl) (he : starEach [e] X.env = (false, eval e X.env) :: starEach [] X.env := by rfl) (hpl : (backTo pos (starEach [] X.env)).any (·.1) = false := by rfl) : VE X Wx io v0 (.Call (.Name "all" p) [e] [] pos) (walkE allG f) :=
  ve_callB (cr_allB hc) all_ok hg hm rfl (va_one (ve_frz h) he) (he := he) (hpl := hpl)
/-! enumerate, zip -/
def enD (ds : List PyData) : List PyData := ds.zipIdx.map fun p => .tuple [.int (p.2 : Nat), p.1]
def zipD2 (a b : List PyData) : List PyData := (a.zip b).map fun p => .tuple [p.1, p.2]
def zipD3 (a b c : List PyData) : List PyData := (a.zip (b.zip c)).map fun p => .tuple [p.1, p.2.1, p.2.2]
def en1 : List W → Option (List PyData)
  | [w] => (srcW w).map enD
  | _ => none
def z2 : List W → Option (List PyData)
  | [w1, w2] => (match srcW w1, srcW w2 with
    | some a, some b => some (zipD2 a b)
    | _, _ => none)
  | _ => none
def z3 : List W → Option (List PyData)
  | [w1, w2, w3] => (match srcW w1, srcW w2, srcW w3 with
    | some a, some b, some c => some (zipD3 a b c)
    | _, _, _ => none)
  | _ => none
/-- a new tuple is laid in the cold heap -/
theorem lay_tup {K : PySem.W.Frag} {C H : Hp} {xs : List V} {ds : List PyData} (s : Same C H) (r : RepAll K C xs ds) {T : Addr} (h : H T = none) :
    ∃ C3, Step C H Foot.none C3 (upd H T (.tup xs)) ∧ Same C3 (upd H T (.tup xs)) ∧ Rep K C3 (.ref T) (.tuple ds) := by
  have hc := free_sub s h
  have s1 : Same C (upd C T (.tup xs)) := fun b x e => by rw [upd_ne (ne_of_none e hc)]; exact e
  refine ⟨upd C T (.tup xs), ⟨s1, fun a o e _ => by rw [upd_ne (ne_of_none e h)]; exact e, fun a z => ?_⟩, fun b x e => ?_, .tup upd_same (r.mono s1)⟩
  · by_cases ha : a = T
    · subst ha; exact .inr (.inr h)
    · rw [upd_ne ha] at z; exact .inl z
  · by_cases hb : b = T
    · subst hb; rw [upd_same] at e ⊢; exact e
    · rw [upd_ne hb] at e ⊢; exact s b x e
theorem itok_en {K : PySem.W.Frag} {C : Hp} {b : Bool} {a : Addr} {xs : List V} {ds : List PyData} (h : sqB K b C a xs) (t : RepAll K C xs ds) : ItOk K C (ItEn K b a) (enD ds) where
  go := fun i H s hi => by
    have hi' : i < ds.length := by simpa [enD] using hi
    obtain ⟨x, h1, h2⟩ := t.get' (i := i) (d := ds[i]) (by simp [hi'])
    exact ⟨xs, x, sqB_mono s h, h1⟩
  stop := fun H s => ⟨xs, sqB_mono s h, by rw [t.length]; simp [enD]⟩
  yld := fun i H x H' C2 s1 s2 hi y => by
    obtain ⟨T, x1, rfl, hT, rfl, y⟩ := y
    obtain ⟨d, h1, h2⟩ := t.get (y xs (sqB_mono (s1.trans s2) h))
    obtain ⟨C3, q1, q2, q3⟩ := lay_tup (xs := [.int (i : Nat), x1]) (ds := [.int (i : Nat), d]) s2 (.cons (.int _) (.cons (h2.mono s1) .nil)) hT
    exact ⟨C3, _, by unfold enD; rw [List.getElem?_map, List.getElem?_zipIdx, h1]; simp, q1, q2, q3⟩
theorem itok_z2 {K : PySem.W.Frag} {C : Hp} {b1 b2 : Bool} {a1 a2 : Addr} {xs ys : List V} {ds es : List PyData} (h1 : sqB K b1 C a1 xs) (h2 : sqB K b2 C a2 ys) (t1 : RepAll K C xs ds) (t2 : RepAll K C ys es) : ItOk K C (ItZ2 K b1 b2 a1 a2) (zipD2 ds es) where
  go := fun i H s hi => by
    have hi' : i < ds.length ∧ i < es.length := by simp [zipD2] at hi; omega
    obtain ⟨x, u1, _⟩ := t1.get' (i := i) (d := ds[i]'hi'.1) (by simp [hi'.1])
    obtain ⟨y, u2, _⟩ := t2.get' (i := i) (d := es[i]'hi'.2) (by simp [hi'.2])
    exact ⟨xs, ys, x, y, sqB_mono s h1, sqB_mono s h2, u1, u2⟩
  stop := fun H s => ⟨xs, ys, sqB_mono s h1, sqB_mono s h2, by rw [t1.length, t2.length]; simp [zipD2]⟩
  yld := fun i H x H' C2 s1 s2 hi y => by
    obtain ⟨T, x1, x2, rfl, hT, rfl, y1, y2⟩ := y
    obtain ⟨d, k1, r1⟩ := t1.get (y1 xs (sqB_mono (s1.trans s2) h1))
    obtain ⟨d2, k2, r2⟩ := t2.get (y2 ys (sqB_mono (s1.trans s2) h2))
    obtain ⟨C3, q1, q2, q3⟩ := lay_tup (xs := [x1, x2]) (ds := [d, d2]) s2 (.cons (r1.mono s1) (.cons (r2.mono s1) .nil)) hT
    exact ⟨C3, _, by unfold zipD2; rw [List.getElem?_map, List.getElem?_zip_eq_some (z := (d, d2)) |>.mpr ⟨k1, k2⟩]; rfl, q1, q2, q3⟩
theorem itok_z3 {K : PySem.W.Frag} {C : Hp} {b1 b2 b3 : Bool} {a1 a2 a3 : Addr} {xs ys zs : List V} {ds es fs : List PyData} (h1 : sqB K b1 C a1 xs) (h2 : sqB K b2 C a2 ys) (h3 : sqB K b3 C a3 zs) (t1 : RepAll K C xs ds) (t2 : RepAll K C ys es) (t3 : RepAll K C zs fs) : ItOk K C (ItZ3 K b1 b2 b3 a1 a2 a3) (zipD3 ds es fs) where
  go := fun i H s hi => by
    have hi' : i < ds.length ∧ i < es.length ∧ i < fs.length := by simp [zipD3] at hi; omega
    obtain ⟨x, u1, _⟩ := t1.get' (i := i) (d := ds[i]'hi'.1) (by simp [hi'.1])
    obtain ⟨y, u2, _⟩ := t2.get' (i := i) (d := es[i]'hi'.2.1) (by simp [hi'.2.1])
    obtain ⟨z, u3, _⟩ := t3.get' (i := i) (d := fs[i]'hi'.2.2) (by simp [hi'.2.2])
    exact ⟨xs, ys, zs, x, y, z, sqB_mono s h1, sqB_mono s h2, sqB_mono s h3, u1, u2, u3⟩
  stop := fun H s => ⟨xs, ys, zs, sqB_mono s h1, sqB_mono s h2, sqB_mono s h3, by rw [t1.length, t2.length, t3.length]; simp [zipD3, Nat.min_assoc]⟩
  yld := fun i H x H' C2 s1 s2 hi y => by
    obtain ⟨T, x1, x2, x3, rfl, hT, rfl, y1, y2, y3⟩ := y
    obtain ⟨d, k1, r1⟩ := t1.get (y1 xs (sqB_mono (s1.trans s2) h1))
    obtain ⟨d2, k2, r2⟩ := t2.get (y2 ys (sqB_mono (s1.trans s2) h2))
    obtain ⟨d3, k3, r3⟩ := t3.get (y3 zs (sqB_mono (s1.trans s2) h3))
    obtain ⟨C3, q1, q2, q3⟩ := lay_tup (xs := [x1, x2, x3]) (ds := [d, d2, d3]) s2 (.cons (r1.mono s1) (.cons (r2.mono s1) (.cons (r3.mono s1) .nil))) hT
    exact ⟨C3, _, by unfold zipD3; rw [List.getElem?_map, (List.getElem?_zip_eq_some (z := (d, d2, d3))).mpr ⟨k1, (List.getElem?_zip_eq_some (z := (d2, d3))).mpr ⟨k2, k3⟩⟩]; rfl, q1, q2, q3⟩
theorem vi_enumO {oa : Opd} (h : VO X Wx io v0 e oa) (hg : Gl X "enumerate" := by rfl) (hm : X.mg "enumerate" = none := by rfl) (hs : starEach [e] X.env = [(false, eval e X.env)] := by rfl) :
    VI X Wx io v0 (.Tuple elts kk tpos) (.Call (.Name "enumerate" p) [e] [] pos) (rngI en1 [oa]) :=
  pi_mono (pi_enA hg hm (va_cons h va_nil hs) hs) fun σ H R q => rng_of q fun C H ws vs ds s o e k => by
    unfold en1 at e
    split at e
    · rename_i w
      obtain ⟨v, F, rfl, o1⟩ := ownL1 o
      cases h : srcW w with
      | none => rw [h] at e; cases e
      | some ds0 =>
        rw [h] at e
        simp only [Option.map_some, Option.some.injEq] at e
        subst e
        obtain ⟨b, a, xs, rfl, h1, h2⟩ := src_ok o1 h
        exact ⟨a, b, xs, rfl, sqB_mono s h1, k _ (itok_en h1 h2)⟩
    · cases e
theorem vi_enum (h : VE X Wx io v0 e f) (hg : Gl X "enumerate" := by rfl) (hm : X.mg "enumerate" = none := by rfl) (hs : starEach [e] X.env = [(false, eval e X.env)] := by rfl) :
    VI X Wx io v0 (.Tuple elts kk tpos) (.Call (.Name "enumerate" p) [e] [] pos) (rngI en1 [.val (frzE f)]) := vi_enumO (vo_val (ve_frz h)) hg hm hs
theorem vi_zip2 {e2 : Expr} (h : VE X Wx io v0 e f) (h2 : VE X Wx io v0 e2 f2) (hg : Gl X "zip" := by rfl) (hm : X.mg "zip" = none := by rfl)
    (hs : starEach [e, e2] X.env = (false, eval e X.env) :: starEach [e2] X.env := by rfl) (hs2 : starEach [e2] X.env = (false, eval e2 X.env) :: starEach [] X.env := by rfl) (hpl : (backTo pos (starEach [e2] X.env)).any (·.1) = false := by rfl) :
    VI X Wx io v0 (.Tuple elts kk tpos) (.Call (.Name "zip" p) [e, e2] [] pos) (rngI z2 [.val (frzE f), .val (frzE f2)]) :=
  pi_mono (pi_z2A hg hm (va_cons (vo_val (ve_frz h)) (va_one (ve_frz h2) hs2) hs) hs hpl) fun σ H R q => rng_of q fun C H ws vs ds s o e k => by
    unfold z2 at e
    split at e
    · rename_i w1 w2
      obtain ⟨v, u, F, G, rfl, o1, o2⟩ := ownL2 o
      cases h : srcW w1 with
      | none => simp only [h] at e; cases e
      | some d1 =>
        cases h' : srcW w2 with
        | none => simp only [h, h'] at e; cases e
        | some d2 =>
          simp only [h, h', Option.some.injEq] at e
          subst e
          obtain ⟨b, a, xs, rfl, k1, k2⟩ := src_ok o1 h
          obtain ⟨b', a', xs', rfl, k3, k4⟩ := src_ok o2 h'
          exact ⟨a, a', b, b', xs, xs', rfl, sqB_mono s k1, sqB_mono s k3, k _ (itok_z2 k1 k3 k2 k4)⟩
    · cases e
theorem vi_zip3 {e2 e3 : Expr} (h : VE X Wx io v0 e f) (h2 : VE X Wx io v0 e2 f2) (h3 : VE X Wx io v0 e3 f3) (hg : Gl X "zip" := by rfl) (hm : X.mg "zip" = none := by rfl)
    (hs : starEach [e, e2, e3] X.env = (false, eval e X.env) :: starEach [e2, e3] X.env := by rfl) (hs2 : starEach [e2, e3] X.env = (false, eval e2 X.env) :: starEach [e3] X.env := by rfl) (hs3 : starEach [e3] X.env = (false, eval e3 X.env) :: starEach [] X.env := by rfl) (hpl : (backTo pos (starEach [e2, e3] X.env)).any (·.1) = false := by rfl) :
    VI X Wx io v0 (.Tuple elts kk tpos) (.Call (.Name "zip" p) [e, e2, e3] [] pos) (rngI z3 [.val (frzE f), .val (frzE f2), .val (frzE f3)]) :=
  pi_mono (pi_z3A hg hm (va_cons (vo_val (ve_frz h)) (va_cons (vo_val (ve_frz h2)) (va_one (ve_frz h3) hs3) hs2) hs) hs hpl) fun σ H R q => rng_of q fun C H ws vs ds s o e k => by
    unfold z3 at e
    split at e
    · rename_i w1 w2 w3
      obtain ⟨v, u, t, F, G, J, rfl, o1, o2, o3⟩ := ownL3 o
      cases h : srcW w1 with
      | none => simp only [h] at e; cases e
      | some d1 =>
        cases h' : srcW w2 with
        | none => simp only [h, h'] at e; cases e
        | some d2 =>
          cases h'' : srcW w3 with
          | none => simp only [h, h', h''] at e; cases e
          | some d3 =>
            simp only [h, h', h'', Option.some.injEq] at e
            subst e
            obtain ⟨b, a, xs, rfl, k1, k2⟩ := src_ok o1 h
            obtain ⟨b', a', xs', rfl, k3, k4⟩ := src_ok o2 h'
            obtain ⟨b'', a'', xs'', rfl, k5, k6⟩ := src_ok o3 h''
            exact ⟨a, a', a'', b, b', b'', xs, xs', xs'', rfl, sqB_mono s k1, sqB_mono s k3, sqB_mono s k5, k _ (itok_z3 k1 k3 k5 k2 k4 k6)⟩
    · cases e
end
end VL
set_option maxHeartbeats 4000000
namespace VL
open PySem PySem.Spec PyProof.Rows L2
/-! ### isinstance(x, T), T a built-in type -/
def kindD : PyData → String
  | .none => "NoneType"
  | .bool _ => "bool"
  | .int _ => "int"
  | .str _ => "str"
  | .list _ => "list"
  | .tuple _ => "tuple"
  | .dict _ => "dict"
def kindW : W → String
  | .c d => kindD d
  | .l _ => "list"
  | .dk _ => "dict"
  | .dt _ => "dict"
  | .x _ _ _ => "x"
  | .ks _ _ => "tuple"
def isTy (T k : String) : Bool := k == T || (k == "bool" && T == "int")
def isPl : W → Bool
  | .x _ _ _ => false
  | .ks _ _ => false
  | _ => true
def isiF (T : String) (w : W) : Option W := if isPl w = true then some (.c (.bool (isTy T (kindW w)))) else none
theorem rd_cases {H : Hp} {a : Addr} {u : HO} (h : Rd H a u) : H a = some u ∨ ∃ o, H a = some (.frz o u) := h
theorem own_ty {K : PySem.W.Frag} {C H : Hp} {w : W} {v : V} {F : Foot} (o : Own K C H w v F) (s : Same C H) (pl : isPl w = true) : TyX K H v (.type (kindW w)) := by
  cases o with
  | x _ _ => cases pl
  | ks _ _ _ => cases pl
  | c r _ =>
    cases r with
    | non => exact .base .non
    | bl b => exact .base (.bl b)
    | int i => exact .base (.int i)
    | str x => exact .base (.str x)
    | lst a _ =>
      rcases rd_cases (same_rd s a) with h | ⟨o, h⟩
      · exact .base (.lst h)
      · exact .base (.frz h)
    | tup a _ => exact .base (.tup (s _ _ a))
    | dct _ a _ =>
      rcases rd_cases (same_rd s a) with h | ⟨o, h⟩
      · exact .base (.dK h)
      · exact .fDict h
  | l a _ _ _ _ => exact .base (.lst a)
  | dk a _ _ _ _ _ => exact .base (.dK a)
  | dt a _ _ _ _ _ => exact .base (.dT a)
theorem kind_mem : ∀ w : W, isPl w = true → kindW w ∈ ["NoneType", "bool", "int", "str", "list", "tuple", "dict"]
  | .c .none, _ => by decide
  | .c (.bool _), _ => by show "bool" ∈ _; decide
  | .c (.int _), _ => by show "int" ∈ _; decide
  | .c (.str _), _ => by show "str" ∈ _; decide
  | .c (.list _), _ => by show "list" ∈ _; decide
  | .c (.tuple _), _ => by show "tuple" ∈ _; decide
  | .c (.dict _), _ => by show "dict" ∈ _; decide
  | .l _, _ => by show "list" ∈ _; decide
  | .dk _, _ => by show "dict" ∈ _; decide
  | .dt _, _ => by show "dict" ∈ _; decide
  | .x _ _ _, h => by cases h
  | .ks _ _, h => by cases h
def KitTy (T : String) : Prop := ∀ k ∈ ["NoneType", "bool", "int", "str", "list", "tuple", "dict"], kitB k T = some (isTy T k)
theorem kt_int : KitTy "int" := by unfold KitTy; decide +kernel
theorem kt_bool : KitTy "bool" := by unfold KitTy; decide +kernel
theorem kt_str : KitTy "str" := by unfold KitTy; decide +kernel
theorem kt_tuple : KitTy "tuple" := by unfold KitTy; decide +kernel
theorem kt_list : KitTy "list" := by unfold KitTy; decide +kernel
theorem kt_dict : KitTy "dict" := by unfold KitTy; decide +kernel
theorem isi_ok {K : PySem.W.Frag} {T : String} (kt : KitTy T) : PrimOk K (fun vs H Q => ∃ x, vs = [x] ∧ rIsi K [x, .ty T] H Q) (P1 (isiF T)) := fun C H ws vs w Q s o e q => by
  unfold P1 at e
  split at e
  · rename_i w1
    obtain ⟨v, F, rfl, o1⟩ := ownL1 o
    unfold isiF at e
    split at e
    rotate_left
    · cases e
    rename_i pl
    simp only [Option.some.injEq] at e
    subst e
    exact ⟨v, rfl, v, .ty T, .type (kindW w1), .type T, _, rfl, .ty T, own_ty o1 s pl, kit_ty (kt _ (kind_mem w1 pl)), end_sc s q (.bl _)⟩
  · cases e
section
variable {X : Cx} {Wx : WX} {io : List Nat} {v0 : L2.St} {e tg : Expr} {p p2 pos tpos : Pos} {f f2 f3 : Env → R W} {oa : Opd}
theorem ve_isi {T : String} {t : Str} (kt : KitTy T) (h : VO X Wx io v0 e oa) (hv : bootBuiltins t = some (.type T)) (hg : Gl X "isinstance" := by rfl) (hm : X.mg "isinstance" = none := by rfl) (hgt : Gl X t := by rfl) (hmt : X.mg t = none := by rfl)
    (hnt : t ≠ "__name__" := by decide) (hdt : (t == ("__debug__" : Str)) = false := by decide)
    (he : starEach [e, .Name t p2] X.env = (false, eval e X.env) :: starEach [.Name t p2] X.env := by rfl) (he2 : starEach [.Name t p2] X.env = (false, eval (.Name t p2) X.env) :: starEach [] X.env := by rfl) (hpl : (backTo pos (starEach [.Name t p2] X.env)).any (·.1) = false := by rfl) :
    VE X Wx io v0 (.Call (.Name "isinstance" p) [e, .Name t p2] [] pos) (prim (P1 (isiF T)) [oa]) := by
  refine pe_mono (pe_callB call_isi hg hm rfl (pa_cons h (pa_cons (pe_bltn hgt hmt hv (show RelV (.ty T) (.type T) from rfl) hnt hdt) pa_nil he2) he) (he := he) (hpl := hpl)) fun σ H Q q => ?_
  have h1 := tAs_cons (prim_of (isi_ok kt) q)
  refine tO_mono (fun x H1 q2 => ?_) h1
  obtain ⟨x', e, r⟩ := tAs_nil q2
  cases e
  exact r
end
end VL
set_option maxHeartbeats 4000000
namespace VL
open PySem PySem.Spec PyProof.Rows L2
/-! ### {k: v, ..} -/
def pairW : List W → Option (List (Key × W))
  | [] => some []
  | .c d :: w :: r => (match keyOf d, pairW r with
    | some k, some kws => some ((k, w) :: kws)
    | _, _ => none)
  | _ => none
def dispE (os : List Opd) : Env → R W := fun ρ => (evs os ρ).bind fun ts ρ' => match wsV ts with
  | some ws => (match pairW ws with
    | some kws => if (kws.map (·.1)).Nodup ∧ kws.length ≤ 15 then .ok (.dk kws) ρ' else .stuck
    | none => .stuck)
  | none => .stuck
theorem own_pairs {K : PySem.W.Frag} {C H : Hp} : ∀ {ws : List W} {kws : List (Key × W)} {vs : List V} {G : Foot}, OwnAll K C H ws vs G → pairW ws = some kws →
    ∃ kvs : List (Key × V), (∀ (f : V → V → V × V), True) ∧ vs = (kvs.map fun kv => [kV kv.1, kv.2]).flatten ∧ kvs.map (·.1) = kws.map (·.1) ∧ ∃ G', OwnAll K C H (kws.map (·.2)) (kvs.map (·.2)) G' ∧ ∀ a, G' a → G a
  | [], kws, _, G, .nil n, e => by
    simp only [pairW, Option.some.injEq] at e
    subst e
    exact ⟨[], fun _ => trivial, rfl, rfl, G, .nil n, fun _ z => z⟩
  | [w], _, _, _, _, e => by cases w <;> simp [pairW] at e
  | w1 :: w2 :: r, kws, _, G, .cons (v := v1) (G := G1) (G' := G2) o1 (.cons (v := v2) (G := G3) (G' := G4) o2 t d2 q2) d1 q1, e => by
    cases w1 with
    | c d =>
      unfold pairW at e
      cases e1 : keyOf d with
      | none => rw [e1] at e; cases e
      | some k =>
        cases e2 : pairW r with
        | none => rw [e1, e2] at e; cases e
        | some kws' =>
          rw [e1, e2] at e
          simp only [Option.some.injEq] at e
          subst e
          obtain ⟨kvs, _, h1, h2, G', h3, h4⟩ := own_pairs t e2
          obtain rfl := rep_key (own_c o1) e1
          refine ⟨(k, v2) :: kvs, fun _ => trivial, by rw [h1]; rfl, by simp [h2], Foot.or G3 G', .cons o2 h3 (fun a x y => d2 a x (h4 a y)) fun a => Iff.rfl, fun a z => (q1 a).mpr (.inr ((q2 a).mpr (z.imp id (h4 a))))⟩
    | _ => simp [pairW] at e
def unpair : List V → List (V × V)
  | x :: y :: r => (x, y) :: unpair r
  | _ => []
theorem unpair_flat : ∀ kvs : List (Key × V), unpair ((kvs.map fun kv => [kV kv.1, kv.2]).flatten) = kvs.map fun kv => (kV kv.1, kv.2)
  | [] => rfl
  | a :: r => by
    show (kV a.1, a.2) :: unpair ((r.map fun kv => [kV kv.1, kv.2]).flatten) = _
    rw [unpair_flat r]; rfl
theorem any_none {kvs : List (Key × V)} {k : Key} (h : k ∉ kvs.map (·.1)) : (kvs.any fun kv => decide (kv.1 = k)) = false := by
  rw [List.any_eq_false]
  intro x hx e
  exact h (List.mem_map.mpr ⟨x, hx, of_decide_eq_true e⟩)
theorem mergeK_nodup : ∀ (kvs acc : List (Key × V)), ((acc ++ kvs).map (·.1)).Nodup → mergeK acc kvs = acc ++ kvs
  | [], acc, _ => by simp [mergeK]
  | a :: r, acc, h => by
    have hk : a.1 ∉ acc.map (·.1) := fun z => by
      rw [List.map_append, List.nodup_append] at h
      exact h.2.2 _ z a.1 (by simp) rfl
    have e : putK acc a.1 a.2 = acc ++ [a] := by
      unfold putK
      rw [any_none hk]
      simp
    show mergeK (putK acc a.1 a.2) r = _
    rw [e, mergeK_nodup r (acc ++ [a]) (by simpa using h)]
    simp
section
variable {X : Cx} {Wx : WX} {io : List Nat} {v0 : L2.St} {pos : Pos} {keys : List (Option Expr)} {values : List Expr}
def flatO : List ((Env → R W) × (Env → R W)) → List Opd
  | [] => []
  | p :: r => .val p.1 :: .val p.2 :: flatO r
def VPs (X : Cx) (Wx : WX) (io : List Nat) (v0 : L2.St) (pos : Pos) (keys : List (Option Expr)) (values : List Expr) (ps : List ((Env → R W) × (Env → R W))) : Prop := PPs X pos keys values (ps.map fun p => (tW X Wx io v0 p.1, tW X Wx io v0 p.2))
theorem vps_nil : VPs X Wx io v0 pos [] [] [] := pps_nil
theorem vps_cons {k v : Expr} {fk fv : Env → R W} {ps : List ((Env → R W) × (Env → R W))} (hk : VE X Wx io v0 k fk) (hv : VE X Wx io v0 v fv) (hr : VPs X Wx io v0 pos keys values ps) : VPs X Wx io v0 pos (some k :: keys) (v :: values) ((fk, fv) :: ps) := pps_cons hk hv hr
theorem pairs_of : ∀ {ps : List ((Env → R W) × (Env → R W))} {σ : L2.St} {H : Hp} {Q : List (V × V) → Hp → Prop}, tAs X Wx io v0 (flatO ps) σ H (fun vs H' => Q (unpair vs) H') → tPairs (ps.map fun p => (tW X Wx io v0 p.1, tW X Wx io v0 p.2)) σ H Q
  | [], σ, H, Q, h => tAs_nil h
  | p :: r, σ, H, Q, h => by
    have h1 : tW X Wx io v0 p.1 σ H _ := tAs_cons h
    refine tW_mono (fun x H1 q => ?_) h1
    have h2 : tW X Wx io v0 p.2 σ H1 _ := tAs_cons q
    exact tW_mono (fun y H2 q2 => pairs_of (ps := r) q2) h2
/-- a new object beside -/
theorem To.beside {ρ : Env} {σ : L2.St} {C H : Hp} {F : Foot} (s : St X.K io v0 ρ σ C H F) {p : Addr} {o : HO} (hp : H p = none) : To X.K io v0 C H F ρ σ C (upd H p o) F := by
  have st : Step C H Foot.none C (upd H p o) := ⟨Same.refl C, fun a u e _ => by rw [upd_ne (ne_of_none e hp)]; exact e, fun a z => .inl z⟩
  refine ⟨st.mono fun a z => z.elim, New.refl, s.carry st (fun _ _ z => z) fun a u e => ?_⟩
  rw [upd_ne (fun q => by have := s.sub a u e; rw [q, hp] at this; cases this)]
  exact s.sub a u e
theorem ve_disp {ps : List ((Env → R W) × (Env → R W))} (h : VPs X Wx io v0 pos keys values ps) (hall : keys.all (·.isSome) = true := by rfl) (hl : keys.length = values.length := by rfl) (h0 : keys ≠ [] := by exact List.cons_ne_nil _ _)
    (h15 : keys.length ≤ 15 := by decide) : VE X Wx io v0 (.Dict keys values pos) (dispE (flatO ps)) := pe_mono (pe_disp h hall hl h0 h15) fun σ H Q q => by
  obtain ⟨ρ, C, F, s, p⟩ := q
  intro a ha
  refine pairs_of (Q := fun ps H2 => H2 a = some (.dK []) ∧ ∃ kvs : List (Key × V), ps = kvs.map (fun kv => (kV kv.1, kv.2)) ∧ kvs.length ≤ 15 ∧ Q (.ref a) (upd H2 a (.dK (mergeK [] kvs)))) ?_
  have t0 : To X.K io v0 C H F ρ σ C (upd H a (.dK [])) F := To.beside s ha
  refine ⟨ρ, C, F, t0.st, (RPost.of_bind p).shift t0 fun ts ρ' he q => fun vs C2 H2 G F2 t => ?_⟩
  have hCa : C a = none := free_sub s.sub ha
  have hFa : ¬ F a := fun z => (s.env.foot z).1 ha
  have hup : upd H a (.dK []) a = some (.dK []) := upd_same
  have h2a : H2 a = some (.dK []) := t.to.step.fr a _ hup hFa
  have hC2a : C2 a = none := (stay_of t.to.step ⟨by rw [hup]; simp, hCa⟩ hFa).2
  have hGa : ¬ G a := fun z => by
    rcases t.newv a z with x | x
    · exact hFa x
    · rw [hup] at x; cases x
  have hF2a : ¬ F2 a := fun z => by
    rcases t.to.new a z with x | x
    · exact hFa x
    · rw [hup] at x; cases x
  cases e1 : wsV ts with
  | none => simp only [e1] at q; exact q.elim
  | some ws =>
    simp only [e1] at q
    cases e2 : pairW ws with
    | none => simp only [e2] at q; exact q.elim
    | some kws =>
      simp only [e2] at q
      split at q
      · rename_i hc
        have q' : ∀ v C' H' G F', ToV X.K io v0 C H F (.dk kws) v ρ' σ C' H' G F' → Q v H' := q
        obtain ⟨kvs, _, h1, h2, G', h3, h4⟩ := own_pairs (own_ts t.own e1) e2
        have hnd : (kvs.map (·.1)).Nodup := by rw [h2]; exact hc.1
        have hlen : kvs.length ≤ 15 := by
          have := congrArg List.length h2
          rw [List.length_map, List.length_map] at this
          rw [this]; exact hc.2
        have hm : mergeK [] kvs = kvs := by
          have := mergeK_nodup kvs [] (by simpa using hnd)
          simpa using this
        refine ⟨h2a, kvs, by rw [h1, unpair_flat], hlen, ?_⟩
        rw [hm]
        have nw0 : New H F (Foot.or G F2) := fun b z => z.elim (New.trans t0.step t0.new t.newv b) (New.trans t0.step t0.new t.to.new b)
        have st3 : Step C2 H2 (fun b => b = a) C2 (upd H2 a (.dK kvs)) := step_upd rfl
        have sb3 : Same C2 (upd H2 a (.dK kvs)) := same_upd t.to.st.sub hC2a
        -- from H to the end
        have tot : Step C H F C2 (upd H2 a (.dK kvs)) := by
          have x := t0.step.trans t.to.step t0.new
          refine ⟨x.cc, fun b u e n => ?_, x.lim⟩
          rw [upd_ne (ne_of_none e ha)]
          exact x.fr b u e n
        refine q' _ C2 _ (fun b => b = a ∨ G' b) F2 ⟨⟨tot, New.trans t0.step t0.new t.to.new, t.to.st.carry st3 (fun b z y => hF2a (y ▸ z)) sb3⟩, fun b z => ?_, fun b z y => ?_, ?_⟩
        · rcases z with rfl | z
          · exact .inr ha
          · exact nw0 b (.inl (h4 b z))
        · rcases z with rfl | z
          · exact hF2a y
          · exact t.dis b (h4 b z) y
        · exact .dk upd_same hC2a h2 (h3.upd fun z => hGa (h4 a z)) (fun z => hGa (h4 a z)) fun b => Iff.rfl
      · exact q.elim
/-! ### xs[::-1] of a list -/
def revF (w : W) : Option W := (litems w).map fun ds => .l (ds.reverse.map .c)
theorem rev_ok {K : PySem.W.Frag} : PrimOk K (fun vs H Q => ∃ x, vs = [x] ∧ ∃ a xs, x = .ref a ∧ SqL K H a xs ∧ ∀ p, H p = none → Q (.ref p) (upd H p (.lst xs.reverse))) (P1 revF) := fun C H ws vs w Q s o e q => by
  unfold P1 at e
  split at e
  · rename_i w1
    obtain ⟨v, F, rfl, o1⟩ := ownL1 o
    unfold revF at e
    cases h : litems w1 with
    | none => rw [h] at e; cases e
    | some ds =>
      rw [h] at e
      simp only [Option.map_some, Option.some.injEq] at e
      subst e
      obtain ⟨a, xs, rfl, h1, h2⟩ := litems_ok o1 s h
      exact ⟨_, rfl, a, xs, rfl, .inl h1, fun p hp => end_l s q h2.reverse hp⟩
  · cases e
theorem ve_rev {e : Expr} {oa : Opd} {k : Nat} {p1 p2 p3 : Pos} (h : VO X Wx io v0 e oa) : VE X Wx io v0 (.Subscript e (.Slice none none (some (.UnaryOp .USub (.Constant (.int 1) k p1) p2)) p3) pos) (prim (P1 revF) [oa]) :=
  pe_mono (pe_revL h) fun σ H Q q => tO_mono (fun x H1 q2 => by
    obtain ⟨x', e, r⟩ := tAs_nil q2
    cases e
    exact r) (tAs_cons (prim_of rev_ok q))
end
end VL
set_option maxHeartbeats 4000000
namespace VL
open PySem PySem.Spec PyProof.Rows L2
/-! ### calls by names alone: f(k = e, ..) -/
def KwOk (K : PySem.W.Frag) (fd : FuncData) (ps ks : List Str) (π : List Nat) : Prop := ∀ (s : Shared) (ws : List Value), K.In s.heap → ws.length = ks.length → BindsTo s fd ⟨[], ks.zip ws⟩ (ps.zip (π.map fun i => ws.getD i .none))
theorem KwOk.of {K : PySem.W.Frag} {fd : FuncData} {ps ks : List Str} {π : List Nat} (h : ∀ ws : List Value, ws.length = ks.length → bindArgs fd ⟨[], ks.zip ws⟩ = pure (ps.zip (π.map fun i => ws.getD i .none))) : KwOk K fd ps ks π := fun s ws _ hl => BindsTo.of_eq (h ws hl)
def kwE (g : List W → RD) (π : List Nat) (os : List Opd) : Env → R W := fun ρ => (evs os ρ).bind fun ts ρ' => match wsV ts with
  | some ws => (match colds ws with
    | some ds => (match g (π.map fun i => .c (ds.getD i .none)) with
      | .ok w _ => .ok w ρ'
      | .exn e _ => .exn e ρ'
      | .stuck => .stuck)
    | none => .stuck)
  | none => .stuck
theorem RepAll.getD {K : PySem.W.Frag} {C : Hp} {vs : List V} {ds : List PyData} (t : RepAll K C vs ds) (i : Nat) : Rep K C (vs.getD i .non) (ds.getD i .none) := by
  rw [List.getD, List.getD]
  cases h : vs[i]? with
  | none =>
    have : ds[i]? = none := by rw [List.getElem?_eq_none_iff] at h ⊢; rw [← t.length]; exact h
    rw [this]; exact .non
  | some v =>
    obtain ⟨d, h1, h2⟩ := t.get h
    rw [h1]; exact h2
theorem repAll_perm {K : PySem.W.Frag} {C : Hp} {vs : List V} {ds : List PyData} (t : RepAll K C vs ds) : ∀ π : List Nat, RepAll K C (π.map fun i => vs.getD i .non) (π.map fun i => ds.getD i .none)
  | [] => .nil
  | i :: r => .cons (t.getD i) (repAll_perm t r)
theorem vals_getD {vs : List V} {us : List Value} (r : Vals vs us) (i : Nat) : RelV (vs.getD i .non) (us.getD i .none) := by
  rw [List.getD, List.getD]
  cases h : vs[i]? with
  | none =>
    have : us[i]? = none := by rw [List.getElem?_eq_none_iff] at h ⊢; rw [← r.length]; exact h
    rw [this]; rfl
  | some v =>
    obtain ⟨u, h1, h2⟩ := r.get h
    rw [h1]; exact h2
theorem vals_perm {vs : List V} {us : List Value} (r : Vals vs us) : ∀ π : List Nat, Vals (π.map fun i => vs.getD i .non) (π.map fun i => us.getD i .none)
  | [] => .nil
  | i :: t => .cons (vals_getD r i) (vals_perm r t)
section
variable {X : Cx} {Wx : WX} {io : List Nat} {v0 : L2.St} {os : List Opd} {σ : L2.St} {H : Hp} {k n : Nat} {g : List W → RD} {f : Addr} {fd : FuncData} {ps ks : List Str} {π : List Nat} {kws : List Keyword}
theorem kw_of {Q : VK} (hn : π.length = n) (h : tW X Wx io v0 (kwE g π os) σ H Q) : tAs X Wx io v0 os σ H fun zs H1 => zs.length = os.length ∧ spW X.K X.mg n [] g (π.map fun i => zs.getD i .non) H1 Q (WE Wx σ) := by
  obtain ⟨ρ, C, F, s, p⟩ := h
  refine ⟨ρ, C, F, s, (RPost.of_bind p).imp fun ts ρ' he q => fun vs C1 H1 G F1 t => ?_⟩
  obtain ⟨hix, hlen⟩ := evs_refIx (n := 0) he
  refine ⟨by rw [← t.own.length, hlen], by rw [List.length_map, hn], ?_⟩
  cases e1 : wsV ts with
  | none => simp only [e1] at q; exact q.elim
  | some ws =>
    simp only [e1] at q
    cases e2 : colds ws with
    | none => simp only [e2] at q; exact q.elim
    | some ds =>
      simp only [e2] at q
      have ow := own_ts t.own e1
      rw [colds_eq e2] at ow
      have rp := own_colds ow
      have oa : OwnAll X.K C1 H1 (π.map fun i => W.c (ds.getD i .none)) (π.map fun i => vs.getD i .non) Foot.none := by
        have := colds_own (H := H1) (repAll_perm rp π)
        rw [List.map_map] at this
        exact this
      refine ⟨C1, Foot.none, _, t.to.st.sub, oa, ?_⟩
      have fin : ∀ {us : List W} {C' H' : Hp} {F' : Foot}, DOut X.K C1 H1 Foot.none us (pickV [] (π.map fun i => vs.getD i .non)) C' H' F' → To X.K io v0 C H F ρ' σ C' H' F1 := fun {us C' H' F'} d =>
        ⟨t.to.step.trans (d.step.mono fun a z => z.elim) t.to.new, t.to.new, t.to.st.carry d.step (fun _ _ z => z) d.sub⟩
      cases hg : g (π.map fun i => W.c (ds.getD i .none)) with
      | ok w us =>
        simp only [hg] at q
        have q' : ∀ v C' H' G F', ToV X.K io v0 C H F w v ρ' σ C' H' G F' → Q v H' := q
        intro v C' H' G' F' d nw dd ow'
        refine q' v C' H' G' F1 ⟨fin d, New.trans (F1 := Foot.none) t.to.step New.zero nw, fun a y z => ?_, ow'⟩
        rcases nw a y with x | x
        · exact x
        · exact (t.to.st.env.foot z).1 x
      | exn e us =>
        simp only [hg] at q
        have q' : ∀ cls d C' H' F', To X.K io v0 C H F ρ' σ C' H' F' → ExOk X e cls d C' → Wx cls d σ H' := q
        intro cls d C' H' F' dd kk
        exact q' cls d C' H' F1 (fin dd) kk
      | stuck => simp only [hg] at q; exact q.elim
def VKs (X : Cx) (Wx : WX) (io : List Nat) (v0 : L2.St) (kws : List Keyword) (os : List Opd) : Prop := PK X kws (tAs X Wx io v0 os)
theorem pk_mono {t t' : TA} (h : PK X kws t) (m : ∀ σ H Q, t' σ H Q → t σ H Q) : PK X kws t' := ⟨fun pos pins s σ H Q I q => h.run pos pins s σ H Q I (m σ H Q q)⟩
theorem vk_nil : VKs X Wx io v0 [] [] := pk_mono pk_nil fun σ H Q h => tAs_nil h
theorem vk_cons {nm : Option Str} {e : Expr} {kpos : Pos} {o : Opd} (h : VO X Wx io v0 e o) (hr : VKs X Wx io v0 kws os) : VKs X Wx io v0 (⟨nm, e, kpos⟩ :: kws) (o :: os) := pk_mono (pk_cons h hr) fun σ H Q h => tAs_cons h
theorem run_fnGk {sp : Sp} {E : L2.St → XK} {pins : List (Addr × Obj)} {s : Shared} {Q : VK} {us : List Value} {vs : List V} {kvs : List (Str × Value)} (F : FnG X.prog X.w X.K X.mg X.base k f fd ps sp) (hr : Room k X.A) (hg : X.A.guards = some []) (hb : BindsTo s fd ⟨[], kvs⟩ (ps.zip us)) (hx : PassesAt (L2.CX X.prog X.w) X σ (E σ))
    (I : Inv X pins σ H s) (r : Vals vs us) (h : sp vs H Q (E σ)) : wpAny (model X.prog X.w) X.A (call (.ref f) [] kvs) (EP X pins σ Q) X.xe s := by
  refine wpAny_call (codeAny_mono (F.run X.A X.stack s H ⟨[], kvs⟩ us vs Q (E σ) hr hg I.env0 hb r h) fun r s' hq => ?_)
  cases r with
  | error e => exact hx pins H s e s' I hq
  | ok fl =>
    cases fl with
    | ret u => exact I.after hq
    | next => exact False.elim hq
    | brk => exact False.elim hq
    | cont => exact False.elim hq
theorem ve_callK {x : Str} {p pos : Pos} (B : Bd X k Wx) (F : FnG X.prog X.w X.K X.mg X.base k f fd ps (spW X.K X.mg n [] g)) (hm : X.mg x = some (.ref f)) (hk : PySem.W.keepIn X.K (.ref f) = true) (hb : KwOk X.K fd ps ks π) (ha : VKs X Wx io v0 kws os) (hn : π.length = n := by rfl) (hkl : ks.length = os.length := by rfl)
    (hg : Gl X x := by rfl) (hdb : (x == ("__debug__" : Str)) = false := by decide) (hall : (backToKw pos (keywordEach kws X.env)).all (·.1.isSome) = true := by rfl) (hks : (backToKw pos (keywordEach kws X.env)).filterMap (·.1) = ks := by rfl)
    (hpl : ((backTo pos (starEach [] X.env)).any (·.1) || (backToKw pos (keywordEach kws X.env)).any (·.1.isNone)) = false := by rfl) :
    VE X Wx io v0 (.Call (.Name x p) [] kws pos) (kwE g π os) := by
  refine ⟨fun pins s σ H Q I h => ?_⟩
  refine wpAny_Call_Name_kw (ld_glob I hg hm ?_ hdb)
  refine PySem.W.callWith_KW0 (h₀ := X.base) I.ok.mod.kin hk hall ?_ hpl
  refine thn (ha.run pos pins s σ H _ I (kw_of hn h)) fun ws s2 ⟨zs, H2, I2, rz, hl, q2⟩ => ⟨I2.kIn, ?_⟩
  rw [hks]
  exact run_fnGk F B.room B.guards (hb s2 ws I2.kIn (by rw [← rz.length, hl, hkl])) (passAt B.takes σ) I2 (vals_perm rz π) q2
end
end VL
set_option maxHeartbeats 4000000
namespace VL
open PySem PySem.Spec PyProof.Rows L2
/-! ### what the printed rules lean on -/
/-- a def of the program, by its name -/
def Cal (P : Program) (w : World) (K : PySem.W.Frag) (mg : Str → Option Value) (base : Heap) (k : Nat) (x : Str) (n : Nat) (io : List Nat) (g : List W → RD) : Prop :=
  ∃ f fd ps, mg x = some (.ref f) ∧ PySem.W.keepIn K (.ref f) = true ∧ L2.Binds K fd ps [] ∧ FnG P w K mg base k f fd ps (spW K mg n io g)
/-- .. called by names alone -/
def CalK (P : Program) (w : World) (K : PySem.W.Frag) (mg : Str → Option Value) (base : Heap) (k : Nat) (x : Str) (n : Nat) (g : List W → RD) (ks : List Str) (π : List Nat) : Prop :=
  ∃ f fd ps, mg x = some (.ref f) ∧ PySem.W.keepIn K (.ref f) = true ∧ KwOk K fd ps ks π ∧ FnG P w K mg base k f fd ps (spW K mg n [] g)
theorem takes0' {X : Cx} : Takes X W0 := fun _ _ ⟨_, _, _, _, _, _, _, _, _, _, _, _, _, _, _, _, w⟩ => w.elim
theorem Bd.blk {X : Cx} {k : Nat} {Wx : WX} (B : Bd X k Wx) {s : Shared} {H : Hp} {scope : Scope} {env : PySem.Env} {fp : List Addr} : Bd (X.blk s H scope env fp) k W0 := ⟨B.room, B.guards, B.calm, takes0'⟩
section
variable {X : Cx} {Wx : WX} {io : List Nat} {v0 : L2.St} {os : List Opd} {es : List Expr} {e a b c d : Expr} {k j n : Nat} {jo : List Nat} {g : List W → RD} {x : Str} {p pos apos cpos : Pos} {f : Env → R W}
theorem ve_call (B : Bd X k Wx) (C : Cal X.prog X.w X.K X.mg X.base j x n jo g) (ha : VA X Wx io v0 (e :: es) os) (hj : j ≤ k := by decide) (hn : os.length = n := by rfl) (hjo : refIx 0 os = jo := by rfl)
    (hg : Gl X x := by rfl) (hdb : (x == ("__debug__" : Str)) = false := by decide) (he : starEach (e :: es) X.env = (false, eval e X.env) :: starEach es X.env := by rfl) (hpl : (backTo pos (starEach es X.env)).any (·.1) = false := by rfl) :
    VE X Wx io v0 (.Call (.Name x p) (e :: es) [] pos) (callE g os) := by
  obtain ⟨f, fd, ps, h1, h2, h3, h4⟩ := C
  exact ve_callG B (h4.mono hj) h1 h2 h3 ha hn hjo hg hdb he hpl
theorem ve_callKw {kws : List Keyword} {ks : List Str} {π : List Nat} (B : Bd X k Wx) (C : CalK X.prog X.w X.K X.mg X.base j x n g ks π) (ha : VKs X Wx io v0 kws os) (hj : j ≤ k := by decide) (hn : π.length = n := by rfl) (hkl : ks.length = os.length := by rfl)
    (hg : Gl X x := by rfl) (hdb : (x == ("__debug__" : Str)) = false := by decide) (hall : (backToKw pos (keywordEach kws X.env)).all (·.1.isSome) = true := by rfl) (hks : (backToKw pos (keywordEach kws X.env)).filterMap (·.1) = ks := by rfl)
    (hpl : ((backTo pos (starEach [] X.env)).any (·.1) || (backToKw pos (keywordEach kws X.env)).any (·.1.isNone)) = false := by rfl) :
    VE X Wx io v0 (.Call (.Name x p) [] kws pos) (kwE g π os) := by
  obtain ⟨f, fd, ps, h1, h2, h3, h4⟩ := C
  exact ve_callK B (h4.mono hj) h1 h2 h3 ha hn hkl hg hdb hall hks hpl
theorem ve_globE {i : Int} (hm : ∃ t, X.mg x = some (.int i t)) (hg : Gl X x := by rfl) (hd : (x == ("__debug__" : Str)) = false := by decide) : VE X Wx io v0 (.Name x pos) (kc (.int i)) := by
  obtain ⟨t, h⟩ := hm
  exact ve_globI hg h hd
theorem va_c (he : VO X Wx io v0 e o) (hr : VA X Wx io v0 es os) (hs : starEach (e :: es) X.env = (false, eval e X.env) :: starEach es X.env := by rfl) : VA X Wx io v0 (e :: es) (o :: os) := va_cons he hr hs
/-- three links of ints -/
def chain3 (p p' p'' : Int → Int → Bool) (fa fb fc fd : Env → R W) : Env → R Bool := intOf fa fun i => intOf fb fun j ρ => if p i j = true then intOf fc (fun l ρ => if p' j l = true then intOf fd (fun m ρ => .ok (p'' l m) ρ) ρ else .ok false ρ) ρ else .ok false ρ
def tChain3 (p p' p'' : Int → Int → Bool) (ta tb tc td : TE) : TT := fun σ H Q => ta σ H fun x H1 => ∃ i, x = .int i ∧ tb σ H1 fun y H2 => ∃ j, y = .int j ∧ (if p i j = true then tc σ H2 fun z H3 => ∃ l, z = .int l ∧ (if p' j l = true then td σ H3 fun u H4 => ∃ m, u = .int m ∧ Q (p'' l m) H4 else Q false H3) else Q false H2)
theorem pt_chain3 {op op' op'' : CmpOp} {p p' p'' : Int → Int → Bool} {ta tb tc td : TE} (ho : OpR X (compareOp op) (rI0 fun i j => .bl (p i j))) (ho' : OpR X (compareOp op') (rI0 fun i j => .bl (p' i j))) (ho'' : OpR X (compareOp op'') (rI0 fun i j => .bl (p'' i j))) (ha : PE X a ta) (hb : PE X b tb) (hc : PE X c tc) (hd : PE X d td)
    (hm : lastMarks [op, op', op''] [b, c, d] = false := by with_unfolding_all rfl) : PT X (.Compare a [op, op', op''] [b, c, d] pos) (tChain3 p p' p'' ta tb tc td) := by
  refine ⟨fun pins s σ H Q I h => ?_⟩
  refine isTrue_chain (thn (ha.run pins s σ H _ I h) fun v s1 ⟨x, H1, I1, r1, i, ei, q1⟩ => test_link (thn (hb.run pins s1 σ H1 _ I1 q1) fun u s2 ⟨y, H2, I2, r2, j, ej, q2⟩ => ?_)) hm
  subst ei ej
  refine thn (ho pins s2 σ H2 (.int i) (.int j) v u (fun z H' => z = .bl (p i j) ∧ H' = H2) I2 r1 r2 ⟨i, j, rfl, rfl, rfl, rfl⟩) fun d1 s3 ⟨z, H3, I3, r3, e3, eH⟩ => ?_
  subst e3 eH
  cases r3
  refine wpAny_truthy_bool ?_
  cases hp : p i j with
  | false =>
    rw [hp] at q2
    exact ite_ff ⟨_, I3, q2⟩
  | true =>
    rw [hp] at q2
    refine ite_tt (test_link (thn (hc.run pins s3 σ H3 _ I3 q2) fun w' s4 ⟨z', H4, I4, r4, l, el, q4⟩ => ?_))
    subst el
    refine thn (ho' pins s4 σ H4 (.int j) (.int l) u w' (fun z H' => z = .bl (p' j l) ∧ H' = H4) I4 r2 r4 ⟨j, l, rfl, rfl, rfl, rfl⟩) fun d2 s5 ⟨z, H5, I5, r5, e5, eH⟩ => ?_
    subst e5 eH
    cases r5
    refine wpAny_truthy_bool ?_
    cases hp2 : p' j l with
    | false =>
      rw [hp2] at q4
      exact ite_ff ⟨_, I5, q4⟩
    | true =>
      rw [hp2] at q4
      refine ite_tt (test_last (thn (hd.run pins s5 σ H5 _ I5 q4) fun w'' s6 ⟨z', H6, I6, r6, m, em, q6⟩ => ?_))
      subst em
      refine thn (ho'' pins s6 σ H6 (.int l) (.int m) w' w'' (fun z H' => z = .bl (p'' l m) ∧ H' = H6) I6 r4 r6 ⟨l, m, rfl, rfl, rfl, rfl⟩) fun d3 s7 ⟨z, H7, I7, r7, e7, eH⟩ => ?_
      subst e7 eH
      cases r7
      exact wpAny_truthy_bool ⟨_, I7, q6⟩
theorem vt_chain3 {op op' op'' : CmpOp} {p p' p'' : Int → Int → Bool} {fa fb fc fd : Env → R W} (ho : OpR X (compareOp op) (rI0 fun i j => .bl (p i j))) (ho' : OpR X (compareOp op') (rI0 fun i j => .bl (p' i j))) (ho'' : OpR X (compareOp op'') (rI0 fun i j => .bl (p'' i j))) (ha : VE X Wx io v0 a fa) (hb : VE X Wx io v0 b fb) (hc : VE X Wx io v0 c fc) (hd : VE X Wx io v0 d fd)
    (hm : lastMarks [op, op', op''] [b, c, d] = false := by with_unfolding_all rfl) : VT X Wx io v0 (.Compare a [op, op', op''] [b, c, d] pos) (chain3 p p' p'' fa fb fc fd) := pt_mono (pt_chain3 ho ho' ho'' ha hb hc hd hm) fun σ H Q q => by
  obtain ⟨ρ, C, F, s, pp⟩ := q
  refine intOf_at (α := Bool) s pp fun i ρ1 C1 H1 F1 t p2 => ⟨i, rfl, ?_⟩
  have p3 := p2.shift t (k' := fun b ρ' => ∀ C' H' F', To X.K io v0 C1 H1 F1 ρ' σ C' H' F' → Q b H') fun b ρ' _ q C' H' F' t2 => q C' H' F' (t.trans t2)
  refine intOf_at (α := Bool) t.st p3 fun j ρ2 C2 H2 F2 t2 p4 => ⟨j, rfl, ?_⟩
  cases hp : p i j with
  | false =>
    rw [hp] at p4
    exact p4 C2 H2 F2 t2
  | true =>
    rw [hp] at p4
    have p5 : RPost X Wx io v0 σ C1 H1 F1 (intOf fc (fun l ρ => if p' j l = true then intOf fd (fun m ρ => .ok (p'' l m) ρ) ρ else .ok false ρ) ρ2) _ := p4
    have p6 := p5.shift t2 (k' := fun b ρ' => ∀ C' H' F', To X.K io v0 C2 H2 F2 ρ' σ C' H' F' → Q b H') fun b ρ' _ q C' H' F' t3 => q C' H' F' (t2.trans t3)
    refine intOf_at (α := Bool) t2.st p6 fun l ρ3 C3 H3 F3 t3 p7 => ⟨l, rfl, ?_⟩
    cases hp2 : p' j l with
    | false =>
      rw [hp2] at p7
      exact p7 C3 H3 F3 t3
    | true =>
      rw [hp2] at p7
      have p8 : RPost X Wx io v0 σ C2 H2 F2 (intOf fd (fun m ρ => .ok (p'' l m) ρ) ρ3) _ := p7
      have p9 := p8.shift t3 (k' := fun b ρ' => ∀ C' H' F', To X.K io v0 C3 H3 F3 ρ' σ C' H' F' → Q b H') fun b ρ' _ q C' H' F' t4 => q C' H' F' (t3.trans t4)
      exact intOf_at (α := Bool) t3.st p9 fun m ρ4 C4 H4 F4 t4 p10 => ⟨m, rfl, p10 C4 H4 F4 t4⟩
end
end VL
set_option maxHeartbeats 4000000
namespace VL
open PySem PySem.Spec PyProof.Rows L2
/-! ### a, b, .. = x, y, .. by a tuple; three names at once -/
theorem room1 {k : Nat} {A : Around} (r : Room k A) : A.units + 1 < cLine := by have := r.un; omega
def setsE : List Nat → List W → VL.Env → Option VL.Env
  | [], [], ρ => some ρ
  | i :: r, w :: ws, ρ => setsE r ws (ρ.set i (some w))
  | _, _, _ => none
def parS (is : List Nat) (os : List Opd) : VL.Env → RS := fun ρ => (evs os ρ).toS fun ts ρ' => match wsV ts with
  | some ws => (match setsE is ws ρ' with
    | some ρ'' => .nx ρ''
    | none => .stuck)
  | none => .stuck
def setsV : List Nat → List V → L2.St → L2.St
  | i :: r, v :: vs, σ => setsV r vs (σ.set i (some v))
  | _, _, σ => σ
section
variable {X : Cx} {Wx : WX} {io : List Nat} {v0 : L2.St} {os : List Opd}
theorem sets_ok {K : PySem.W.Frag} {C H : Hp} : ∀ {is : List Nat} {ws : List W} {vs : List V} {G : Foot} {ρ ρ' : VL.Env} {σ : L2.St} {F : Foot}, OwnAll K C H ws vs G → St K io v0 ρ σ C H F → (∀ a, G a → ¬ F a) → (∀ i ∈ is, i ∉ io) → setsE is ws ρ = some ρ' →
    is.length = vs.length ∧ ∃ F', St K io v0 ρ' (setsV is vs σ) C H F' ∧ ∀ a, F' a → F a ∨ G a
  | [], [], _, G, ρ, ρ', σ, F, .nil _, s, _, _, e => by
    simp only [setsE, Option.some.injEq] at e
    subst e
    exact ⟨rfl, F, s, fun _ z => .inl z⟩
  | [], _ :: _, _, _, _, _, _, _, _, _, _, _, e => by simp [setsE] at e
  | _ :: _, [], _, _, _, _, _, _, _, _, _, _, e => by simp [setsE] at e
  | i :: r, w :: ws, _, G, ρ, ρ', σ, F, .cons (v := v) (G := G1) (G' := G2) o t dj q, s, d, hio, e => by
    have hi := hio i List.mem_cons_self
    obtain ⟨F1, h1, h2⟩ := s.env.put (i := i) o (fun a z y => d a ((q a).mpr (.inl z)) y)
    have s1 : St K io v0 (ρ.set i (some w)) (σ.set i (some v)) C H F1 := ⟨h1, s.sub, fun k hk => by
      rw [List.getElem?_set_ne (fun z => hi (by rw [z]; exact hk))]; exact s.fix k hk⟩
    obtain ⟨l, F', h3, h4⟩ := sets_ok t s1 (fun a z y => by
      rcases h2 a y with y | y
      · exact d a ((q a).mpr (.inr z)) y
      · exact dj a y z) (fun k hk => hio k (List.mem_cons_of_mem _ hk)) e
    refine ⟨by rw [List.length_cons, List.length_cons, l], F', h3, fun a z => ?_⟩
    rcases h4 a z with z | z
    · exact (h2 a z).imp id fun z => (q a).mpr (.inl z)
    · exact .inr ((q a).mpr (.inr z))
theorem par_of {D : Ends} {is : List Nat} {σ : L2.St} {H : Hp} (hio : ∀ i ∈ is, i ∉ io) (q : tS X Wx io v0 (parS is os) D σ H) : tAs X Wx io v0 os σ H fun vs H1 => is.length = vs.length ∧ D.nx (setsV is vs σ) H1 ∧ ∀ p o, H1 p = none → D.nx (setsV is vs σ) (upd H1 p o) := by
  obtain ⟨ρ, C, F, s, p⟩ := q
  refine ⟨ρ, C, F, s, (SPost.of_toS p σ).imp fun ts ρ' _ q vs C' H' G F' t => ?_⟩
  cases e1 : wsV ts with
  | none => simp only [e1] at q; exact q.elim
  | some ws =>
    simp only [e1] at q
    cases e2 : setsE is ws ρ' with
    | none => simp only [e2] at q; exact q.elim
    | some ρ2 =>
      simp only [e2] at q
      have q' : ∀ σ' C' H' F', To X.K io v0 C H F ρ2 σ' C' H' F' → D.nx σ' H' := q
      obtain ⟨l, F2, h1, h2⟩ := sets_ok (own_ts t.own e1) t.to.st t.dis hio e2
      have t2 : To X.K io v0 C H F ρ2 (setsV is vs σ) C' H' F2 := ⟨t.to.step, fun a z => (h2 a z).elim (t.to.new a) (t.newv a), h1⟩
      exact ⟨l, q' _ C' H' F2 t2, fun p o hp => q' _ C' _ F2 (t2.trans (To.beside h1 hp))⟩
theorem vs_par3 (i j l : Nat) {x y z : Str} {a b c : Expr} {px py pz pt pos : Pos} {kt k2 pt2} (hc : X.calm = true) (hN : X.N.Nodup) (ha : VA X Wx io v0 [a, b, c] os) (hi : X.N[i]? = some x := by rfl) (hj : X.N[j]? = some y := by rfl) (hl : X.N[l]? = some z := by rfl)
    (hx : X.env.scope.names.lookup x = some .local := by rfl) (hy : X.env.scope.names.lookup y = some .local := by rfl) (hz : X.env.scope.names.lookup z = some .local := by rfl)
    (hij : i ≠ j := by decide) (hil : i ≠ l := by decide) (hjl : j ≠ l := by decide) (hio : ∀ k ∈ [i, j, l], k ∉ io := by decide)
    (hw : swappedStores [.Tuple [.Name x px, .Name y py, .Name z pz] kt pt] (.Tuple [a, b, c] k2 pt2) X.env = pure (some [x, y, z]) := by rfl)
    (hs : swapsWithSole [.Tuple [.Name x px, .Name y py, .Name z pz] kt pt] (.Tuple [a, b, c] k2 pt2) pos.line X.env = pure false := by rfl) :
    VS X Wx io v0 (.Assign [.Tuple [.Name x px, .Name y py, .Name z pz] kt pt] (.Tuple [a, b, c] k2 pt2) pos) (parS [i, j, l] os) := ps_mono (ps_par3 hc hN hi hj hl hij hil hjl hx hy hz ha hw hs) fun D σ H q => tAs_mono (fun vs H1 ⟨l1, q1, _⟩ => by
  match vs, l1 with
  | [u, v, w], _ => exact ⟨u, v, w, rfl, q1⟩) (par_of hio q)
/-- names alone, stored one by one -/
inductive NmsOk (X : Cx) : List Expr → List Nat → Prop
  | nil : NmsOk X [] []
  | cons {i : Nat} {x : Str} {p : Pos} {es : List Expr} {is : List Nat} : X.N[i]? = some x → Loc X.env.scope x → (X.fn x = true ∨ X.env.scope.names.lookup x = some .local) → (assignEach (.Name x p :: es) X.env).map (·.2) = assign (.Name x p) X.env :: (assignEach es X.env).map (·.2) → NmsOk X es is → NmsOk X (.Name x p :: es) (i :: is)
theorem NmsOk.pgs (hN : X.N.Nodup) : ∀ {es : List Expr} {is : List Nat}, NmsOk X es is → PGs X es (fun vs σ H Q => is.length = vs.length ∧ Q (setsV is vs σ) H)
  | [], [], .nil => pgs_mono pgs_nil fun vs σ H Q q => by
    obtain ⟨l, q⟩ := q
    cases vs with
    | nil => exact ⟨rfl, q⟩
    | cons _ _ => simp at l
  | _, _, .cons h1 h2 h3 h4 t => pgs_mono (pgs_cons (pg_name hN h1 h2 h3) (NmsOk.pgs hN t) h4) fun vs σ H Q q => by
    obtain ⟨l, q⟩ := q
    cases vs with
    | nil => simp at l
    | cons v r => exact ⟨v, r, rfl, by simpa using l, q⟩
theorem vs_parT {es xs : List Expr} {is : List Nat} {n : Nat} {kt k2 : Nat} {pt pt2 pos : Pos} (hc : X.calm = true) (hN : X.N.Nodup) (ha : VA X Wx io v0 xs os) (hn : NmsOk X es is) (hl : is.length = n := by rfl) (h1000 : n ≤ 1000 := by decide) (hio : ∀ k ∈ is, k ∉ io := by decide)
    (hes : (assignEach es X.env).length = n := by rfl) (hst : (assignEach es X.env).findIdx? (·.1) = none := by rfl)
    (hs : swapsWithSole [.Tuple es kt pt] (.Tuple xs k2 pt2) pos.line X.env = pure false := by rfl) (hw : swappedStores [.Tuple es kt pt] (.Tuple xs k2 pt2) X.env = pure none := by rfl)
    (h1 : (assignEach [.Tuple es kt pt] X.env).map (·.2) = [assign (.Tuple es kt pt) X.env] := by rfl) :
    VS X Wx io v0 (.Assign [.Tuple es kt pt] (.Tuple xs k2 pt2) pos) (parS is os) := ps_mono (ps_asg (pe_tup ha) (pg_tup (n := n) hc (hn.pgs hN) hes hst) hs hw h1) fun D σ H q => tAs_mono (fun vs H1 ⟨l, _, q2⟩ => by
  refine ⟨by rw [← l, hl]; exact small_line h1000, fun p hp => ⟨p, vs, rfl, .inl (.inl upd_same), by rw [← l, hl], l, q2 p _ hp⟩⟩) (par_of hio q)
end
end VL
set_option maxHeartbeats 4000000
namespace VL
open PySem PySem.Spec PyProof.Rows L2
section
variable {P : Program} {w : World} {K : PySem.W.Frag} {mg : Str → Option Value} {base : Heap}
theorem fnG_raw {x qual : Str} {st : Stmt} {f : Addr} {fd : FuncData} {N ps : List Str} {k n : Nat} {io : List Nat} {g : List W → RD} (F : Fun K x qual st f fd) (S : FnScope N ps (defScope st)) (hps : n = ps.length)
    (hbody : ∀ (cdv : Value) (A : Around) (outer : List PySem.Env) (s : Shared) (H : Hp) (vs : List V) (E : XK), Bd (cxG P w K mg base N qual (defScope st) f cdv A outer s H E) k (fun cls d _ H => E cls d H) →
      PassesOwn (model P w) (cxG P w K mg base N qual (defScope st) f cdv A outer s H E).A (cxG P w K mg base N qual (defScope st) f cdv A outer s H E).env (cxG P w K mg base N qual (defScope st) f cdv A outer s H E).xe →
      ∃ t, PSs (cxG P w K mg base N qual (defScope st) f cdv A outer s H E) (defBody st) t ∧ ∀ Q, spW K mg n io g vs H Q E → t { nx := fun _ H' => Q .non H', rt := Q } (L2.start N vs) H) : FnG P w K mg base (k + 1) f fd ps (spW K mg n io g) := by
  obtain ⟨oc, od, kV, doc, pm, an, cdv, ct, osl, rfl, lk, hcd⟩ := F.ex
  refine ⟨fun vs H Q E h => h.1.trans hps, fun A outer s H args us vs Q E hr hgd e0 hb r hsp => ?_⟩
  have hl : vs.length = ps.length := hsp.1.trans hps
  have KX : K.In s.heap := e0.mod.kin.keeps fun b o e => (e0.bs b o e).1
  have lim : s.heap.NoLimit := e0.mod.nolimit.keeps fun b o e => (e0.bs b o e).1
  have hkind : ∀ y ∈ ps.zip us, (defScope st).names.lookup y.1 = some .local ∨ ((defScope st).names.lookup y.1 = some .cell ∧ ((cellsFrom (s.heap.objs.size + 1) (defScope st).names []).lookup y.1).isSome = true) := fun ⟨n, v⟩ hy => by
    rcases S.par n (List.of_mem_zip hy).1 with q | q
    · exact .inl q
    · exact .inr ⟨q, PySem.W.cellsFrom_some _ _ _ (.inl q)⟩
  refine codeAny_call_function hr.depth (KX _ _ lk) rfl S.co S.gen rfl (PySem.W.codeRec_of KX hcd) (hb _ _ _ _ ?_)
  refine wpAny_newFunctionEnv_cells S.kind hkind fun env he s1 x => ?_
  subst he
  refine ⟨lim.keeps x.toInCall.keep, codeAny_func ?_⟩
  obtain ⟨t, ht, hq0⟩ := hbody cdv A outer s H vs E ⟨hr.deeper _, hgd, rfl, takes_of rfl rfl rfl rfl⟩ (passes_of rfl)
  have I : Inv (cxOf (L2.CX P w) P w K mg base N qual (defScope st) f cdv A outer s H E) [] (L2.start N vs) H s1 := inv_start S hr.hd e0 hl r x
  have hq := hq0 Q hsp
  refine wpAny_mono (ht.run [] s1 (L2.start N vs) H _ I hq) (fun fl s' hs => ?_) fun e s' hs => hs
  have fin : ∀ {σ' : L2.St} {H' : Hp} {v : V} {u : Value}, Inv (cxOf (L2.CX P w) P w K mg base N qual (defScope st) f cdv A outer s H E) [] σ' H' s' → RelV v u → Q v H' → CE outer P w H s Q u s' :=
    fun {σ' H' v u} J rv q => ⟨v, H', J.os, J.bare, J.base, J.hok, rv, q⟩
  cases fl with
  | ret u =>
    obtain ⟨v, σ', H', J, rv, q⟩ := hs
    exact fin J rv q
  | next =>
    obtain ⟨σ', H', J, q⟩ := hs
    exact fin (v := V.non) (u := Value.none) J rfl q
  | brk =>
    obtain ⟨_, _, _, q⟩ := hs
    exact False.elim q
  | cont =>
    obtain ⟨_, _, _, q⟩ := hs
    exact False.elim q
end
/-! ### the pot's draw: the list is taken out of the dict while it is worked at -/
def takeL (ρ : VL.Env) (i : Nat) : Option (List W) := match ρ[i]? with
  | some (some (W.l ws)) => some ws
  | _ => none
def takeW (ρ : VL.Env) (i : Nat) : Option W := match ρ[i]? with
  | some (some w) => some w
  | _ => none
theorem takeL_eq {ρ : VL.Env} {i : Nat} {ws : List W} (h : takeL ρ i = some ws) : ρ[i]? = some (some (W.l ws)) := by
  unfold takeL at h
  split at h
  · rename_i us e
    cases h
    exact e
  · cases h
theorem takeW_eq {ρ : VL.Env} {i : Nat} {w : W} (h : takeW ρ i = some w) : ρ[i]? = some (some w) := by
  unfold takeW at h
  split at h
  · rename_i u e
    cases h
    exact e
  · cases h
def drawR (gc : VL.Env → R Bool) (gb gr : VL.Env → RS) : List W → RD := fun ws => match ws with
  | [.dk [(k1, .l gs), p2, p3], m] => if k1 = .inr "great" then (match gc [none, some m, some (.l gs), none, none] with
      | .ok true ρ1 => (match gb ρ1 with
        | .rt w ρ' => (match takeL ρ' 2 with
          | some gs' => .ok w [.dk [(k1, .l gs'), p2, p3]]
          | none => .stuck)
        | _ => .stuck)
      | .ok false ρ1 => (match takeL ρ1 2, takeW ρ1 1 with
        | some gs', some m' => (match gr [some (.dk [(k1, .l gs'), p2, p3]), some m', none, none, none] with
          | .rt w ρ' => (match takeW ρ' 0 with
            | some u => .ok w [u]
            | none => .stuck)
          | _ => .stuck)
        | _, _ => .stuck)
      | _ => .stuck) else .stuck
  | _ => .stuck
theorem ex_t {X : Cx} {Wx : WX} {io : List Nat} {e : Expr} {f : VL.Env → R Bool} (h : ∀ v0, VT X Wx io v0 e f) : PT X e (fun σ H Q => ∃ v0, tT X Wx io v0 f σ H Q) := ⟨fun pins s σ H Q I ⟨v0, q⟩ => (h v0).run pins s σ H Q I q⟩
theorem ex_s {X : Cx} {Wx : WX} {io : List Nat} {st : List Stmt} {g : VL.Env → RS} (h : ∀ v0, VSs X Wx io v0 st g) : PSs X st (fun D σ H => ∃ v0, tS X Wx io v0 g D σ H) := ⟨fun pins s σ H D I ⟨v0, q⟩ => (h v0).run pins s σ H D I q⟩
section
variable {X : Cx} {Wx : WX} {gc : VL.Env → R Bool} {gb gr : VL.Env → RS} {H : Hp} {vs : List V} {E : XK} {Q : VK} {N : List Str}
/-- the pot is put together again -/
theorem pot_back {K : PySem.W.Frag} {C H C2 H2 : Hp} {p : Addr} {k1 k2 k3 : Key} {g x2 x3 : V} {gs' : List W} {w2 w3 : W} {F1 Gr J : Foot} (st : Step C H F1 C2 H2) (hp : H p = some (.dK [(k1, g), (k2, x2), (k3, x3)])) (cp : C p = none) (np : ¬ F1 p) (o : Own K C2 H2 (.l gs') g J) (nj : New H F1 J)
    (r : OwnAll K C H [w2, w3] [x2, x3] Gr) (dr : ∀ a, Gr a → ¬ F1 a) (npr : ¬ Gr p) : Own K C2 H2 (.dk [(k1, .l gs'), (k2, w2), (k3, w3)]) (.ref p) (fun a => a = p ∨ J a ∨ Gr a) := by
  have hne : H p ≠ none := by rw [hp]; simp
  have njp : ¬ J p := fun z => by
    rcases nj p z with y | y
    · exact np y
    · exact hne y
  have dj : ∀ a, J a → ¬ Gr a := fun a z y => by
    rcases nj a z with q | q
    · exact dr a y q
    · exact (r.foot y).1 q
  exact .dk (kvs := [(k1, g), (k2, x2), (k3, x3)]) (st.fr p _ hp np) (stay_of st ⟨hne, cp⟩ np).2 rfl (.cons o (r.carry st dr) dj fun a => Iff.rfl) (fun z => z.elim njp npr) fun a => Iff.rfl
theorem draw_core {D1 D2 : Ends} (e1 : D1.rt = Q) (e2 : D2.rt = Q) (q : spW X.K X.mg 2 [0] (drawR gc gb gr) vs H Q E) :
    ∃ p g, L2.start ["pot", "many", "great", "own", "cell"] vs = [some (.ref p), vs[1]?, none, none, none] ∧ (∃ kvs, H p = some (.dK kvs) ∧ valV kvs (.inr "great") = some g) ∧
      (∃ v0, tT X Wx [0, 2] v0 gc [some (.ref p), vs[1]?, some g, none, none] H fun b H1 =>
        if b = true then ∃ v0, tS X Wx [0, 2] v0 gb D1 [some (.ref p), vs[1]?, some g, none, none] H1
        else ∃ v0, tS X Wx [0] v0 gr D2 [some (.ref p), vs[1]?, some g, none, none] H1) := by
  obtain ⟨hl, C, F, ws, sb, ow, post⟩ := q
  have shape : drawR gc gb gr ws ≠ .stuck := fun z => by rw [z] at post; exact post
  obtain ⟨gs, p2, p3, m, rfl⟩ : ∃ gs p2 p3 m, ws = [.dk [(.inr "great", .l gs), p2, p3], m] := by
    unfold drawR at shape
    split at shape
    · split at shape
      · rename_i hk
        exact ⟨_, _, _, _, by rw [hk]⟩
      · exact (shape rfl).elim
    · exact (shape rfl).elim
  obtain ⟨k2, w2⟩ := p2
  obtain ⟨k3, w3⟩ := p3
  unfold drawR at post
  simp only [if_true] at post
  cases ow with
  | cons o1 t1 d1 q1 =>
    cases t1 with
    | cons o2 t2 d2 q2 =>
      cases t2 with
      | nil n2 =>
        rename_i v1 Fp Fr v2 Gm Gn
        cases o1 with
        | dk hp cp ke oa npG qF =>
          rename_i kvs p G
          -- the dict's three entries
          match kvs, ke, oa with
          | [(a1, g), (a2, x2), (a3, x3)], ke, oa =>
            simp only [List.map_cons, List.map_nil, List.cons.injEq, and_true] at ke
            obtain ⟨rfl, rfl, rfl⟩ := ke
            have oa' : OwnAll X.K C H [.l gs, w2, w3] [g, x2, x3] G := oa
            cases oa' with
            | cons og orr dg qg =>
              rename_i Gg Gr
              have npg : ¬ Gg p := fun z => npG ((qg p).mpr (.inl z))
              have npr : ¬ Gr p := fun z => npG ((qg p).mpr (.inr z))
              have mF : ∀ a, Gm a → Fr a := fun a z => (q2 a).mpr (.inl z)
              have npm : ¬ Gm p := fun z => d1 p ((qF p).mpr (.inl rfl)) (mF p z)
              have dgm : ∀ a, Gm a → ¬ Gg a := fun a z y => d1 a ((qF a).mpr (.inr ((qg a).mpr (.inl y)))) (mF a z)
              have drm : ∀ a, Gr a → ¬ Gm a := fun a z y => d1 a ((qF a).mpr (.inr ((qg a).mpr (.inr z)))) (mF a y)
              let F1 : Foot := Foot.or Gm Gg
              have drF1 : ∀ a, Gr a → ¬ F1 a := fun a z y => y.elim (drm a z) fun y => dg a y z
              have npF1 : ¬ F1 p := fun z => z.elim npm npg
              have subF : ∀ a, F1 a → F a := fun a z => z.elim (fun z => (q1 a).mpr (.inr (mF a z))) fun z => (q1 a).mpr (.inl ((qF a).mpr (.inr ((qg a).mpr (.inl z)))))
              have rF : ∀ a, Gr a → F a := fun a z => (q1 a).mpr (.inl ((qF a).mpr (.inr ((qg a).mpr (.inr z)))))
              have pF : F p := (q1 p).mpr (.inl ((qF p).mpr (.inl rfl)))
              let σ1 : L2.St := [some (.ref p), some v2, some g, none, none]
              have en : OwnEnv X.K C H [none, some m, some (.l gs), none, none] σ1 F1 := .non (.som o2 (.som (G' := Foot.none) og (.non (.non (.nil fun _ z => z))) (fun _ _ z => z) fun a => ⟨.inl, fun z => z.elim id fun z => z.elim⟩) dgm fun a => Iff.rfl)
              have st1 : St X.K [0, 2] σ1 [none, some m, some (.l gs), none, none] σ1 C H F1 := ⟨en, sb, fun _ _ => rfl⟩
              refine ⟨p, g, rfl, ⟨_, hp, by simp [valV]⟩, σ1, [none, some m, some (.l gs), none, none], C, F1, st1, ?_⟩
              cases hc : gc [none, some m, some (.l gs), none, none] with
              | stuck => rw [hc] at post; exact post.elim
              | exn e ρ => rw [hc] at post; exact post.elim
              | ok b ρ1 =>
                rw [hc] at post
                intro C1 H1 F2 t1
                cases b with
                | true =>
                  simp only [if_true] at post ⊢
                  refine ⟨σ1, ρ1, C1, F2, t1.st, ?_⟩
                  cases hb : gb ρ1 with
                  | nx ρ' => simp only [hb] at post
                  | exn e ρ' => simp only [hb] at post
                  | stuck => simp only [hb] at post
                  | rt w ρ' =>
                    simp only [hb] at post
                    cases hgs : takeL ρ' 2 with
                    | none => simp only [hgs] at post
                    | some gs' =>
                    simp only [hgs] at post
                    replace hgs := takeL_eq hgs
                    intro v σ' C3 H3 G3 F3 t3
                    have tt := t1.transV t3
                    obtain ⟨v', J, J', b1, b2, e3, e4, e5⟩ := tt.to.st.env.out hgs
                    have e6 : σ'[2]? = some (some g) := tt.to.st.fix 2 (by simp)
                    rw [e6] at b1
                    cases b1
                    have jF3 : ∀ a, J a → F3 a := fun a z => (e5 a).mpr (.inl z)
                    have nJ : New H F1 J := fun a z => tt.to.new a (jF3 a z)
                    have op := pot_back tt.to.step hp cp npF1 b2 nJ orr drF1 npr
                    have nP : ∀ a, (a = p ∨ J a ∨ Gr a) → F a ∨ H a = none := fun a z => by
                      rcases z with rfl | z | z
                      · exact .inl pF
                      · exact (nJ a z).imp (subF a) id
                      · exact .inl (rF a z)
                    rw [e1]
                    refine post v C3 H3 G3 (fun a => a = p ∨ J a ∨ Gr a) ⟨tt.to.step.mono subF, nP, tt.to.st.sub, .cons (G' := Foot.none) op (.nil fun _ z => z) (fun _ _ z => z) fun a => ⟨.inl, fun z => z.elim id fun z => z.elim⟩⟩ (fun a z => (tt.newv a z).imp (subF a) id) (fun a z y => ?_) tt.own
                    rcases y with rfl | y | y
                    · rcases tt.newv a z with x | x
                      · exact npF1 x
                      · rw [hp] at x; cases x
                    · exact tt.dis a z (jF3 a y)
                    · rcases tt.newv a z with x | x
                      · exact drF1 a y x
                      · exact (orr.foot y).1 x
                | false =>
                  simp only [Bool.false_eq_true, if_false] at post ⊢
                  cases hgs : takeL ρ1 2 with
                  | none => simp only [hgs] at post
                  | some gs' =>
                  cases hm : takeW ρ1 1 with
                  | none => simp only [hgs, hm] at post
                  | some m' =>
                  simp only [hgs, hm] at post
                  replace hgs := takeL_eq hgs
                  replace hm := takeW_eq hm
                  obtain ⟨v', J, J', b1, b2, e3, e4, e5⟩ := t1.st.env.out hgs
                  obtain rfl : g = v' := by simpa using b1
                  have hm' : (ρ1.set 2 none)[1]? = some (some m') := by rw [List.getElem?_set_ne (by decide)]; exact hm
                  obtain ⟨v'', M, M', f1, f2, f3, f4, f5⟩ := e3.out hm'
                  obtain rfl : v2 = v'' := by simpa using f1
                  have jF2 : ∀ a, J a → F2 a := fun a z => (e5 a).mpr (.inl z)
                  have mF2 : ∀ a, M a → F2 a := fun a z => (e5 a).mpr (.inr ((f5 a).mpr (.inl z)))
                  have dJM : ∀ a, J a → ¬ M a := fun a z y => e4 a z ((f5 a).mpr (.inl y))
                  have nJ : New H F1 J := fun a z => t1.new a (jF2 a z)
                  have nM : New H F1 M := fun a z => t1.new a (mF2 a z)
                  have op := pot_back t1.step hp cp npF1 b2 nJ orr drF1 npr
                  have dPM : ∀ a, (a = p ∨ J a ∨ Gr a) → ¬ M a := fun a z y => by
                    rcases z with rfl | z | z
                    · rcases nM a y with x | x
                      · exact npF1 x
                      · rw [hp] at x; cases x
                    · exact dJM a z y
                    · rcases nM a y with x | x
                      · exact drF1 a z x
                      · exact (orr.foot z).1 x
                  let F4 : Foot := Foot.or (fun a => a = p ∨ J a ∨ Gr a) M
                  have en4 : OwnEnv X.K C1 H1 [some (.dk [(.inr "great", .l gs'), (a2, w2), (a3, w3)]), some m', none, none, none] σ1 F4 :=
                    .som op (.som (G' := Foot.none) f2 (.non (.non (.non (.nil fun _ z => z)))) (fun _ _ z => z) fun a => ⟨.inl, fun z => z.elim id fun z => z.elim⟩) dPM fun a => Iff.rfl
                  have n4 : New H F F4 := fun a z => by
                    rcases z with (rfl | z | z) | z
                    · exact .inl pF
                    · exact (nJ a z).imp (subF a) id
                    · exact .inl (rF a z)
                    · exact (nM a z).imp (subF a) id
                  refine ⟨σ1, _, C1, F4, ⟨en4, t1.st.sub, fun _ _ => rfl⟩, ?_⟩
                  cases hr : gr [some (.dk [(.inr "great", .l gs'), (a2, w2), (a3, w3)]), some m', none, none, none] with
                  | nx ρ' => simp only [hr] at post
                  | exn e ρ' => simp only [hr] at post
                  | stuck => simp only [hr] at post
                  | rt w ρ' =>
                    simp only [hr] at post
                    cases hu : takeW ρ' 0 with
                    | none => simp only [hu] at post
                    | some u =>
                    simp only [hu] at post
                    replace hu := takeW_eq hu
                    intro v σ' C3 H3 G3 F3 t3
                    obtain ⟨v', U, U', e1', e2', e3', e4', e5'⟩ := t3.to.st.env.out hu
                    have e6' : σ'[0]? = some (some (.ref p)) := t3.to.st.fix 0 (by simp)
                    rw [e6'] at e1'
                    cases e1'
                    have uF3 : ∀ a, U a → F3 a := fun a z => (e5' a).mpr (.inl z)
                    have stF : Step C H F C3 H3 := (t1.step.mono subF).trans (t3.to.step.mono (F' := F4) fun a z => z) n4
                    rw [e2]
                    refine post v C3 H3 G3 U ⟨stF, fun a z => New.trans (t1.step.mono subF) n4 t3.to.new a (uF3 a z), t3.to.st.sub, .cons (G' := Foot.none) e2' (.nil fun _ z => z) (fun _ _ z => z) fun a => ⟨.inl, fun z => z.elim id fun z => z.elim⟩⟩ (New.trans (t1.step.mono subF) n4 t3.newv) (fun a z y => t3.dis a z (uF3 a y)) t3.own
end
end VL
set_option maxHeartbeats 4000000
namespace VL
open PySem PySem.Spec PyProof.Rows L2
/-! ### a table of the module: a dict of texts to tuples of texts -/
def KTup (K : PySem.W.Frag) (a : Addr) (ts : List Str) : Prop := ∃ (o : Obj) (its : Array Value) (n : Nat), K.lookup a = some o ∧ o.cls = .type "tuple" ∧ o.data = .seq its n ∧ its.size ≤ sizeLine ∧ Vals (ts.map V.str) its.toList
def Tab (K : PySem.W.Frag) (w : World) (mg : Str → Option Value) (x : Str) (tab : List (Str × List Str)) : Prop :=
  ∃ d es n, mg x = some (.ref d) ∧ KDict K w d es n ∧ ∀ z : Str, match tab.lookup z with
    | some ts => ∃ a, PySem.W.nsIn K d z = some (some (.ref a)) ∧ KTup K a ts
    | none => PySem.W.nsIn K d z = some none
def notInTab (tab : List (Str × List Str)) : W → Option W
  | .c (.str z) => some (.c (.bool (!(tab.lookup z).isSome)))
  | _ => none
def ixTab (tab : List (Str × List Str)) : W → Option W
  | .c (.str z) => (tab.lookup z).map fun ts => .ks false (ts.map .str)
  | _ => none
theorem rep_strs {K : PySem.W.Frag} {C : Hp} : ∀ ts : List Str, RepAll K C (ts.map V.str) (ts.map .str)
  | [] => .nil
  | t :: r => .cons (.str t) (rep_strs r)
section
variable {X : Cx} {Wx : WX} {io : List Nat} {v0 : L2.St} {e : Expr} {x : Str} {p pos : Pos} {oa : Opd} {tab : List (Str × List Str)} {k : Nat}
theorem vt_notInTab (T : Tab X.K X.w X.mg x tab) (ha : VO X Wx io v0 e oa) (hg : Gl X x := by rfl) (hd : (x == ("__debug__" : Str)) = false := by decide) (hm : behindInMarks .NotIn (.Name x p) = false := by rfl) : VT X Wx io v0 (.Compare e [.NotIn] [.Name x p] pos) (tst (prim (P1 (notInTab tab)) [oa])) := by
  obtain ⟨d, es, n, h1, D, h2⟩ := T
  refine pt_mono (pt_cmpR (op_notIn_kd D) ha (pe_glob hg h1 (show RelV (.ref d) (.ref d) from rfl) hd) hm) fun σ H Q q => ?_
  have q1 := tst_of q
  have ok : PrimOk X.K (fun vs H Q => ∃ y, vs = [y] ∧ ∃ (z : Str) (r : Option Value), y = .str z ∧ PySem.W.nsIn X.K d z = some r ∧ Q (.bl (!r.isSome)) H) (P1 (notInTab tab)) := fun C H ws vs w Q s o e q => by
    unfold P1 at e
    split at e
    · rename_i w1
      obtain ⟨v, F, rfl, o1⟩ := ownL1 o
      unfold notInTab at e
      split at e
      · rename_i z
        cases e
        have h3 := h2 z
        refine ⟨v, rfl, z, ?_⟩
        cases h4 : tab.lookup z with
        | none =>
          rw [h4] at h3 q
          exact ⟨none, rep_str (own_c o1), h3, end_sc s q (.bl _)⟩
        | some ts =>
          rw [h4] at h3 q
          obtain ⟨a, h5, _⟩ := h3
          exact ⟨_, rep_str (own_c o1), h5, end_sc s q (.bl _)⟩
      · cases e
    · cases e
  refine tO_mono (fun y H1 q2 => ?_) (tAs_cons (prim_of ok q1))
  obtain ⟨y', ey, z, r, e1, e2, q3⟩ := tAs_nil q2
  cases ey
  exact ⟨z, r, e1, rfl, e2, q3⟩
theorem ve_ixTab (T : Tab X.K X.w X.mg x tab) (hb : VO X Wx io v0 e oa) (hg : Gl X x := by rfl) (hd : (x == ("__debug__" : Str)) = false := by decide) (hs : PlainIx e := by exact fun _ _ => rfl) : VE X Wx io v0 (.Subscript (.Name x p) e pos) (prim (P1 (ixTab tab)) [oa]) := by
  obtain ⟨d, es, n, h1, D, h2⟩ := T
  refine pe_mono (pe_ix ix_kdict (pe_glob hg h1 (show RelV (.ref d) (.ref d) from rfl) hd) hb hs) fun σ H Q q => ?_
  have ok : PrimOk X.K (fun vs H Q => ∃ y, vs = [y] ∧ ∃ z v, y = .str z ∧ KDct X.K X.w d z v ∧ Q v H) (P1 (ixTab tab)) := fun C H ws vs w Q s o e q => by
    unfold P1 at e
    split at e
    · rename_i w1
      obtain ⟨v, F, rfl, o1⟩ := ownL1 o
      unfold ixTab at e
      split at e
      · rename_i z
        cases h4 : tab.lookup z with
        | none => rw [h4] at e; cases e
        | some ts =>
          rw [h4] at e
          simp only [Option.map_some, Option.some.injEq] at e
          subst e
          have h3 := h2 z
          rw [h4] at h3
          obtain ⟨a, h5, h6⟩ := h3
          refine ⟨v, rfl, z, .ref a, rep_str (own_c o1), ⟨es, n, .ref a, D.at_, D.lit, h5, rfl⟩, ?_⟩
          exact q (.ref a) C H Foot.none (Step.refl _) New.zero s (.ks (l := false) (xs := ts.map V.str) (.inr h6) (rep_strs ts) fun _ z => z)
      · cases e
    · cases e
  refine tO_mono (fun y H1 q2 => ?_) (tAs_cons (prim_of ok q))
  obtain ⟨y', ey, z, v, e1, e2, q3⟩ := tAs_nil q2
  cases ey
  exact ⟨d, z, v, rfl, e1, e2, q3⟩
end
end VL
set_option maxHeartbeats 4000000
namespace VL
open PySem PySem.Spec PyProof.Rows L2
/-! ### the end: the law's own def, called with the script -/
/-- a base from which the tracked script is left out -/
theorem base_ok {P : Program} {w : World} {K : PySem.W.Frag} {mg mb : Str → Option Value} {s₁ : Shared} {a : Addr} {vs : List Value} {H : Hp}
    (KX : K.In s₁.heap) (hns : s₁.heap.Ns mainGlobals mg) (hb : s₁.heap.Ns builtinsNs mb) (hbb : ∀ x : Str, x ≠ "__name__" → mb x = bootBuiltins x) (hlim : s₁.heap.NoLimit)
    (ha : s₁.heap.get? a = some { cls := .type "list", data := .seq vs.toArray }) (hA : ∀ b, H b ≠ none → b = a) (hK : H a ≠ none → K.lookup a = none) :
    K.In (hidT s₁.heap H) ∧ Mod K mg (hidT s₁.heap H) := by
  have dicts : ∀ {b : Addr} {m : Str → Option Value}, s₁.heap.Ns b m → (hidT s₁.heap H).Ns b m := by
    rintro b m ⟨o, es, ep, e, d, r⟩
    have hn : H b = none := by
      by_cases q : H b = none
      · exact q
      · obtain rfl := hA b q
        rw [ha] at e
        cases e
        exact nomatch (show Data.seq vs.toArray _ = Data.dict es ep from d)
    exact ⟨o, es, ep, hidT_get e hn, d, r⟩
  have inn : K.In (hidT s₁.heap H) := by
    intro b o e
    have hn : H b = none := by
      by_cases q : H b = none
      · exact q
      · obtain rfl := hA b q
        have := hK q
        rw [e] at this
        cases this
    exact hidT_get (KX b o e) hn
  obtain ⟨mc, c1, c2⟩ := hlim
  exact ⟨inn, inn, dicts hns, ⟨mb, dicts hb, hbb⟩, ⟨mc, dicts c1, c2⟩⟩
theorem rep_intList {K : PySem.W.Frag} {C : Hp} : ∀ ns : List Int, RepAll K C (ns.map V.int) (ns.map .int)
  | [] => .nil
  | n :: r => .cons (.int n) (rep_intList r)
theorem call_with {P : Program} {w : World} {K : PySem.W.Frag} {mg mb : Str → Option Value} {k : Nat} {fa a : Addr} {fd : FuncData} {x : Str} {s₁ : Shared} {vs : List Value} {ns : List Int} {g : List W → RD} {H : Hp}
    (KX : K.In s₁.heap) (hns : s₁.heap.Ns mainGlobals mg) (hb : s₁.heap.Ns builtinsNs mb) (hbb : ∀ x : Str, x ≠ "__name__" → mb x = bootBuiltins x) (hlim : s₁.heap.NoLimit) (hg : s₁.gens = #[])
    (ha : s₁.heap.get? a = some { cls := .type "list", data := .seq vs.toArray }) (hr : Room k callerA) (F : ∀ base : Heap, K.In base → base.Ns mainGlobals mg → FnG P w K mg base k fa fd [x] (spW K mg 1 [] g))
    (hbind : ∀ (s : Shared) (u : Value), BindsTo s fd ⟨[u], []⟩ [(x, u)]) (hgr : ∃ us, g [.ks true (ns.map .int)] = .ok (.c (.bool true)) us)
    (hS : SqL K H a (ns.map V.int)) (hok : HOk P w H s₁.heap) (hA : ∀ b, H b ≠ none → b = a) (hK : H a ≠ none → K.lookup a = none) (hO : L2.Only H) :
    codeAny (model P w) callerA (.call (.ref fa) ⟨[.ref a], []⟩) (fun r s' => r = .ok (.ret (.bool true)) ∧ OldK s₁.heap s'.heap ∧ s'.os = s₁.os ∧ AllBare s'.gens) s₁ := by
  obtain ⟨inn, hM⟩ := base_ok (P := P) (w := w) KX hns hb hbb hlim ha hA hK
  have e0 : Env0 P w K mg (hidT s₁.heap H) callerA [] s₁ H := ⟨rfl, hM, fun b o e => of_hidT e, Nat.le_of_eq (hidT_size _ _), trivial, fun b hb => absurd (show b ∈ ([] : List Addr) from hb) (by simp), hok, AllBare.of_eq hg⟩
  obtain ⟨us, hgr⟩ := hgr
  have hsp : spW K mg 1 [] g [.ref a] H (fun v _ => v = .bl true) fun _ _ _ => False := by
    refine ⟨rfl, H, Foot.none, [.ks true (ns.map .int)], Same.refl H, .cons (G := Foot.none) (G' := Foot.none) (.ks (l := true) hS ?_ fun _ z => z) (.nil fun _ z => z) (fun _ z => z.elim) (fun a => ⟨.inl, fun z => z.elim id id⟩), ?_⟩
    · exact rep_intList ns
    · rw [hgr]
      intro v C' H' G F' _ _ _ o
      exact rep_bl (own_c o)
  refine codeAny_mono ((F _ inn hM.glob).run callerA [] s₁ H ⟨[.ref a], []⟩ [.ref a] [.ref a] _ _ hr rfl e0 (hbind s₁ (.ref a)) (.cons rfl .nil) hsp) fun r s' h => ?_
  cases r with
  | error e =>
    obtain ⟨_, _, _, _, _, _, _, _, _, _, _, _, z⟩ := h
    exact z.elim
  | ok fl =>
    cases fl with
    | ret u =>
      obtain ⟨v, H', os, bare, un, hok', r', q'⟩ := h
      obtain rfl : v = .bl true := q'
      obtain rfl : u = Value.bool true := r'
      refine ⟨rfl, OldK.of_keep fun b o e => ?_, os, bare⟩
      rcases hO b with z | ⟨ob, xs, z⟩
      · exact un.keep b o e z (fun z => nomatch z) (by simp)
      · have z2 := un.frzs b ob _ z
        obtain ⟨e1, _⟩ := hok b _ z
        obtain ⟨e2, _⟩ := hok' b _ z2
        rw [e] at e1; cases e1
        exact e2
    | next => exact False.elim h
    | brk => exact False.elim h
    | cont => exact False.elim h
/-- the script, whether it is tracked or an object of the written part -/
theorem call_law {P : Program} {w : World} {K : PySem.W.Frag} {mg mb : Str → Option Value} {k : Nat} {fa a : Addr} {fd : FuncData} {x : Str} {s₁ : Shared} {vs : List Value} {ns : List Int} {g : List W → RD}
    (KX : K.In s₁.heap) (hns : s₁.heap.Ns mainGlobals mg) (hb : s₁.heap.Ns builtinsNs mb) (hbb : ∀ x : Str, x ≠ "__name__" → mb x = bootBuiltins x) (hlim : s₁.heap.NoLimit) (hg : s₁.gens = #[])
    (ha : s₁.heap.get? a = some { cls := .type "list", data := .seq vs.toArray }) (hi : IntsAre vs ns) (hl : ns.length ≤ sizeLine) (hr : Room k callerA) (F : ∀ base : Heap, K.In base → base.Ns mainGlobals mg → FnG P w K mg base k fa fd [x] (spW K mg 1 [] g))
    (hbind : ∀ (s : Shared) (u : Value), BindsTo s fd ⟨[u], []⟩ [(x, u)]) (hgr : ∃ us, g [.ks true (ns.map .int)] = .ok (.c (.bool true)) us) :
    codeAny (model P w) callerA (.call (.ref fa) ⟨[.ref a], []⟩) (fun r s' => r = .ok (.ret (.bool true)) ∧ OldK s₁.heap s'.heap ∧ s'.os = s₁.os ∧ AllBare s'.gens) s₁ := by
  have rv : Vals (ns.map V.int) vs := vals_ints hi
  have nl : (ns.map V.int).length ≤ sizeLine := by simpa using hl
  cases hk : K.lookup a with
  | some o =>
    obtain rfl : o = { cls := .type "list", data := .seq vs.toArray } := Option.some.inj ((KX a o hk).symm.trans ha)
    refine call_with (H := fun _ => none) KX hns hb hbb hlim hg ha hr F hbind hgr (.inr ⟨_, vs.toArray, _, hk, rfl, rfl, rfl, ?_, by simpa using rv⟩) (fun b u z => nomatch (show (none : Option HO) = some u from z)) (fun b z => (z rfl).elim) (fun z => (z rfl).elim) fun b => .inl rfl
    rw [List.size_toArray, ← rv.length]
    exact nl
  | none =>
    let ob : Obj := { cls := .type "list", data := .seq vs.toArray }
    let Hs : Hp := fun b => if b = a then some (.frz ob (.lst (ns.map V.int))) else none
    have at_ : Hs a = some (.frz ob (.lst (ns.map V.int))) := if_pos rfl
    have off : ∀ {b : Addr}, b ≠ a → Hs b = none := fun h => if_neg h
    refine call_with (H := Hs) KX hns hb hbb hlim hg ha hr F hbind hgr (.inl (.inr ⟨ob, at_⟩)) (fun b u z => ?_) (fun b z => ?_) (fun _ => hk) fun b => ?_
    · by_cases e : b = a
      · subst e
        obtain rfl := Option.some.inj (at_.symm.trans z)
        exact ⟨ha, nl, vs, _, rv, ha⟩
      · rw [off e] at z
        exact nomatch z
    · by_cases e : b = a
      · exact e
      · exact (z (off e)).elim
    · by_cases e : b = a
      · exact .inr ⟨ob, _, by rw [e]; exact at_⟩
      · exact .inl (off e)
/-- the goal that the head leaves -/
theorem walk_G {l : PySem.W.OpenLaw} {n k : Nat} {q : Program} {loose : List Str} {XP : (Str → Option Value) → Heap → Prop} {YP : World → Heap → Prop} {d : DefRec} {K : Params → PySem.W.Frag} {g : List W → RD} {x : Str}
    (hn : l.most = some n) (hn2 : n ≤ sizeLine) (hdf : d.params.defaults = []) (hr : Room k callerA) (hY : ∀ (w : World) (h : Heap), YP w h → (K w.params).In h)
    (F : ∀ (w : World) (mg : Str → Option Value) (fa : Addr) (h : Heap), (K w.params).In h → h.Ns mainGlobals mg → mg d.name = some (.ref fa) → ∃ fd : FuncData, (∀ (s : Shared) (u : Value), BindsTo s fd ⟨[u], []⟩ [(x, u)]) ∧ ∀ base : Heap, (K w.params).In base → base.Ns mainGlobals mg → FnG l.prog w (K w.params) mg base k fa fd [x] (spW (K w.params) mg 1 [] g))
    (plain : ∀ ns : List Int, ns.length ≤ n → ∃ us, g [.ks true (ns.map .int)] = .ok (.c (.bool true)) us) : PySem.W.WalkO q loose XP YP l.row.toRowW d [] (fun f vs => PySem.call f vs) := by
  refine Att.attach_call hn hdf fun w s₀ s₁ mg mb fa o pm cd doc a vs ns G Y ho hd hcd hmg hobj hints hlen hg => ?_
  obtain ⟨fd, hb, hF⟩ := F w mg fa _ (hY w _ Y) G.T.g hmg
  exact call_law (hY w _ Y) G.T.g G.T.b G.T.builtins G.T.nolimit hg hobj hints (Nat.le_trans hlen hn2) hr hF hb (plain ns hlen)
/-- how a call by names alone binds -/
theorem Fun_kw {K : PySem.W.Frag} {x qual : Str} {st : Stmt} {f : Addr} {fd : FuncData} {ps ks : List Str} {π : List Nat} (F : Fun K x qual st f fd)
    (h : ∀ (kV doc pm : Value) (an : Option Addr) (cdv ct : Value) (ws : List Value), ws.length = ks.length → bindArgs (PySem.W.fnOf x qual (defArgs st) (defBody st) (defScope st) .none kV doc pm an cdv ct) ⟨[], ks.zip ws⟩ = pure (ps.zip (π.map fun i => ws.getD i .none))) : KwOk K fd ps ks π := by
  obtain ⟨_, _, kV, doc, pm, an, cdv, ct, _, rfl, _, _⟩ := F.ex
  exact KwOk.of (h kV doc pm an cdv ct)
/-! ### a table of the written part, from its entries -/
theorem ktup_mk {K : PySem.W.Frag} {a : Addr} {ts : List Str} {dd : Option Addr} {its : Array Value} {n : Nat} {sl : Array (Option Value)} (l : K.lookup a = some ⟨.type "tuple", dd, .seq its n, sl⟩) (hz : its.size ≤ 1000) (v : Vals (ts.map V.str) its.toList) : KTup K a ts := ⟨_, its, n, l, rfl, rfl, small_line hz, v⟩
inductive TabIn (K : PySem.W.Frag) : List DictEntry → List (Str × List Str) → Prop
  | nil : TabIn K [] []
  | cons {e : DictEntry} {es : List DictEntry} {z : Str} {t : Tok} {a : Addr} {ts : List Str} {tab : List (Str × List Str)} : e.key = .str z t → e.val = .ref a → KTup K a ts → TabIn K es tab → TabIn K (e :: es) ((z, ts) :: tab)
theorem TabIn.noref {K : PySem.W.Frag} : ∀ {es : List DictEntry} {tab : List (Str × List Str)}, TabIn K es tab → es.any (·.refKey) = false
  | _, _, .nil => rfl
  | _, _, .cons h1 _ _ t => by
    rw [List.any_cons, TabIn.noref t, Bool.or_false]
    unfold DictEntry.refKey
    rw [h1]
theorem TabIn.find {K : PySem.W.Frag} (z : Str) : ∀ {es : List DictEntry} {tab : List (Str × List Str)}, TabIn K es tab → match tab.lookup z with
    | some ts => ∃ e a, es.find? (·.key.isStr z) = some e ∧ e.val = .ref a ∧ KTup K a ts
    | none => es.find? (·.key.isStr z) = none
  | _, _, .nil => rfl
  | _, _, .cons (e := e) (es := es) (z := y) (t := t) (a := a) (ts := ts) (tab := tab) h1 h2 h3 r => by
    have ih := TabIn.find z r
    by_cases q : z = y
    · subst q
      rw [List.lookup_cons, beq_self_eq_true]
      refine ⟨e, a, ?_, h2, h3⟩
      rw [List.find?_cons, h1]
      simp [Value.isStr]
    · rw [List.lookup_cons, beq_eq_false_iff_ne.mpr q]
      have hf : (e.key.isStr z) = false := by
        rw [h1]
        simp [Value.isStr, Ne.symm q]
      simp only [List.find?_cons, hf]
      exact ih
theorem tab_mk {K : PySem.W.Frag} {w : World} {h : Heap} {mg : Str → Option Value} {x : Str} {tab : List (Str × List Str)} {d : Addr} {es : Array DictEntry} {n : Nat} (X : K.In h) (G : h.Ns mainGlobals mg) (a : PySem.W.nsIn K mainGlobals x = some (some (.ref d)))
    (l : K.lookup d = some ⟨.type "dict", none, .dict es n, #[]⟩) (lit : PySem.W.KeysLit w.params es.toList) (low : (d == sysModules) = false) (t : TabIn K es.toList tab) : Tab K w mg x tab := by
  refine ⟨d, es, n, PySem.W.mg_of X G a, ⟨l, lit, low⟩, fun z => ?_⟩
  have f := t.find z
  cases e : tab.lookup z with
  | some ts =>
    rw [e] at f
    obtain ⟨en, b, h1, h2, h3⟩ := f
    refine ⟨b, ?_, h3⟩
    unfold PySem.W.nsIn
    rw [l]
    simp only [h1, h2]
  | none =>
    rw [e] at f
    show PySem.W.nsIn K d z = some none
    unfold PySem.W.nsIn
    rw [l]
    simp only [f, t.noref, Bool.false_eq_true, if_false]
end VL
set_option maxHeartbeats 4000000
namespace PySem.W
open PySem PySem.Calls PyProof.Rows
section
variable {prog : Program} {w : World} {A : Around} {E : Value → Shared → Prop} {s : Shared} {β : Type} {vs : List Value} {bs : List β} {enc : β → PyData} {R : Value → β → Prop}
/-- the items of a tuple, taken off into a list -/
theorem collect_tuple {l : Addr} {Q : List Value → Shared → Prop} (ht : s.heap.IsTuple l vs.toArray) (hz : vs.length ≤ sizeLine)
    (h : Q vs { s with heap := (s.heap.push (seqObj "list" #[] 0)).update s.heap.objs.size (Obj.mapSeq (· ++ vs.toArray)) }) : wpAny (model prog w) A (collect (.ref l)) Q E s := by
  obtain ⟨o, ho, hc, n, hd⟩ := id ht
  unfold collect
  refine wpAny_bind (wpAny_runValue (codeAny_builtin F.entry_proto_collect ?_))
  show wpAny _ _ (do again (.builtin "list.__iadd__" ⟨[← newList [], .ref l], []⟩)) _ _ s
  refine wpAny_bind (wpAny_newList (wpAny_pure ⟨Code.quiet_builtin _ (by decide +kernel), codeAny_builtin F.entry_list_iadd ?_⟩))
  show wpAny _ _ (Builtin.List.listExtendWith (.ref s.heap.objs.size) (.ref l) (.ref s.heap.objs.size)) _ _ { s with heap := s.heap.push (seqObj "list" #[] 0) }
  unfold Builtin.List.listExtendWith
  have ho' : (s.heap.push (seqObj "list" #[] 0)).get? l = some o := Heap.get?_push_of_some _ ho
  have tt : (Value.type "tuple" == Value.type "tuple") = true := by rfl
  refine wpAny_bind (wpAny_typeOf (T := "tuple") ⟨o, ho', hc⟩ ?_)
  rw [if_pos (by rw [tt]; simp)]
  refine wpAny_bind (listItems_at ho' hd ?_)
  refine wpAny_bind (listItems_at (xs := #[]) (n := 0) (Heap.get?_push_size _ rfl) rfl ?_)
  rw [if_neg (by simp)]
  refine wpAny_bind (listUpdate_at (xs := #[]) (n := 0) (Heap.get?_push_size _ rfl) rfl ?_ (Nat.zero_le _) (by show (#[] ++ vs.toArray).size ≤ sizeLine + 1; simp only [Array.size_append, List.size_toArray, List.length_nil]; omega))
  refine wpAny_pure ?_
  refine wpAny_bind (wpAny_load (get?_update_seq (Heap.get?_push_size _ rfl) _) ?_)
  show wpAny _ _ (pure ((#[] : Array Value) ++ vs.toArray).toList) Q E _
  rw [show ((#[] : Array Value) ++ vs.toArray).toList = vs by simp]
  exact wpAny_pure h
/-- sorted(t) of a tuple t -/
theorem sorted_tuple {l : Addr} {Q : Value → Shared → Prop} (ht : s.heap.IsTuple l vs.toArray) (e : EachIs R vs bs) (er : EachIs (fun v b => ∃ as, Reads s.heap v (enc b) as) vs bs) (hal : AllAlike (bs.map enc)) (hk : Sortable (bs.map enc)) (hL : bs.length ≤ sizeLine)
    (hu : ∀ b, b ∈ bs → A.units + 2 + (enc b).depth < cLine)
    (h : ∀ out h' p n, out.length = bs.length → EachIs R out (bs.mergeSort (dataLe false enc)) → (∀ b o, s.heap.get? b = some o → h'.get? b = some o) → s.heap.objs.size ≤ p → h'.get? p = some (seqObj "list" (List.toArray out) n) → Q (.ref p) { s with heap := h' }) :
    wpAny (model prog w) A (call (.builtin "sorted") [.ref l]) Q E s := by
  have hLv : vs.length ≤ sizeLine := by rw [e.length]; exact hL
  refine call_function_entry_kw kind_sorted plain_sorted entry_sorted (args_sorted1 _) ?_
  unfold Builtin.«sorted»
  refine wpAny_bind (m := checkCount "sorted" 1 1 _) (wpAny_pure ?_)
  refine wpAny_bind (collect_tuple ht hLv ?_)
  refine wpAny_bind (wpAny_newList ?_ (by simpa using hLv))
  obtain ⟨h1, eh⟩ : ∃ h1, h1 = (s.heap.push (seqObj "list" #[] 0)).update s.heap.objs.size (Obj.mapSeq (· ++ vs.toArray)) := ⟨_, rfl⟩
  rw [← eh]
  have hge : s.heap.objs.size ≤ h1.objs.size := by
    rw [eh, Heap.size_update, size_push']
    exact Nat.le_succ _
  have k1 : ∀ b o', s.heap.get? b = some o' → h1.get? b = some o' := fun b o' q => by
    rw [eh, Heap.get?_update_ne _ _ _ _ (Nat.ne_of_lt (Heap.lt_size q))]
    exact Heap.get?_push_of_some _ q
  have hat : (h1.push (seqObj "list" vs.toArray 0)).get? h1.objs.size = some (seqObj "list" vs.toArray 0) := Heap.get?_push_size _ rfl
  have kold : ∀ b o, s.heap.get? b = some o → (h1.push (seqObj "list" vs.toArray 0)).get? b = some o := fun b o q => Heap.get?_push_of_some _ (k1 b o q)
  have hne : ∀ b o, s.heap.get? b = some o → b ≠ h1.objs.size := fun b o q => Nat.ne_of_lt (Heap.lt_size (k1 b o q))
  have er' : EachIs (fun v b => ∃ as, Reads (sortingHeap (h1.push (seqObj "list" vs.toArray 0)) h1.objs.size vs) v (enc b) as) vs bs :=
    er.mono fun _ _ ⟨as, r⟩ => ⟨as, PyProof.Rows.Reads.keeps (fun b o q => sortingHeap_old (hne b o q) (kold b o q)) r⟩
  show wpAny _ _ _ _ _ { s with heap := h1.push (seqObj "list" vs.toArray 0) }
  refine wpAny_bind (wpAny_holding (wpAny_call_entry_kw slot_list_sort ⟨_, hat, rfl⟩ entry_list_sort ?body (args_list_sort _)))
  case body =>
    show wpAny (model prog w) A.in1.in1 (Builtin.«list.sort» ⟨[.ref h1.objs.size], []⟩) _ _ _
    refine list_sort_vals (s := { s with heap := h1.push (seqObj "list" vs.toArray 0) }) (κ := dataKind (sortingHeap (h1.push (seqObj "list" vs.toArray 0)) h1.objs.size vs) (bs.map enc)) hat
      (SortsAt.data (s := { s with heap := sortingHeap (h1.push (seqObj "list" vs.toArray 0)) h1.objs.size vs }) (each_map (R := fun v d => ∃ as, Reads (sortingHeap (h1.push (seqObj "list" vs.toArray 0)) h1.objs.size vs) v d as) enc er') hal hk (bound_map hu)) hLv ?_
    obtain ⟨ep, he⟩ := PyProof.Rows.sortedHeap_at (out := (sortVals (dataKind (sortingHeap (h1.push (seqObj "list" vs.toArray 0)) h1.objs.size vs) (bs.map enc)) false vs vs).toArray) hat
    refine ⟨_, rfl, wpAny_pure ⟨_, rfl, ?_⟩⟩
    refine h _ _ _ ep (by rw [sortVals_length false rfl]; exact e.length) (sortVals_data false e er' hal) (fun b o q => ?_) hge he
    rw [PyProof.Rows.sortedHeap_old (hne b o q) (Nat.lt_of_lt_of_le (Heap.lt_size (kold b o q)) (Nat.le_refl _))]
    exact kold b o q
end
end PySem.W
namespace VL
open PySem PySem.Spec PyProof.Rows L2
section
variable {X : Cx} {Wx : WX} {io : List Nat} {v0 : L2.St} {e : Expr} {es : List Expr} {os : List Opd} {k : Nat} {p : Pos} {pos : Pos}
def rSortT (K : PySem.W.Frag) (C : Hp) : List V → Hp → VK → Prop := fun vs H Q => ∃ a xs ds, vs = [.ref a] ∧ H a = some (.tup xs) ∧ xs.length ≤ sizeLine ∧ RepAll K C xs ds ∧ Same C H ∧ sortOk ds = true ∧ ∀ ys p, RepAll K C ys (sortD ds) → H p = none → Q (.ref p) (upd H p (.lst ys))
theorem call_sortT {C : Hp} (hr : Room k X.A) : CallR X (.builtin "sorted") (rSortT X.K C) := by
  intro pins s σ H vs us Q I rv h
  obtain ⟨a, xs, ds, rfl, ha, hzx, t, sb, ok, q⟩ := h
  obtain ⟨u, rfl, ru⟩ := vals1 rv
  cases ru
  obtain ⟨its, r, ht, hs⟩ := I.tuple (SqT.of ha)
  simp only [sortOk, Bool.and_eq_true, Bool.or_eq_true, decide_eq_true_eq] at ok
  obtain ⟨⟨⟨ok1, ok2⟩, ok3⟩, ok4⟩ := ok
  have dpa : DpAll X.K H xs ds := (t.mono sb).dp ok3
  have hlen : its.length = ds.length := by rw [← r.length, t.length]
  have hun := hr.un
  refine PySem.W.sorted_tuple (enc := fun d : PyData => d) (bs := ds) (R := fun u d => ∃ x, RelV x u ∧ Rep X.K C x d) ht (repAll_each t r) ?_ ?_ ?_ (by rw [← t.length]; exact hzx) (fun b hb => ?_) fun out h' p n ho eo old hp hat => ?_
  · obtain ⟨as, ra⟩ := Dp.readsAll I ds xs its dpa r
    have h0 := PySem.W.readsAll_each (h := s.heap) (fun d : PyData => d) (bs := ds) (vs := its) (as := as) (by simpa using ra)
    exact h0
  · intro d hd d' hd'
    rw [List.map_id'] at hd hd'
    exact List.all_eq_true.mp (List.all_eq_true.mp ok1 d hd) d' hd'
  · rw [List.map_id']
    rcases ok2 with ok2 | ok2
    · refine .inl fun d hd => ?_
      have := List.all_eq_true.mp ok2 d hd
      split at this
      · exact ⟨_, _, rfl⟩
      · cases this
    · refine .inr fun d hd => ?_
      have := List.all_eq_true.mp ok2 d hd
      split at this
      · cases this
      · cases this
      · rename_i h1 h2
        exact ⟨h1, fun xs e => h2 xs e⟩
  · have := depth_mem hb
    omega
  · obtain ⟨ys, h1, h2⟩ := each_repAll eo
    have hlz : ys.length ≤ sizeLine := by
      have e1 := h2.length
      have e3 := t.length
      have e4 : out.length = ds.length := ho
      omega
    exact ⟨.ref _, upd H p (.lst ys), I.laid (t' := s.toks) old hp ⟨hlz, out, n, h2, hat⟩, rfl, q _ _ h1 (I.hok.fresh hp)⟩
/-- sorted(x) of a list or a tuple -/
noncomputable def sortF (w : W) : Option W := match sitems w with
  | some ds => if sortOk ds = true ∧ ds.length ≤ sizeLine then some (.l ((sortD ds).map .c)) else none
  | none => none
theorem call_sortA (hr : Room k X.A) : CallR X (.builtin "sorted") (fun vs H Q => (∃ C, rSortD X.K C vs H Q) ∨ ∃ C, rSortT X.K C vs H Q) := by
  intro pins s σ H vs us Q I rv h
  rcases h with ⟨C, h⟩ | ⟨C, h⟩
  · exact call_sorted hr pins s σ H vs us Q I rv h
  · exact call_sortT hr pins s σ H vs us Q I rv h
theorem sort_ok {K : PySem.W.Frag} : PrimOk K (fun vs H Q => (∃ C, rSortD K C vs H Q) ∨ ∃ C, rSortT K C vs H Q) (P1 sortF) := fun C H ws vs w Q s o e q => by
  match ws, e with
  | [a], e =>
    obtain ⟨x, F, rfl, o1⟩ := ownL1 o
    have e : sortF a = some w := e
    unfold sortF at e
    split at e
    · rename_i ds hd
      split at e
      · rename_i hz
        cases e
        obtain ⟨p, xs, rfl, h1, h2⟩ := sitems_ok o1 s hd
        rcases h1 with h1 | ⟨h1, _⟩
        · exact .inl ⟨C, p, xs, ds, rfl, h1, h2, s, hz.1, fun ys l t hl => end_l s q t hl⟩
        · exact .inr ⟨C, p, xs, ds, rfl, s _ _ h1, by rw [h2.length]; exact hz.2, h2, s, hz.1, fun ys l t hl => end_l s q t hl⟩
      · cases e
    · cases e
theorem ve_sort (hr : Room k X.A) (hg : Gl X "sorted") (hm : X.mg "sorted" = none) (ha : VA X Wx io v0 (e :: es) os) (he : starEach (e :: es) X.env = (false, eval e X.env) :: starEach es X.env := by rfl) (hpl : (backTo pos (starEach es X.env)).any (·.1) = false := by rfl) :
    VE X Wx io v0 (.Call (.Name "sorted" p) (e :: es) [] pos) (prim (P1 sortF) os) := ve_callB (call_sortA hr) sort_ok hg hm (by decide +kernel) ha (by decide) (by decide) he hpl
end
end VL
set_option maxHeartbeats 4000000
namespace VL
open PySem PySem.Spec PyProof.Rows L2
/-! texts told apart, whatever stands in them -/
section
variable {X : Cx} {Wx : WX} {io : List Nat} {v0 : L2.St} {oa ob : Opd} {a b : Expr} {pos : Pos}
def eqS2 : W → W → Option Bool
  | .c (.str x), .c (.str y) => some (x == y)
  | _, _ => none
def neS2 : W → W → Option Bool
  | .c (.str x), .c (.str y) => some (!(x == y))
  | _, _ => none
theorem eqS_ok {K : PySem.W.Frag} : PrimOk K (rr2 rEq) (PB eqS2) := primB fun C H a b x y F G k Q s oa ob e q => by
  unfold eqS2 at e
  split at e
  · rename_i i j
    cases e
    have e1 := rep_str (own_c oa)
    have e2 := rep_str (own_c ob)
    subst e1 e2
    exact ⟨rfl, by rw [dec_str]; exact q⟩
  · cases e
theorem neS_ok {K : PySem.W.Frag} : PrimOk K (rr2 rNe) (PB neS2) := primB fun C H a b x y F G k Q s oa ob e q => by
  unfold neS2 at e
  split at e
  · rename_i i j
    cases e
    have e1 := rep_str (own_c oa)
    have e2 := rep_str (own_c ob)
    subst e1 e2
    exact ⟨rfl, by rw [dec_str]; exact q⟩
  · cases e
theorem ve_eqS (ha : VO X Wx io v0 a oa) (hb : VO X Wx io v0 b ob) : VE X Wx io v0 (.Compare a [.Eq] [b] pos) (prim (PB eqS2) [oa, ob]) := ve_cmp op_eq eqS_ok ha hb (nomark _)
theorem ve_neS (ha : VO X Wx io v0 a oa) (hb : VO X Wx io v0 b ob) : VE X Wx io v0 (.Compare a [.NotEq] [b] pos) (prim (PB neS2) [oa, ob]) := ve_cmp op_ne neS_ok ha hb (nomark _)
theorem vt_eqS (ha : VO X Wx io v0 a oa) (hb : VO X Wx io v0 b ob) : VT X Wx io v0 (.Compare a [.Eq] [b] pos) (tst (prim (PB eqS2) [oa, ob])) := vt_cmp op_eq eqS_ok ha hb (nomark _)
theorem vt_neS (ha : VO X Wx io v0 a oa) (hb : VO X Wx io v0 b ob) : VT X Wx io v0 (.Compare a [.NotEq] [b] pos) (tst (prim (PB neS2) [oa, ob])) := vt_cmp op_ne neS_ok ha hb (nomark _)
end
end VL
set_option maxHeartbeats 4000000
namespace VL
open PySem PySem.Spec PyProof.Rows L2
/-! ### a part of a list or a dict, changed where it stands -/
def setKV : List (Key × W) → Nat → W → List (Key × W)
  | [], _, _ => []
  | kw :: r, 0, u => (kw.1, u) :: r
  | kw :: r, j + 1, u => kw :: setKV r j u
theorem setKV_keys : ∀ (kws : List (Key × W)) (j : Nat) (u : W), (setKV kws j u).map (·.1) = kws.map (·.1)
  | [], _, _ => rfl
  | _ :: _, 0, _ => rfl
  | kw :: r, j + 1, u => by
    have ih := setKV_keys r j u
    rw [setKV, List.map_cons, List.map_cons, ih]
theorem setKV_vals : ∀ (kws : List (Key × W)) (j : Nat) (u : W), (setKV kws j u).map (·.2) = (kws.map (·.2)).set j u
  | [], _, _ => rfl
  | _ :: _, 0, _ => rfl
  | kw :: r, j + 1, u => by
    have ih := setKV_vals r j u
    rw [setKV, List.map_cons, List.map_cons, ih]
    rfl
/-- the items that a container holds -/
def partsW : W → Option (List W)
  | .l ws => some ws
  | .dk kws => some (kws.map (·.2))
  | _ => none
def backW (w : W) (j : Nat) (u : W) : W := match w with
  | .l ws => .l (ws.set j u)
  | .dk kws => .dk (setKV kws j u)
  | w => w
/-- .. as the heap has them -/
def PartsH (H : Hp) (v : V) (xs : List V) : Prop := ∃ p, v = .ref p ∧ (H p = some (.lst xs) ∨ ∃ kvs, H p = some (.dK kvs) ∧ xs = kvs.map (·.2))
theorem PartsH.uniq {H : Hp} {v : V} {xs ys : List V} (h : PartsH H v xs) (k : PartsH H v ys) : xs = ys := by
  obtain ⟨p, rfl, h⟩ := h
  obtain ⟨q, e, k⟩ := k
  cases e
  rcases h with h | ⟨a, h, rfl⟩
  · rcases k with k | ⟨b, k, rfl⟩
    · rw [h] at k
      cases k
      rfl
    · rw [h] at k
      cases k
  · rcases k with k | ⟨b, k, rfl⟩
    · rw [h] at k
      cases k
    · rw [h] at k
      cases k
      rfl
section
variable {K : PySem.W.Frag} {C C' H H' : Hp} {w u : W} {ws : List W} {v : V} {vs : List V} {F : Foot}
theorem OwnAll.hole : ∀ {ws : List W} {vs : List V} {F : Foot} (j : Nat) {w : W}, OwnAll K C H ws vs F → ws[j]? = some w → ∃ (v : V) (G T : Foot), vs[j]? = some v ∧ Own K C H w v G ∧ (∀ a, G a → ¬ T a) ∧ (∀ a, F a ↔ (G a ∨ T a)) ∧
    ∀ {C' H' : Hp} {w' : W} {G' : Foot}, Same C C' → (∀ a o, T a → H a = some o → H' a = some o) → (∀ a, T a → C' a = none) → Own K C' H' w' v G' → (∀ a, G' a → ¬ T a) → OwnAll K C' H' (ws.set j w') vs (fun a => G' a ∨ T a)
  | _, _, _, _, _, .nil _, e => by simp at e
  | _, _, _, 0, w, .cons (v := v) (G := G) (G' := T) o t dj q, e => by
    simp only [List.getElem?_cons_zero, Option.some.injEq] at e
    subst e
    exact ⟨v, G, T, rfl, o, dj, q, fun cc k z o' d => .cons o' (t.keep cc k z) d fun a => Iff.rfl⟩
  | _, _, F, j + 1, w, .cons (v := v) (G := G) (G' := T) o t dj q, e => by
    simp only [List.getElem?_cons_succ] at e
    obtain ⟨x, G1, T1, h1, h2, h3, h4, h5⟩ := t.hole j e
    refine ⟨x, G1, fun a => G a ∨ T1 a, by simpa using h1, h2, fun a y z => ?_, fun a => ?_, fun {C' H' w' G'} cc k z o' d => ?_⟩
    · rcases z with z | z
      · exact dj a z ((h4 a).mpr (.inl y))
      · exact h3 a y z
    · rw [q a, h4 a]
      constructor
      · rintro (y | y | y)
        · exact .inr (.inl y)
        · exact .inl y
        · exact .inr (.inr y)
      · rintro (y | y | y)
        · exact .inr (.inl y)
        · exact .inl y
        · exact .inr (.inr y)
    · refine .cons (o.keep cc (fun a o h => k a o (.inl h)) fun a h => z a (.inl h)) (h5 cc (fun a o h => k a o (.inr h)) (fun a h => z a (.inr h)) o' fun a y y2 => d a y (.inr y2)) (fun a y y2 => ?_) fun a => ?_
      · rcases y2 with y2 | y2
        · exact d a y2 (.inl y)
        · exact dj a y ((h4 a).mpr (.inr y2))
      · constructor
        · rintro (y | y | y)
          · exact .inr (.inl y)
          · exact .inl y
          · exact .inr (.inr y)
        · rintro (y | y | y)
          · exact .inr (.inl y)
          · exact .inl y
          · exact .inr (.inr y)
/-- a container with one of its items taken out, and put back -/
theorem Own.hole {w0 : W} (j : Nat) (o : Own K C H w0 v F) (e : partsW w0 = some ws) (e2 : ws[j]? = some w) : ∃ (xs : List V) (x : V) (G T : Foot), PartsH H v xs ∧ xs[j]? = some x ∧ Own K C H w x G ∧ (∀ a, G a → ¬ T a) ∧ (∀ a, F a ↔ (G a ∨ T a)) ∧
    ∀ {C' H' : Hp} {w' : W} {G' : Foot}, Same C C' → (∀ a o, T a → H a = some o → H' a = some o) → (∀ a, T a → C' a = none) → Own K C' H' w' x G' → (∀ a, G' a → ¬ T a) → Own K C' H' (backW w0 j w') v (fun a => G' a ∨ T a) := by
  cases o with
  | @l ws0 xs p _ G0 h1 h2 h3 h4 h5 =>
    simp only [partsW, Option.some.injEq] at e
    subst e
    obtain ⟨x, G, T, k1, k2, k3, k4, k5⟩ := h3.hole j e2
    refine ⟨xs, x, G, fun a => a = p ∨ T a, ⟨p, rfl, .inl h1⟩, k1, k2, fun a y z => ?_, fun a => ?_, fun {C' H' w' G'} cc k z o' d => ?_⟩
    · rcases z with z | z
      · subst z
        exact h4 ((k4 a).mpr (.inl y))
      · exact k3 a y z
    · rw [h5 a, k4 a]
      constructor
      · rintro (y | y | y)
        · exact .inr (.inl y)
        · exact .inl y
        · exact .inr (.inr y)
      · rintro (y | y | y)
        · exact .inr (.inl y)
        · exact .inl y
        · exact .inr (.inr y)
    · refine .l (k p _ (.inl rfl) h1) (z p (.inl rfl)) (k5 cc (fun a o h => k a o (.inr h)) (fun a h => z a (.inr h)) o' fun a y y2 => d a y (.inr y2)) ?_ fun a => ?_
      · rintro (y | y)
        · exact d p y (.inl rfl)
        · exact h4 ((k4 p).mpr (.inr y))
      · constructor
        · rintro (y | y | y)
          · exact .inr (.inl y)
          · exact .inl y
          · exact .inr (.inr y)
        · rintro (y | y | y)
          · exact .inr (.inl y)
          · exact .inl y
          · exact .inr (.inr y)
  | @dk kws kvs p _ G0 h1 h2 hm h3 h4 h5 =>
    simp only [partsW, Option.some.injEq] at e
    subst e
    obtain ⟨x, G, T, k1, k2, k3, k4, k5⟩ := h3.hole j e2
    refine ⟨kvs.map (·.2), x, G, fun a => a = p ∨ T a, ⟨p, rfl, .inr ⟨kvs, h1, rfl⟩⟩, k1, k2, fun a y z => ?_, fun a => ?_, fun {C' H' w' G'} cc k z o' d => ?_⟩
    · rcases z with z | z
      · subst z
        exact h4 ((k4 a).mpr (.inl y))
      · exact k3 a y z
    · rw [h5 a, k4 a]
      constructor
      · rintro (y | y | y)
        · exact .inr (.inl y)
        · exact .inl y
        · exact .inr (.inr y)
      · rintro (y | y | y)
        · exact .inr (.inl y)
        · exact .inl y
        · exact .inr (.inr y)
    · refine .dk (k p _ (.inl rfl) h1) (z p (.inl rfl)) (by rw [setKV_keys]; exact hm) (by rw [setKV_vals]; exact k5 cc (fun a o h => k a o (.inr h)) (fun a h => z a (.inr h)) o' fun a y y2 => d a y (.inr y2)) ?_ fun a => ?_
      · rintro (y | y)
        · exact d p y (.inl rfl)
        · exact h4 ((k4 p).mpr (.inr y))
      · constructor
        · rintro (y | y | y)
          · exact .inr (.inl y)
          · exact .inl y
          · exact .inr (.inr y)
        · rintro (y | y | y)
          · exact .inr (.inl y)
          · exact .inl y
          · exact .inr (.inr y)
  | c _ _ => simp [partsW] at e
  | dt _ _ _ _ _ _ => simp [partsW] at e
  | x _ _ => simp [partsW] at e
  | ks _ _ _ => simp [partsW] at e
/-- the change of a part, as a change of the whole -/
def rPart (j : Nat) (r : V → List V → Hp → VK → Prop) : V → List V → Hp → VK → Prop := fun v vs H Q => ∃ xs x, PartsH H v xs ∧ xs[j]? = some x ∧ r x vs H Q
def partM (j : Nat) (M : W → List W → Option (W × W)) : W → List W → Option (W × W) := fun w0 ws => match partsW w0 with
  | some us => (match us[j]? with
    | some w => (match M w ws with
      | some (w', u) => some (backW w0 j w', u)
      | none => none)
    | none => none)
  | none => none
theorem part_ok {M : W → List W → Option (W × W)} {r : V → List V → Hp → VK → Prop} (j : Nat) (hM : MutOk K r M) : MutOk K (rPart j r) (partM j M) := by
  intro C H w0 v F ws vs G w1 u Q sb o oa dj e q
  unfold partM at e
  split at e
  · rename_i us e1
    split at e
    · rename_i w e2
      split at e
      · rename_i w' u' e3
        cases e
        obtain ⟨xs, x, G1, T, k1, k2, k3, k4, k5, k6⟩ := o.hole j e1 e2
        refine ⟨xs, x, k1, k2, hM C H w x G1 ws vs G w' _ Q sb k3 oa (fun a y => dj a ((k5 a).mpr (.inl y))) e3 fun y C' H' F' G' st sb' n1 n2 d o1 o2 => ?_⟩
        have dT : ∀ a, T a → ¬ Foot.or G1 G a := fun a z y => y.elim (fun y => k4 a y z) fun y => dj a ((k5 a).mpr (.inr z)) y
        have ft : ∀ a, T a → H a ≠ none ∧ C a = none := fun a z => o.foot ((k5 a).mpr (.inr z))
        have nT : ∀ {J : Foot}, New H (Foot.or G1 G) J → ∀ a, J a → ¬ T a := fun {J} n a z y => by
          rcases n a z with p | p
          · exact dT a y p
          · exact (ft a y).1 p
        have whole := k6 st.cc (fun a o h e => (stay_of st (ft a h) (dT a h)).1 o e) (fun a h => (stay_of st (ft a h) (dT a h)).2) o1 (nT n1)
        refine q y C' H' _ G' (st.mono fun a z => z.elim (fun z => .inl ((k5 a).mpr (.inl z))) .inr) sb' ?_ ?_ ?_ whole o2
        · intro a z
          rcases z with z | z
          · exact (n1 a z).imp (fun z => z.elim (fun z => .inl ((k5 a).mpr (.inl z))) .inr) id
          · exact .inl (.inl ((k5 a).mpr (.inr z)))
        · exact fun a z => (n2 a z).imp (fun z => z.elim (fun z => .inl ((k5 a).mpr (.inl z))) .inr) id
        · rintro a y1 (y2 | y2)
          · exact d a y1 y2
          · exact nT n2 a y1 y2
      · cases e
    · cases e
  · cases e
end
/-! ### x[k].append(..), x[k].pop() -/
def spotW (w : W) (k : W) : Option Nat := match w, k with
  | .l ws, .c (.int i) => ixN ws.length i
  | .dk kws, .c d => (keyOf d).bind fun key => kws.findIdx? fun kv => decide (kv.1 = key)
  | _, _ => none
/-- the list that stands there -/
def listAt (w : W) (j : Nat) : Bool := match partsW w with
  | some us => (match us[j]? with
    | some (.l _) => true
    | _ => false)
  | none => false
def mutD (M : W → List W → Option (W × W)) (i : Nat) (kf : Env → R W) (os : List Opd) : Env → R W := fun ρ => match ρ[i]? with
  | some (some _) => (kf ρ).bind fun k ρ1 => match ρ1[i]? with
    | some (some w0) => (match spotW w0 k with
      | some j => if listAt w0 j = true then (evs os (ρ1.set i none)).bind fun ts ρ2 => match wsV ts with
          | some ws => (match partM j M w0 ws with
            | some (w1, u) => .ok u (ρ2.set i (some w1))
            | none => .stuck)
          | none => .stuck
        else .stuck
      | none => .stuck)
    | _ => .stuck
  | _ => .stuck
section
variable {X : Cx} {Wx : WX} {io : List Nat} {v0 : L2.St} {os : List Opd} {σ : L2.St} {H : Hp} {M : W → List W → Option (W × W)} {r : V → List V → Hp → VK → Prop} {i : Nat} {kf : Env → R W}
theorem spot_ix {K : PySem.W.Frag} {C H : Hp} {w0 k : W} {v y : V} {F G : Foot} {j : Nat} {xs : List V} {x : V} {Q : VK} (o : Own K C H w0 v F) (ok : Own K C H k y G) (e : spotW w0 k = some j) (hx : PartsH H v xs) (hj : xs[j]? = some x) (q : Q x H) : rIxA K v y H Q := by
  cases o with
  | @l ws0 zs p _ G0 h1 h2 h3 h4 h5 =>
    have hxz := hx.uniq ⟨p, rfl, .inl h1⟩
    subst hxz
    unfold spotW at e
    split at e
    · rename_i ws i hw
      cases hw
      refine .inl ⟨p, xs, i, x, rfl, rep_int (own_c ok), .inl (Rd.of h1), ?_, q⟩
      unfold atI
      rw [← h3.length, e]
      exact hj
    · rename_i hw
      cases hw
    · cases e
  | @dk kws kvs p _ G0 h1 h2 hm h3 h4 h5 =>
    have hxz := hx.uniq ⟨p, rfl, .inr ⟨kvs, h1, rfl⟩⟩
    subst hxz
    unfold spotW at e
    split at e
    · rename_i hw
      cases hw
    · rename_i kws' d hw
      cases hw
      cases e1 : keyOf d with
      | none => rw [e1] at e; cases e
      | some key =>
        rw [e1] at e
        simp only [Option.bind_some] at e
        have hy := rep_key (own_c ok) e1
        refine .inr (.inr (.inr ⟨p, x, rfl, .inl ⟨_, key, .inl h1, hy, ?_⟩, q⟩))
        have main : ∀ (kws : List (Key × W)) (kvs : List (Key × V)) (j : Nat), kvs.map (·.1) = kws.map (·.1) → kws.findIdx? (fun kv => decide (kv.1 = key)) = some j → (kvs.map (·.2))[j]? = some x → valV kvs key = some x := by
          intro kws
          induction kws with
          | nil => intro kvs j _ e; simp at e
          | cons kw r ih =>
            intro kvs j hm e hj
            cases kvs with
            | nil => simp at hm
            | cons kv r2 =>
              simp only [List.map_cons, List.cons.injEq] at hm
              rw [List.findIdx?_cons] at e
              by_cases hk : kw.1 = key
              · rw [if_pos (decide_eq_true hk)] at e
                cases e
                simp only [List.map_cons, List.getElem?_cons_zero, Option.some.injEq] at hj
                unfold valV
                rw [List.find?_cons, show decide (kv.1 = key) = true from decide_eq_true (by rw [hm.1]; exact hk)]
                simp [hj]
              · have hd : decide (kw.1 = key) = false := decide_eq_false hk
                rw [hd] at e
                simp only [Bool.false_eq_true, if_false, Option.map_eq_some_iff] at e
                obtain ⟨j', e, rfl⟩ := e
                have := ih r2 j' hm.2 e (by simpa using hj)
                unfold valV at this ⊢
                rw [List.find?_cons, show decide (kv.1 = key) = false from decide_eq_false (by rw [hm.1]; exact hk)]
                exact this
        exact (main kws kvs j hm e hj).symm
    · cases e
  | c _ _ => cases k <;> simp [spotW] at e
  | dt _ _ _ _ _ _ => cases k <;> simp [spotW] at e
  | x _ _ => cases k <;> simp [spotW] at e
  | ks _ _ _ => cases k <;> simp [spotW] at e
theorem Own.self {K : PySem.W.Frag} {C H : Hp} {w0 : W} {p : Addr} {F : Foot} {us : List W} (o : Own K C H w0 (.ref p) F) (e : partsW w0 = some us) : F p := by
  cases o with
  | l h1 h2 h3 h4 h5 => exact (h5 p).mpr (.inl rfl)
  | dk h1 h2 hm h3 h4 h5 => exact (h5 p).mpr (.inl rfl)
  | c _ _ => simp [partsW] at e
  | dt _ _ _ _ _ _ => simp [partsW] at e
  | x _ _ => simp [partsW] at e
  | ks _ _ _ => simp [partsW] at e
theorem setv_same {σ : L2.St} {i : Nat} {v : V} (hs : σ[i]? = some (some v)) : σ.set i (some v) = σ := by
  apply List.ext_getElem?
  intro j
  by_cases hj : i = j
  · subst hj
    rw [List.getElem?_set_self (List.getElem?_eq_some_iff.mp hs).1, hs]
  · rw [List.getElem?_set_ne hj]
theorem mutD_of {Q : VK} (hM : MutOk X.K r M) (h : tW X Wx io v0 (mutD M i kf os) σ H Q) :
    tOp (rIxA X.K) (tVar i) (tW X Wx io v0 kf) σ H fun x H1 => tyV X.K "list" x H1 ∧ tAs X Wx io v0 os σ H1 fun vs H2 => r x vs H2 Q := by
  obtain ⟨ρ, C, F, s, p⟩ := h
  unfold mutD at p
  split at p
  · rename_i w00 hi0
    obtain ⟨v, _, hv, _, _⟩ := s.env.at hi0
    refine ⟨v, hv, ρ, C, F, s, (RPost.of_bind p).imp fun k ρ1 hk q => fun y C1 H1 G1 F1 t => ?_⟩
    split at q
    · rename_i w0 hi1
      cases e1 : spotW w0 k with
      | none => simp only [e1] at q; exact q.elim
      | some j =>
        simp only [e1] at q
        split at q
        · rename_i hla
          obtain ⟨v', Gi, Gr, h1, h2, h3, h4, h5⟩ := t.to.st.env.out hi1
          rw [hv] at h1
          cases h1
          unfold listAt at hla
          split at hla
          · rename_i us eus
            split at hla
            · rename_i ws1 ej
              obtain ⟨xs, x, Gx, Tx, k1, k2, k3, k4, k5, k6⟩ := h2.hole j eus ej
              refine spot_ix h2 t.own e1 k1 k2 ⟨?_, ?_⟩
              · cases k3 with
                | l a b c d e => exact .inl ⟨rfl, _, .inl (Rd.of a)⟩
              · have tN : To X.K io v0 C H F (ρ1.set i none) σ C1 H1 Gr := ⟨t.to.step, t.to.new.sub fun a z => (h5 a).mpr (.inr z), ⟨h3, t.to.st.sub, t.to.st.fix⟩⟩
                refine ⟨ρ1.set i none, C1, Gr, tN.st, (RPost.of_bind q).shift tN fun ts ρ2 hts q2 => fun vs C2 H2 G2 F2 t2 => ?_⟩
                cases e3 : wsV ts with
                | none => simp only [e3] at q2; exact q2.elim
                | some ws =>
                  simp only [e3] at q2
                  cases e4 : partM j M w0 ws with
                  | none => simp only [e4] at q2; exact q2.elim
                  | some pr =>
                    obtain ⟨w1, u⟩ := pr
                    simp only [e4] at q2
                    have q' : ∀ x C' H' G F', ToV X.K io v0 C H F u x (ρ2.set i (some w1)) σ C' H' G F' → Q x H' := q2
                    have o2 := h2.carry t2.to.step fun a z => h4 a z
                    obtain ⟨Fw, ew, sw⟩ := t2.to.st.env.wipe i (some v)
                    rw [setv_same hv] at ew
                    have nw : ∀ {J : Foot}, New H1 Gr J → ∀ a, J a → ¬ Gi a := fun {J} n a y z => by
                      rcases n a y with b | b
                      · exact h4 a z b
                      · exact (h2.foot z).1 b
                    obtain ⟨F3, e5, s3⟩ := own_put ew hv o2 fun a z y => nw t2.to.new a (sw a y) z
                    have up : ∀ a, Gr a → F1 a := fun a z => (h5 a).mpr (.inr z)
                    have n3 : New H1 F1 F3 := fun a z => by
                      rcases s3 a z with b | b
                      · exact (t2.to.new a (sw a b)).imp (up a) id
                      · exact .inl ((h5 a).mpr (.inl b))
                    have t3 : To X.K io v0 C H F (ρ2.set i (some w0)) σ C2 H2 F3 := ⟨t.to.step.trans (t2.to.step.mono up) t.to.new, New.trans t.to.step t.to.new n3, ⟨e5, t2.to.st.sub, t2.to.st.fix⟩⟩
                    have hlen : i < ρ2.length := by
                      rw [t2.to.st.env.length]
                      exact (List.getElem?_eq_some_iff.mp hv).1
                    have fin := mut_at (part_ok j hM) t3 (New.trans t.to.step t.to.new fun a z => (t2.newv a z).imp (up a) id) (fun a y z => by
                      rcases s3 a z with b | b
                      · exact t2.dis a y (sw a b)
                      · exact nw t2.newv a y b) (own_ts t2.own e3) (List.getElem?_set_self hlen) hv e4 fun x' C' H' G' F' tv => q' x' C' H' G' F' (by rw [List.set_set] at tv; exact tv)
                    obtain ⟨xs', x', k1', k2', fin⟩ := fin
                    have same : PartsH H2 v xs := by
                      obtain ⟨p, rfl, hp⟩ := k1
                      have np : ¬ Gr p := h4 p (h2.self eus)
                      refine ⟨p, rfl, ?_⟩
                      rcases hp with hp | ⟨kvs, hp, e⟩
                      · exact .inl (t2.to.step.fr p _ hp np)
                      · exact .inr ⟨kvs, t2.to.step.fr p _ hp np, e⟩
                    have exs := same.uniq k1'
                    subst exs
                    rw [k2] at k2'
                    cases k2'
                    exact fin
            · cases hla
          · cases hla
        · exact q.elim
    · exact q.elim
  · exact p.elim
variable {e : Expr} {es : List Expr} {k : Nat} {kx : Expr}
theorem rIxA_mono {K : PySem.W.Frag} {x y : V} {H : Hp} {Q Q' : VK} (m : ∀ v H, Q v H → Q' v H) (h : rIxA K x y H Q) : rIxA K x y H Q' := by
  rcases h with ⟨p, xs, i, v, a, b, c, d, q⟩ | ⟨p, xs, i, v, a, b, c, d, q⟩ | ⟨z, i, c, a, b, d, e, q⟩ | ⟨p, v, a, b, q⟩
  · exact .inl ⟨p, xs, i, v, a, b, c, d, m _ _ q⟩
  · exact .inr (.inl ⟨p, xs, i, v, a, b, c, d, m _ _ q⟩)
  · exact .inr (.inr (.inl ⟨z, i, c, a, b, d, e, m _ _ q⟩))
  · exact .inr (.inr (.inr ⟨p, v, a, b, m _ _ q⟩))
theorem ve_methD {x m : Str} {id : String} {p p2 apos cpos : Pos} (i : Nat) (hr : Room k X.A) (hM : MutOk X.K r M) (slot : Slot "list" m id) (hty : typeOf (.builtin id) = pure (.type "method_descriptor")) (hm : MtR X id r) (hk : VE X Wx io v0 kx kf) (ha : VA X Wx io v0 (e :: es) os)
    (hN : X.N[i]? = some x := by rfl) (hv : Vis X.env.scope x := by first | exact Or.inl rfl | exact Or.inr (Or.inl rfl) | exact Or.inr (Or.inr rfl)) (hd : (x == ("__debug__" : Str)) = false := by decide) (hcd : (x == ("__classdict__" : Str)) = false := by decide)
    (hpi : PlainIx kx := by exact fun _ _ => rfl)
    (hbase : attributeBase (.Subscript (.Name x p) kx p2) m X.env (eval (.Subscript (.Name x p) kx p2) X.env) = eval (.Subscript (.Name x p) kx p2) X.env := by rfl)
    (hfew : ((backTo cpos (starEach (e :: es) X.env)).all (fun x => !x.1) && (backToKw cpos (keywordEach [] X.env)).all (fun x => x.1.isSome) && decide ((e :: es).length + ([] : List Keyword).length + (if ([] : List Keyword).isEmpty then 0 else 1) < 30)) = true := by rfl)
    (hline : (apos.endLine == cpos.line) = true := by rfl) (hs : starEach (e :: es) X.env = (false, eval e X.env) :: starEach es X.env := by rfl) (hplain : (backTo cpos (starEach es X.env)).any (·.1) = false := by rfl) :
    VE X Wx io v0 (.Call (.Attribute (.Subscript (.Name x p) kx p2) m apos) (e :: es) [] cpos) (mutD M i kf os) :=
  pe_mono (pe_bm PySem.F.plainAttrs_list slot hty hm (pe_ix (ix_A (hu_of hr)) (pe_var hN hv hd hcd) hk hpi) ha hbase hfew hline hs hplain) fun σ H Q h => mutD_of hM h
theorem ve_methD0 {x m : Str} {id : String} {p p2 apos cpos : Pos} (i : Nat) (hr : Room k X.A) (hM : MutOk X.K r M) (slot : Slot "list" m id) (hty : typeOf (.builtin id) = pure (.type "method_descriptor")) (hm : MtR X id r) (hk : VE X Wx io v0 kx kf)
    (hN : X.N[i]? = some x := by rfl) (hv : Vis X.env.scope x := by first | exact Or.inl rfl | exact Or.inr (Or.inl rfl) | exact Or.inr (Or.inr rfl)) (hd : (x == ("__debug__" : Str)) = false := by decide) (hcd : (x == ("__classdict__" : Str)) = false := by decide)
    (hpi : PlainIx kx := by exact fun _ _ => rfl)
    (hbase : attributeBase (.Subscript (.Name x p) kx p2) m X.env (eval (.Subscript (.Name x p) kx p2) X.env) = eval (.Subscript (.Name x p) kx p2) X.env := by rfl) (hline : (apos.endLine == cpos.line) = true := by rfl) :
    VE X Wx io v0 (.Call (.Attribute (.Subscript (.Name x p) kx p2) m apos) [] [] cpos) (mutD M i kf []) :=
  pe_mono (pe_bm0 PySem.F.plainAttrs_list slot hty hm (pe_ix (ix_A (hu_of hr)) (pe_var hN hv hd hcd) hk hpi) hbase hline) fun σ H Q h => by
    obtain ⟨v, h1, h2⟩ := mutD_of (os := []) hM h
    exact ⟨v, h1, tW_mono (fun y H1 q => rIxA_mono (fun x H2 q2 => ⟨q2.1, tAs_nil q2.2⟩) q) h2⟩
end
end VL
set_option maxHeartbeats 4000000
namespace VL
open PySem PySem.Spec PyProof.Rows L2
/-! ### list(range(..)) -/
theorem rg_rep {K : PySem.W.Frag} {C : Hp} (a b : Int) : RepAll K C (rgV a b) (rangeD a b) := by
  unfold rgV rangeD
  generalize List.range (b - a).toNat = ns
  induction ns with
  | nil => exact .nil
  | cons n r ih => exact .cons (.int _) ih
def lrg1 : List W → Option W
  | [.c (.int j)] => if -(2 ^ 20) ≤ j ∧ j < 2 ^ 20 then some (.l ((rangeD 0 j).map .c)) else none
  | _ => none
def lrg2 : List W → Option W
  | [.c (.int i), .c (.int j)] => if -(2 ^ 20) ≤ i ∧ i < 2 ^ 20 ∧ -(2 ^ 20) ≤ j ∧ j < 2 ^ 20 then some (.l ((rangeD i j).map .c)) else none
  | _ => none
theorem rg_ok {i j : Int} (h : -(2 ^ 20) ≤ i ∧ i < 2 ^ 20 ∧ -(2 ^ 20) ≤ j ∧ j < 2 ^ 20) : RgOk i j := by
  unfold RgOk
  omega
section
variable {X : Cx} {Wx : WX} {io : List Nat} {v0 : L2.St} {oa ob : Opd} {a b : Expr} {p pos p2 pos2 : Pos}
theorem ve_lrg1 (hc : X.calm = true) (hg : Gl X "list") (hm : X.mg "list" = none) (hg2 : Gl X "range") (hm2 : X.mg "range" = none) (ha : VO X Wx io v0 a oa) (na : starEach [a] X.env = (false, eval a X.env) :: starEach [] X.env := by rfl)
    (na2 : starEach [.Call (.Name "range" p2) [a] [] pos2] X.env = (false, eval (.Call (.Name "range" p2) [a] [] pos2) X.env) :: starEach [] X.env := by rfl) :
    VE X Wx io v0 (.Call (.Name "list" p) [.Call (.Name "range" p2) [a] [] pos2] [] pos) (prim lrg1 [oa]) := by
  have hp : PrimOk X.K (fun vs H Q => ∃ x, vs = [x] ∧ ∃ n : Int, x = V.int n ∧ RgOk 0 n ∧ ∀ q, H q = none → Q (V.ref q) (upd H q (.lst (rgV 0 n)))) lrg1 := fun C H ws vs w Q s o e q => by
    unfold lrg1 at e
    split at e
    · rename_i j
      split at e
      · rename_i hj
        cases e
        obtain ⟨x, F, rfl, o1⟩ := ownL1 o
        exact ⟨x, rfl, j, rep_int (own_c o1), rg_ok ⟨by decide, by decide, hj.1, hj.2⟩, fun l hl => end_l s q (rg_rep 0 j) hl⟩
      · cases e
    · cases e
  refine pe_mono (pe_listRg hc hg hm (prg_1 hg2 hm2 ha na) na2) fun σ H Q h => ?_
  refine tO_mono (fun x H1 q => ?_) (tAs_cons (prim_of hp h))
  obtain ⟨x', e, n, rfl, h1, h2⟩ := tAs_nil q
  cases e
  exact ⟨n, rfl, h1, h2⟩
theorem ve_lrg2 (hc : X.calm = true) (hg : Gl X "list") (hm : X.mg "list" = none) (hg2 : Gl X "range") (hm2 : X.mg "range" = none) (ha : VO X Wx io v0 a oa) (hb : VO X Wx io v0 b ob) (na : starEach [a, b] X.env = (false, eval a X.env) :: starEach [b] X.env := by rfl)
    (nb : starEach [b] X.env = (false, eval b X.env) :: starEach [] X.env := by rfl) (hpl : (backTo pos2 (starEach [b] X.env)).any (·.1) = false := by rfl)
    (na2 : starEach [.Call (.Name "range" p2) [a, b] [] pos2] X.env = (false, eval (.Call (.Name "range" p2) [a, b] [] pos2) X.env) :: starEach [] X.env := by rfl) :
    VE X Wx io v0 (.Call (.Name "list" p) [.Call (.Name "range" p2) [a, b] [] pos2] [] pos) (prim lrg2 [oa, ob]) := by
  have hp : PrimOk X.K (rr2 fun x y H Q => ∃ m n : Int, x = V.int m ∧ y = V.int n ∧ RgOk m n ∧ ∀ q, H q = none → Q (V.ref q) (upd H q (.lst (rgV m n)))) lrg2 := fun C H ws vs w Q s o e q => by
    unfold lrg2 at e
    split at e
    · rename_i i j
      split at e
      · rename_i hj
        cases e
        obtain ⟨x, y, F, G, rfl, o1, o2⟩ := ownL2 o
        exact ⟨x, y, rfl, i, j, rep_int (own_c o1), rep_int (own_c o2), rg_ok hj, fun l hl => end_l s q (rg_rep i j) hl⟩
      · cases e
    · cases e
  refine pe_mono (pe_listRg hc hg hm (prg_2 hg2 hm2 ha hb na nb hpl) na2) fun σ H Q h => ?_
  refine tO_mono (fun x H1 q => tO_mono (fun y H2 q3 => ?_) (tAs_cons q)) (tAs_cons (prim_of hp h))
  obtain ⟨x', y', e, m, n, rfl, rfl, h1, h2⟩ := tAs_nil q3
  cases e
  exact ⟨m, n, rfl, rfl, h1, h2⟩
end
end VL
set_option maxHeartbeats 4000000
namespace VL
open PySem PySem.Spec PyProof.Rows L2
/-! ### a part of a list or a dict, read where it stands -/
def partAt (w : W) (j : Nat) : Option W := (partsW w).bind fun us => us[j]?
def partE (P : List W → Option W) (i : Nat) (kf : Env → R W) (os : List Opd) : Env → R W := fun ρ => match ρ[i]? with
  | some (some _) => (kf ρ).bind fun k ρ1 => match ρ1[i]? with
    | some (some w0) => (match (spotW w0 k).bind (partAt w0) with
      | some w => (evs os (ρ1.set i none)).bind fun ts ρ2 => match rds ρ2 ts with
          | some ws => (match P (w :: ws) with
            | some u => .ok u (ρ2.set i (some w0))
            | none => .stuck)
          | none => .stuck
      | none => .stuck)
    | _ => .stuck
  | _ => .stuck
section
variable {X : Cx} {Wx : WX} {io : List Nat} {v0 : L2.St} {os : List Opd} {σ : L2.St} {H : Hp} {P : List W → Option W} {r : List V → Hp → VK → Prop} {i : Nat} {kf : Env → R W}
theorem partE_of {Q : VK} (hp : PrimOk X.K r P) (h : tW X Wx io v0 (partE P i kf os) σ H Q) :
    tOp (rIxA X.K) (tVar i) (tW X Wx io v0 kf) σ H fun x H1 => tAs X Wx io v0 os σ H1 fun vs H2 => r (x :: vs) H2 Q := by
  obtain ⟨ρ, C, F, s, p⟩ := h
  unfold partE at p
  split at p
  · rename_i w00 hi0
    obtain ⟨v, _, hv, _, _⟩ := s.env.at hi0
    refine ⟨v, hv, ρ, C, F, s, (RPost.of_bind p).imp fun k ρ1 hk q => fun y C1 H1 G1 F1 t => ?_⟩
    split at q
    · rename_i w0 hi1
      cases e1 : spotW w0 k with
      | none => rw [e1] at q; exact q.elim
      | some j =>
        rw [e1, Option.bind_some] at q
        cases e2 : partAt w0 j with
        | none => rw [e2] at q; exact q.elim
        | some w =>
          rw [e2] at q
          obtain ⟨v', Gi, Gr, h1, h2, h3, h4, h5⟩ := t.to.st.env.out hi1
          rw [hv] at h1
          cases h1
          unfold partAt at e2
          cases eus : partsW w0 with
          | none => rw [eus] at e2; cases e2
          | some us =>
            rw [eus, Option.bind_some] at e2
            obtain ⟨xs, x, Gx, Tx, k1, k2, k3, k4, k5, k6⟩ := h2.hole j eus e2
            refine spot_ix h2 t.own e1 k1 k2 ?_
            have tN : To X.K io v0 C H F (ρ1.set i none) σ C1 H1 Gr := ⟨t.to.step, t.to.new.sub fun a z => (h5 a).mpr (.inr z), ⟨h3, t.to.st.sub, t.to.st.fix⟩⟩
            refine ⟨ρ1.set i none, C1, Gr, tN.st, (RPost.of_bind q).shift tN fun ts ρ2 hts q2 => fun vs C2 H2 G2 F2 t2 => ?_⟩
            cases e3 : rds ρ2 ts with
            | none => simp only [e3] at q2; exact q2.elim
            | some ws =>
              simp only [e3] at q2
              cases e4 : P (w :: ws) with
              | none => simp only [e4] at q2; exact q2.elim
              | some u =>
                simp only [e4] at q2
                have q' : ∀ x C' H' G F', ToV X.K io v0 C H F u x (ρ2.set i (some w0)) σ C' H' G F' → Q x H' := q2
                have o2 := h2.carry t2.to.step fun a z => h4 a z
                have ox := k3.carry t2.to.step fun a z => h4 a ((k5 a).mpr (.inl z))
                obtain ⟨Fw, ew, sw⟩ := t2.to.st.env.wipe i (some v)
                rw [setv_same hv] at ew
                have nw : ∀ {J : Foot}, New H1 Gr J → ∀ a, J a → ¬ Gi a := fun {J} n a y z => by
                  rcases n a y with b | b
                  · exact h4 a z b
                  · exact (h2.foot z).1 b
                obtain ⟨F3, e5, s3⟩ := own_put ew hv o2 fun a z y => nw t2.to.new a (sw a y) z
                have up : ∀ a, Gr a → F1 a := fun a z => (h5 a).mpr (.inr z)
                have n3 : New H1 F1 F3 := fun a z => by
                  rcases s3 a z with b | b
                  · exact (t2.to.new a (sw a b)).imp (up a) id
                  · exact .inl ((h5 a).mpr (.inl b))
                have t3 : To X.K io v0 C H F (ρ2.set i (some w0)) σ C2 H2 F3 := ⟨t.to.step.trans (t2.to.step.mono up) t.to.new, New.trans t.to.step t.to.new n3, ⟨e5, t2.to.st.sub, t2.to.st.fix⟩⟩
                refine hp C2 H2 (w :: ws) (x :: vs) u Q t2.to.st.sub (.cons ox (t2.own.all t2.to.st.env e3)) e4 fun v C3 H3 G3 st nw3 sb ow => ?_
                refine q' v C3 H3 G3 F3 ⟨⟨t3.step.trans (st.mono fun a z => z.elim) t3.new, t3.new, t3.st.carry st (fun _ _ z => z.elim) sb⟩, ?_, ?_, ow⟩
                · exact New.trans (F1 := Foot.none) t3.step New.zero nw3
                · intro a h z
                  rcases nw3 a h with y | y
                  · exact y
                  · exact (t3.st.env.foot z).1 y
    · exact q.elim
  · exact p.elim
variable {a b e kx : Expr} {ob : Opd} {k : Nat} {x : Str} {p p2 pos cpos : Pos} {op : CmpOp} {r2 : R2}
/-- x[k] as an operand that is only looked at -/
theorem pe_part (i : Nat) (hr : Room k X.A) (hk : VE X Wx io v0 kx kf) (hN : X.N[i]? = some x := by rfl) (hv : Vis X.env.scope x := by first | exact Or.inl rfl | exact Or.inr (Or.inl rfl) | exact Or.inr (Or.inr rfl)) (hd : (x == ("__debug__" : Str)) = false := by decide) (hcd : (x == ("__classdict__" : Str)) = false := by decide)
    (hpi : PlainIx kx := by exact fun _ _ => rfl) : PE X (.Subscript (.Name x p) kx p2) (tOp (rIxA X.K) (tVar i) (tW X Wx io v0 kf)) := pe_ix (ix_A (hu_of hr)) (pe_var hN hv hd hcd) hk hpi
theorem tOpIx_mono {Q Q' : VK} (m : ∀ v H, Q v H → Q' v H) (h : tOp (rIxA X.K) (tVar i) (tW X Wx io v0 kf) σ H Q) : tOp (rIxA X.K) (tVar i) (tW X Wx io v0 kf) σ H Q' := by
  obtain ⟨v, h1, h2⟩ := h
  exact ⟨v, h1, tW_mono (fun y H1 q => rIxA_mono m q) h2⟩
theorem part2_of {Q : VK} (hp : PrimOk X.K (rr2 r2) P) (h : tW X Wx io v0 (partE P i kf [ob]) σ H Q) : tOp r2 (tOp (rIxA X.K) (tVar i) (tW X Wx io v0 kf)) (tO X Wx io v0 ob) σ H Q :=
  tOpIx_mono (fun x H1 q => tO_mono (fun y H2 q3 => by
    obtain ⟨x', y', e, h⟩ := tAs_nil q3
    cases e
    exact h) (tAs_cons q)) (partE_of hp h)
theorem vt_cmpP (ho : OpR X (compareOp op) r2) (hp : PrimOk X.K (rr2 r2) P) (ha : PE X a (tOp (rIxA X.K) (tVar i) (tW X Wx io v0 kf))) (hb : VO X Wx io v0 b ob) (hm : behindInMarks op b = false) : VT X Wx io v0 (.Compare a [op] [b] pos) (tst (partE P i kf [ob])) :=
  pt_mono (pt_cmpR ho ha hb hm) fun _ _ _ h => part2_of hp (tst_of h)
/-- x[k] != b, x[k] == b -/
theorem vt_neP (hr : Room k X.A) (ha : PE X a (tOp (rIxA X.K) (tVar i) (tW X Wx io v0 kf))) (hb : VO X Wx io v0 b ob) : VT X Wx io v0 (.Compare a [.NotEq] [b] pos) (tst (partE (PB neF2) i kf [ob])) := vt_cmpP (op_neD hr.units) ne_ok ha hb (nomark _)
theorem vt_eqP (hr : Room k X.A) (ha : PE X a (tOp (rIxA X.K) (tVar i) (tW X Wx io v0 kf))) (hb : VO X Wx io v0 b ob) : VT X Wx io v0 (.Compare a [.Eq] [b] pos) (tst (partE (PB eqF2) i kf [ob])) := vt_cmpP (op_eqD hr.units) eq_ok ha hb (nomark _)
/-- x[k][b] -/
theorem ve_ixP (hr : Room k X.A) (ha : PE X a (tOp (rIxA X.K) (tVar i) (tW X Wx io v0 kf))) (hb : VO X Wx io v0 b ob) (hs : PlainIx b := by exact fun _ _ => rfl) : VE X Wx io v0 (.Subscript a b pos) (partE (P2 ixF2) i kf [ob]) :=
  pe_mono (pe_ix (ix_A (hu_of hr)) ha hb hs) fun _ _ _ h => part2_of ix_ok h
end
end VL
namespace VL
open PySem PySem.Spec PyProof.Rows L2
/-! ### a block within a block -/
theorem seen_through {p : Str → NameKind → Bool} : ∀ {names : List (Str × NameKind)} {x : Str}, names.lookup x = some .cell ∨ names.lookup x = some .free →
    (names.map fun y => if p y.1 y.2 = true then (y.1, NameKind.cell) else y).lookup x = some .cell ∨ (names.map fun y => if p y.1 y.2 = true then (y.1, NameKind.cell) else y).lookup x = some .free
  | [], _, h => by simp at h
  | (n, k) :: r, x, h => by
    have ih := seen_through (p := p) (names := r) (x := x)
    rw [List.map_cons]
    by_cases hx : (x == n) = true
    · rw [List.lookup_cons, hx] at h
      by_cases hp : p n k = true
      · left
        rw [if_pos hp, List.lookup_cons, hx]
      · rw [if_neg hp, List.lookup_cons, hx]
        exact h
    · have hx' : (x == n) = false := by simpa using hx
      rw [List.lookup_cons, hx'] at h
      by_cases hp : p n k = true
      · rw [if_pos hp, List.lookup_cons, hx']
        exact ih h
      · rw [if_neg hp, List.lookup_cons, hx']
        exact ih h
theorem blk_nest {X : Cx} {s : Shared} {H : Hp} {scope scope2 : Scope} {cl : List (Str × Addr)} {C : Addr} {e : PySem.Env} {fp : List Addr} {N : List Str} {own : List (Str × Nat)} (h : BlkOk N scope scope2 own) (hN : X.N = N := by rfl) :
    BlkOk (X.blk s H scope (compEnvC scope cl C e) fp).N (X.blk s H scope (compEnvC scope cl C e) fp).env.scope scope2 own := by
  subst hN
  refine ⟨h.kind, h.uniq, h.ix, fun y hy hf => ?_, h.own⟩
  exact seen_through (p := fun n k => k == NameKind.free && e.scope.kind == .function && e.kindOf n == some .cell) (h.free y hy hf)
end VL
set_option maxHeartbeats 4000000
namespace VL
open PySem PySem.Spec PyProof.Rows L2
section
variable {X : Cx} {Wx : WX} {io : List Nat} {v0 : L2.St} {σ : L2.St} {H : Hp} {iter elt tg : Expr} {ifs : List Expr} {pos : Pos} {fi : Env → R (List PyData)} {g : PyData → Env → Option Env} {tt : Env → R Bool} {fe : Env → R W} {scope : Scope} {sl : List Nat}
theorem frz_of {f : Env → R W} {Q : VK} (q : tW X Wx io v0 (frzE f) σ H Q) : tW X Wx io v0 f σ H Q := by
  obtain ⟨ρ, C, F, s, p⟩ := q
  refine tW_bind s p fun w ρ1 v C1 H1 G F1 t p2 => ?_
  split at p2
  · rename_i d hd
    have sb := t.to.st.sub
    have st : Step C1 H1 G (addF C1 H1 G) H1 := addF_step sb
    exact p2 v (addF C1 H1 G) H1 Foot.none F1 ⟨⟨t.to.step.trans st t.newv, t.to.new, ⟨t.to.st.env.carry st fun a z y => t.dis a y z, addF_sub sb, t.to.st.fix⟩⟩, New.zero, fun _ z => z.elim, .c (t.own.freeze sb hd) fun _ z => z⟩
  · exact p2.elim
/-- a name's comprehension on one line, frozen -/
theorem vs_setLcF (i : Nat) {y : Str} {py spos : Pos} (own : List (Str × Nat)) (hc : X.calm = true) (hN : X.N.Nodup) (hi : VI X Wx io v0 tg iter fi) (ok : BlkOk X.N X.env.scope scope own)
    (hg : ∀ (s : Shared) (H : Hp) (C : Addr) (cl : List (Str × Addr)) (fp : List Addr), VG (X.blk s H scope (compEnvC scope cl C X.env) fp) io v0 tg sl g)
    (ht : ∀ (s : Shared) (H : Hp) (C : Addr) (cl : List (Str × Addr)) (fp : List Addr), VTs (X.blk s H scope (compEnvC scope cl C X.env) fp) W0 io v0 ifs tt)
    (he : ∀ (s : Shared) (H : Hp) (C : Addr) (cl : List (Str × Addr)) (fp : List Addr), VE (X.blk s H scope (compEnvC scope cl C X.env) fp) W0 io v0 elt fe)
    (hsw : swapsWith (.ListComp elt [⟨tg, iter, ifs, 0⟩] scope pos) (some (.Name y py)) spos.line X.env = pure true) (hy : X.N[i]? = some y := by rfl) (hyl : X.env.scope.names.lookup y = some .local := by rfl)
    (hsl : ∀ i ∈ sl, i ∈ own.map (·.2) := by decide) (hio : ∀ i ∈ own.map (·.2), i ∉ io := by decide) (hyo : i ∉ io := by decide) (hs : ∀ x, foldedSetIterable iter X.env x = pure x := by intro _; rfl) :
    VS X Wx io v0 (.Assign [.Name y py] (.ListComp elt [⟨tg, iter, ifs, 0⟩] scope pos) spos) (asgS i (frzE (lcE (own.map (·.2)) fi g tt fe))) :=
  ps_mono (ps_setLc (own := own) (i := i) (g := tgG X io v0 sl g) (tt := tT X W0 io v0 tt) (te := tW X W0 io v0 (frzE fe)) hc hN hy hyl hsw hi ok hg ht (fun s H C cl fp => ve_frz (he s H C cl fp)) hs) fun D σ H q => tLc_of hsl hio (frz_of (by
    obtain ⟨ρ, C, F, s, p⟩ := q
    refine ⟨ρ, C, F, s, (SPost.of_toS p σ).imp fun w ρ' _ q v C' H' G F' t => ?_⟩
    obtain ⟨F2, t2⟩ := To.put t hyo
    exact q _ _ _ _ t2))
end
end VL
set_option maxHeartbeats 4000000
namespace VL
open PySem PySem.Spec PyProof.Rows L2
/-! ### a list comprehension over a list that goes on being used -/
def lcB0 (vs : List Nat) (i : Nat) (g : PyData → Env → Option Env) (tt : Env → R Bool) (fe : Env → R W) (ρ : Env) (ws : List W) : R W := match colds ws with
  | some ds => if (vs.all (coldAt (ρ.set i none))) = true ∧ ds.length ≤ sizeLine then (lcLoop vs g tt fe ds (wipeE (ρ.set i none) vs)).bind fun r ρ2 => .ok (.l (r.map .c)) ((backE (ρ.set i none) ρ2 vs).set i (some (.l (ds.map .c)))) else .stuck
  | none => .stuck
def lcBE (vs : List Nat) (i : Nat) (g : PyData → Env → Option Env) (tt : Env → R Bool) (fe : Env → R W) : Env → R W := fun ρ => match ρ[i]? with
  | some (some (.l ws)) => lcB0 vs i g tt fe ρ ws
  | _ => lcE vs (seqI (var i)) g tt fe ρ
def tIB (X : Cx) (Wx : WX) (io : List Nat) (v0 : L2.St) (i : Nat) : TI := fun σ H R => tVar i σ H (fun x H1 => ∃ a, x = .ref a ∧ (∃ xs, SqL X.K H1 a xs) ∧ R (Itl X.K a) H1) ∨ tI X Wx io v0 (seqI (var i)) σ H R
section
variable {X : Cx} {Wx : WX} {io : List Nat} {v0 : L2.St} {vs : List Nat}
theorem pi_or {tg e : Expr} {a b : TI} (ha : PI X tg e a) (hb : PI X tg e b) : PI X tg e (fun σ H R => a σ H R ∨ b σ H R) := ⟨fun pins s σ H R I h => h.elim (ha.run pins s σ H R I) (hb.run pins s σ H R I)⟩
theorem vi_bor {tg : Expr} {x : Str} {p : Pos} (i : Nat) (hN : X.N[i]? = some x := by rfl) (hv : Vis X.env.scope x := by first | exact Or.inl rfl | exact Or.inr (Or.inl rfl) | exact Or.inr (Or.inr rfl)) (hd : (x == ("__debug__" : Str)) = false := by decide) (hcd : (x == ("__classdict__" : Str)) = false := by decide) :
    PI X tg (.Name x p) (tIB X Wx io v0 i) :=
  pi_or (pi_mono (pi_any (pe_var hN hv hd hcd)) fun σ H R q => by
    obtain ⟨v, h1, h2⟩ := q
    exact ⟨v, h1, .inl h2⟩) (vi_seq (ve_var i hN hv hd hcd))
theorem tLc_B {i0 : Nat} {sl : List Nat} {g : PyData → Env → Option Env} {tt : Env → R Bool} {fe : Env → R W} {σ : L2.St} {H : Hp} {Q : VK} (hsl : ∀ i ∈ sl, i ∈ vs) (hio : ∀ i ∈ vs, i ∉ io)
    (q : tW X Wx io v0 (lcBE vs i0 g tt fe) σ H Q) : tLc (tIB X Wx io v0 i0) (tgG X io v0 sl g) (tT X W0 io v0 tt) (tW X W0 io v0 (frzE fe)) vs σ H Q := by
  obtain ⟨ρ, C, F, s, p0⟩ := q
  unfold lcBE at p0
  split at p0
  rotate_left
  · exact .inr (tLc_of hsl hio ⟨ρ, C, F, s, p0⟩)
  rename_i ws hi0
  unfold lcB0 at p0
  split at p0
  rotate_left
  · exact p0.elim
  rename_i ds hds
  rw [colds_eq hds] at hi0
  split at p0
  rotate_left
  · exact p0.elim
  rename_i hcond
  obtain ⟨hcold, hlen⟩ := hcond
  obtain ⟨v, Gi, Gr, hv0, o0, hr0, hdis, hF0⟩ := s.env.out hi0
  cases o0 with
  | @l _ xs p _ G0 hp1 hcp oa hG0 hGi =>
  refine .inl ⟨_, hv0, p, rfl, ⟨xs, .inl (.inl hp1)⟩, ?_⟩
  intro D hD
  have rds : RepAll X.K C xs ds := own_colds oa
  have hFp0 : F p := (hF0 p).mpr (.inl ((hGi p).mpr (.inl rfl)))
  have hFp : ¬ Gr p := hdis p ((hGi p).mpr (.inl rfl))
  have hpD : p ≠ D := fun e => by rw [e, hD] at hp1; cases hp1
  have t1 : To X.K io v0 C H F (ρ.set i0 none) σ C H Gr := ⟨Step.refl _, fun a z => .inl ((hF0 a).mpr (.inr z)), ⟨hr0, s.sub, s.fix⟩⟩
  have SqU : ∀ {H' : Hp}, H' p = some (.lst xs) → SqL X.K H' p xs := fun h => .inl (.inl h)
  have goL : ∀ (i : Nat) (H' : Hp), H' p = some (.lst xs) → i < ds.length → (Itl X.K p).go i H' := fun i H' h hi => by
    obtain ⟨x, h1, h2⟩ := rds.get' (i := i) (d := ds[i]) (by simp [hi])
    exact ⟨xs, x, SqU h, h1⟩
  have stopL : ∀ (H' : Hp), H' p = some (.lst xs) → (Itl X.K p).stop ds.length H' := fun H' h => ⟨xs, SqU h, by rw [rds.length]; exact Nat.le_refl _⟩
  have yldL : ∀ (i : Nat) (H' : Hp) (x : V) (H2 : Hp) (C2 : Hp), Same C C2 → Same C2 H' → H' p = some (.lst xs) → i < ds.length → (Itl X.K p).yld i H' x H2 → ∃ C3 d, ds[i]? = some d ∧ Step C2 H' Foot.none C3 H2 ∧ Same C3 H2 ∧ Rep X.K C3 x d := fun i H' x H2 C2 c2 sb h hi y => by
    obtain ⟨rfl, y⟩ := y
    obtain ⟨d, h1, h2⟩ := rds.get (y xs (SqU h))
    exact ⟨C2, d, h1, Step.refl _, sb, h2.mono c2⟩
  cases hL : lcLoop vs g tt fe ds (wipeE (ρ.set i0 none) vs) with
  | exn e ρ2 => exact (lcLoop_noexn _ _ hL).elim
  | stuck => rw [hL] at p0; exact p0.elim
  | ok rfin ρfin =>
  rw [hL] at p0
  have kfin : ∀ v C' H' G F', ToV X.K io v0 C H F (.l (rfin.map .c)) v ((backE (ρ.set i0 none) ρfin vs).set i0 (some (.l (ds.map .c)))) σ C' H' G F' → Q v H' := p0
  have hcD : C D = none := free_sub s.sub hD
  have hnD : New H F (fun a => a = D) := fun a z => by
    subst z
    by_cases hf : F a
    · exact .inl hf
    · refine .inr ?_
      cases e : H a with
      | none => rfl
      | some o => rw [t1.step.fr a o e hf] at hD; cases hD
  have hwl : ∀ {σ' : L2.St}, wipe σ' vs = wipe σ vs → σ'.length = σ.length := fun {σ'} e => by
    have := congrArg List.length e
    rw [wipe_length, wipe_length] at this
    exact this
  let Inv : Nat → Hp → Prop := fun i H' => i ≤ ds.length ∧ ∃ ρ2 C2 F2 acc dacc r, St X.K io v0 ρ2 (wipe σ vs) C2 H' F2 ∧ Step C H F C2 H' ∧ New H F F2 ∧ Same C C2 ∧ H' p = some (.lst xs) ∧ C2 p = none ∧ ¬ F2 p ∧ H' D = some (.lst acc) ∧ C2 D = none ∧ ¬ F2 D ∧ RepAll X.K C2 acc dacc ∧ dacc.length ≤ i ∧
    lcLoop vs g tt fe (ds.drop i) ρ2 = .ok r ρfin ∧ dacc ++ r = rfin
  refine ⟨fun i m H' => m = ds.length - i ∧ Inv i H', ⟨ds.length, by simp, Nat.zero_le _, ?_⟩, ?_⟩
  · obtain ⟨F2, h1, h2⟩ := t1.st.wipe vs hio
    have st : Step C H Foot.none C (upd H D (.lst [])) := ⟨Same.refl _, fun a o e _ => by rw [upd_ne (ne_of_none e hD)]; exact e, fun a z => .inl z⟩
    have sb : Same C (upd H D (.lst [])) := fun a o e => by rw [upd_ne (ne_of_none e hcD)]; exact t1.st.sub a o e
    refine ⟨wipeE (ρ.set i0 none) vs, C, F2, [], [], rfin, h1.carry st (fun _ _ z => z.elim) sb, t1.step.trans (st.mono fun _ z => z.elim) t1.new, fun a z => t1.new a (h2 a z), Same.refl _, by rw [upd_ne hpD]; exact hp1, hcp, fun z => hFp (h2 _ z), upd_same, hcD, fun z => (t1.st.env.foot (h2 _ z)).1 hD, .nil, Nat.le_refl _, by simpa using hL, rfl⟩
  · rintro i m H2 ⟨rfl, hi, ρ2, C2, F2, acc, dacc, r, s2, st2, n2, c2, hp2, hCp2, hFp2, hD2, hC2, hF2, ra, la, hloop, hr⟩
    by_cases hlt : i < ds.length
    · refine .inr ⟨goL i H2 hp2 hlt, fun H' => Inv (i + 1) H', fun H' h => ⟨ds.length - (i + 1), by omega, rfl, h⟩, fun x H3 y => ?_⟩
      obtain ⟨C3, d, hd, st3, sb3, r3⟩ := yldL i H2 x H3 C2 c2 s2.sub hp2 hlt y
      have hdrop : ds.drop i = d :: ds.drop (i + 1) := by
        rw [List.drop_eq_getElem_cons hlt]
        rw [List.getElem?_eq_getElem hlt] at hd
        rw [Option.some.inj hd]
      rw [hdrop] at hloop
      unfold lcLoop at hloop
      cases hg : g d ρ2 with
      | none => rw [hg] at hloop; cases hloop
      | some ρa =>
      rw [hg] at hloop
      simp only at hloop
      obtain ⟨b, ρb, htt, hloop⟩ := R.bind_ok hloop
      have htt := noX_ok htt
      refine ⟨ρ2, C3, F2, d, ρa, s2.carry st3 (fun _ _ z => z.elim) sb3, r3, hg, fun σa Fa only nFa sa => ?_⟩
      have hwa : wipe σa vs = wipe σ vs := (wipe_only only hsl).trans wipe_wipe
      refine ⟨hwa, ρa, C3, Fa, sa, ?_⟩
      rw [htt]
      show ∀ C' H' F', To X.K io v0 C3 H3 Fa ρb σa C' H' F' → _
      intro C4 H4 F4 t4
      -- the list's place through these steps
      have hFaD : ¬ Fa D := fun z => hF2 (nFa _ z)
      have hFap : ¬ Fa p := fun z => hFp2 (nFa _ z)
      have hp3 : H3 p = some (.lst xs) := st3.fr p _ hp2 fun z => z
      have hp4 : H4 p = some (.lst xs) := t4.step.fr p _ hp3 hFap
      have hCp3 : C3 p = none := (stay_of st3 (a := p) ⟨by rw [hp2]; simp, hCp2⟩ fun z => z).2
      have hCp4 : C4 p = none := (stay_of t4.step (a := p) ⟨by rw [hp3]; simp, hCp3⟩ hFap).2
      have hF4p : ¬ F4 p := fun z => by
        rcases t4.new p z with y | y
        · exact hFap y
        · rw [hp3] at y; cases y
      have hD3 : H3 D = some (.lst acc) := st3.fr D _ hD2 fun z => z
      have hD4 : H4 D = some (.lst acc) := t4.step.fr D _ hD3 hFaD
      have hC3 : C3 D = none := (stay_of st3 (a := D) ⟨by rw [hD2]; simp, hC2⟩ fun z => z).2
      have hC4 : C4 D = none := (stay_of t4.step (a := D) ⟨by rw [hD3]; simp, hC3⟩ hFaD).2
      have n23 : New H2 Foot.none Foot.none := New.zero
      have stA : Step C H F C3 H3 := st2.trans (st3.mono fun _ z => z.elim) n2
      have nA : New H F Fa := fun a z => n2 a (nFa a z)
      have stB : Step C H F C4 H4 := stA.trans t4.step nA
      have nB : New H F F4 := New.trans stA nA t4.new
      have hF4D : ¬ F4 D := fun z => by
        rcases t4.new D z with y | y
        · exact hFaD y
        · rw [hD3] at y; cases y
      cases b with
      | false =>
        simp only [Bool.false_eq_true, if_false] at hloop ⊢
        obtain ⟨F5, h5, m5⟩ := t4.st.wipe vs hio
        rw [hwa] at h5
        exact ⟨hlt, wipeE ρb vs, C4, F5, acc, dacc, r, h5, stB, fun a z => nB a (m5 a z), c2.trans (st3.cc.trans t4.step.cc), hp4, hCp4, fun z => hF4p (m5 _ z), hD4, hC4, fun z => hF4D (m5 _ z), ra.mono (st3.cc.trans t4.step.cc), by omega, hloop, hr⟩
      | true =>
        simp only [if_true] at hloop ⊢
        obtain ⟨w, ρc, hfe, hloop⟩ := R.bind_ok hloop
        have hfe := noX_ok hfe
        refine ⟨ρb, C4, F4, t4.st, ?_⟩
        rw [hfe]
        show ∀ v C' H' G F', ToV X.K io v0 C4 H4 F4 w v ρc σa C' H' G F' → _
        intro v C5 H5 G5 F5 t5
        have hD5 : H5 D = some (.lst acc) := t5.to.step.fr D _ hD4 hF4D
        have hC5 : C5 D = none := (stay_of t5.to.step (a := D) ⟨by rw [hD4]; simp, hC4⟩ hF4D).2
        have hF5D : ¬ F5 D := fun z => by
          rcases t5.to.new D z with y | y
          · exact hF4D y
          · rw [hD4] at y; cases y
        have hp5 : H5 p = some (.lst xs) := t5.to.step.fr p _ hp4 hF4p
        have hCp5 : C5 p = none := (stay_of t5.to.step (a := p) ⟨by rw [hp4]; simp, hCp4⟩ hF4p).2
        have hF5p : ¬ F5 p := fun z => by
          rcases t5.to.new p z with y | y
          · exact hF4p y
          · rw [hp4] at y; cases y
        have hal : acc.length < sizeLine := by rw [ra.length]; omega
        refine ⟨acc, hD5, hal, ?_⟩
        split at hloop
        rotate_left
        · cases hloop
        obtain ⟨r', ρ', hl2, heq⟩ := R.bind_ok hloop
        cases heq
        obtain ⟨F6, h6, m6⟩ := t5.to.st.wipe vs hio
        rw [hwa] at h6
        have st6 : Step C5 H5 (fun a => a = D) C5 (upd H5 D (.lst (acc ++ [v]))) := ⟨Same.refl _, fun a o e z => by rw [upd_ne z]; exact e, fun a z => .inl z⟩
        have sb6 : Same C5 (upd H5 D (.lst (acc ++ [v]))) := fun a o e => by rw [upd_ne (ne_of_none e hC5)]; exact t5.to.st.sub a o e
        have stC : Step C H F C5 H5 := stB.trans t5.to.step nB
        have rv := own_c t5.own
        refine ⟨hlt, wipeE ρc vs, C5, F6, acc ++ [v], dacc ++ [_], r', h6.carry st6 (fun a z y => hF5D (by rw [← y]; exact m6 _ z)) sb6, stC.trans st6 hnD, fun a z => New.trans stB nB t5.to.new a (m6 a z), c2.trans (st3.cc.trans (t4.step.cc.trans t5.to.step.cc)), by rw [upd_ne hpD]; exact hp5, hCp5, fun z => hF5p (m6 _ z), upd_same, hC5, fun z => hF5D (m6 _ z), (ra.mono (st3.cc.trans (t4.step.cc.trans t5.to.step.cc))).append (.cons rv .nil), by rw [List.length_append]; simp; omega, hl2, by rw [← hr]; simp⟩
    · have e : i = ds.length := by omega
      subst e
      have hz : ds.drop ds.length = [] := by simp
      rw [hz] at hloop
      unfold lcLoop at hloop
      have e1 : r = [] := by cases hloop; rfl
      have e2 : ρ2 = ρfin := by cases hloop; rfl
      rw [e1, List.append_nil] at hr
      subst hr e2
      refine .inl ⟨stopL H2 hp2, ?_⟩
      have hl2 : ρ2.length = σ.length := by rw [s2.env.length, wipe_length]
      obtain ⟨F3, h3, m3⟩ := St.back (ρ2 := ρ2) t1.st c2 vs (fun i hi => List.all_eq_true.mp hcold i hi) hio hl2 s2
      have hvσ : σ[i0]? = some (some (.ref p)) := hv0
      obtain ⟨Fw, ew, sw⟩ := h3.env.wipe i0 (some (.ref p))
      rw [setv_same hvσ] at ew
      have oL : Own X.K C2 H2 (.l (ds.map .c)) (.ref p) (fun a => a = p) := .l hp2 hCp2 (colds_own (rds.mono (t1.step.cc.trans c2))) (fun z => z) fun a => ⟨fun z => .inl z, fun z => z.elim id fun z => z.elim⟩
      obtain ⟨F4, e4, s4⟩ := own_put ew hvσ oL fun a z y => hFp2 (by rw [← z]; exact m3 _ (sw a y))
      refine kfin (.ref D) C2 H2 (fun a => a = D) F4 ⟨⟨st2, fun a z => (s4 a z).elim (fun z => n2 a (m3 a (sw a z))) fun z => .inl (by rw [z]; exact hFp0), ⟨e4, h3.sub, h3.fix⟩⟩, hnD, fun a z y => ?_, .l hD2 hC2 (colds_own ra) (fun z => z) fun a => ⟨fun z => .inl z, fun z => z.elim id fun z => z.elim⟩⟩
      rw [z] at y
      rcases s4 D y with y | y
      · exact hF2 (m3 _ (sw _ y))
      · exact hpD y.symm
variable {elt tg : Expr} {x : Str} {p : Pos} {ifs : List Expr} {scope : Scope} {pos : Pos} {sl : List Nat} {g : PyData → Env → Option Env} {tt : Env → R Bool} {fe : Env → R W}
theorem ve_lcB (i : Nat) (own : List (Str × Nat)) (hc : X.calm = true) (hN : X.N.Nodup) (hi : PI X tg (.Name x p) (tIB X Wx io v0 i)) (ok : BlkOk X.N X.env.scope scope own)
    (hg : ∀ (s : Shared) (H : Hp) (C : Addr) (cl : List (Str × Addr)) (fp : List Addr), VG (X.blk s H scope (compEnvC scope cl C X.env) fp) io v0 tg sl g)
    (ht : ∀ (s : Shared) (H : Hp) (C : Addr) (cl : List (Str × Addr)) (fp : List Addr), VTs (X.blk s H scope (compEnvC scope cl C X.env) fp) W0 io v0 ifs tt)
    (he : ∀ (s : Shared) (H : Hp) (C : Addr) (cl : List (Str × Addr)) (fp : List Addr), VE (X.blk s H scope (compEnvC scope cl C X.env) fp) W0 io v0 elt fe)
    (hsl : ∀ i ∈ sl, i ∈ own.map (·.2) := by decide) (hio : ∀ i ∈ own.map (·.2), i ∉ io := by decide) (hs : ∀ y, foldedSetIterable (.Name x p) X.env y = pure y := by intro _; rfl) :
    VE X Wx io v0 (.ListComp elt [⟨tg, .Name x p, ifs, 0⟩] scope pos) (lcBE (own.map (·.2)) i g tt fe) :=
  pe_mono (pe_lc (own := own) (g := tgG X io v0 sl g) (tt := tT X W0 io v0 tt) (te := tW X W0 io v0 (frzE fe)) hc hN hi ok hg ht (fun s H C cl fp => ve_frz (he s H C cl fp)) hs) fun σ H Q q => tLc_B hsl hio q
end
end VL
set_option maxHeartbeats 4000000
namespace VL
open PySem PySem.Spec PyProof.Rows L2
/-! ### errors of the package -/
/-- a class without an own __init__ under ValueError -/
def ExcF (K : PySem.W.Frag) (mg : Str → Option Value) (x : Str) : Prop := ∃ C, mg x = some (.ref C) ∧ PySem.W.keepIn K (.ref C) = true ∧ PySem.W.excIn K C [.type "ValueError", .type "Exception", .type "BaseException", .type "object"] "ValueError.__new__" = true ∧
  PySem.W.subIn K (.ref C) (.type "BaseException") = some true ∧ PySem.W.typeIn K (.ref C) = some (.type "type")
section
variable {X : Cx} {Wx : WX} {io : List Nat} {v0 : L2.St}
/-- X() -/
theorem pmk_own0 {C : Addr} {bmB : List Value} {B newId initId : String} {x : Str} {p pos : Pos} (F : ExcBaseFacts B newId initId bmB) (q : PySem.W.excIn X.K C bmB newId = true) (gC : X.mg x = some (.ref C)) (kC : PySem.W.keepIn X.K (.ref C) = true) (r : Raises X (.ref C)) (hg : Gl X x)
    (hdb : (x == ("__debug__" : Str)) = false := by decide) : PMk X (.Call (.Name x p) [] [] pos) (fun _ H Q => Q (.ref C) none H) := by
  intro pins s σ H Q I h
  refine wpAny_Call_Name_kw (ld_glob I hg gC ?_ hdb)
  refine PySem.W.callWith_K0 I.kIn kC ?_
  show wpAny _ _ (call (.ref C) []) _ _ _
  obtain ⟨bm, N, nm, qn, bs, hdct, sn, sub, ab, col, dd, k0, k1, k2, k3, k5, mN, hC, hN, hni, T⟩ := exc_obj I.kIn q
  refine wpAny_call_exc_subT F T hC hN hni (fun h' e hm => ?_) (by show 0 ≤ sizeLine; exact Nat.zero_le _)
  exact mk_of I hm r h (I.hok.gone hm.new)
def raiseS (x : Str) : Env → RS := fun ρ => .exn ⟨x, []⟩ ρ
theorem vs_raise0 {k : Nat} {x : Str} {p pos rpos : Pos} (B : Bd X k Wx) (E : ExcF X.K X.mg x) (hg : Gl X x := by rfl) (hdb : (x == ("__debug__" : Str)) = false := by decide) : VS X Wx io v0 (.Raise (some (.Call (.Name x p) [] [] pos)) none rpos) (raiseS x) := by
  obtain ⟨C, hm, hk, hq, h1, h2⟩ := E
  refine ps_mono (ps_raise B.calm B.takes (pmk_own0 PySem.F.excBase_ValueError hq hm hk (raises_own h1 h2) hg hdb)) fun D σ H q => ?_
  obtain ⟨ρ, C', F, s, p⟩ := q
  exact p σ (.ref C) none C' H F (To.refl s) ⟨C, hm, rfl, .inl ⟨rfl, rfl⟩⟩
/-! ### try: .. except X: .. -/
def catchS (sub : Str → Str → Option Bool) : List (Str × (Env → RS)) → Exn → Env → RS
  | [], e, ρ => .exn e ρ
  | (c, g) :: r, e, ρ => match sub e.cls c with
    | some true => g ρ
    | some false => catchS sub r e ρ
    | none => .stuck
def tryS (sub : Str → Str → Option Bool) (gb : Env → RS) (l : List (Str × (Env → RS))) : Env → RS := fun ρ => match gb ρ with
  | .exn e ρ' => catchS sub l e ρ'
  | .nx ρ' => .nx ρ'
  | .rt w ρ' => .rt w ρ'
  | .stuck => .stuck
/-- which class is a child of which -/
def SubF (K : PySem.W.Frag) (mg : Str → Option Value) (sub : Str → Str → Option Bool) : Prop := ∀ x y b, sub x y = some b → ∀ C D, mg x = some (.ref C) → mg y = some (.ref D) → PySem.W.exmOne K (.ref C) (.ref D) = some b
inductive VCl (X : Cx) (Wx : WX) (io : List Nat) (v0 : L2.St) : List ExceptHandler → List (Str × (Env → RS)) → Prop
  | nil : VCl X Wx io v0 [] []
  | cons {x : Str} {D : Addr} {g : Env → RS} {b₀ : Stmt} {suite : List Stmt} {np pos' : Pos} {hds : List ExceptHandler} {l : List (Str × (Env → RS))} (hm : X.mg x = some (.ref D)) (hg : Gl X x) (hdb : (x == ("__debug__" : Str)) = false)
      (hsu : ∀ (a : Addr) (pn : List (Addr × Obj)), VSs (X.suite a pn) Wx io v0 (b₀ :: suite) g) (r : VCl X Wx io v0 hds l) : VCl X Wx io v0 (.ExceptHandler (some (.Name x np)) none (b₀ :: suite) pos' :: hds) ((x, g) :: l)
def IsCls (mg : Str → Option Value) (x : Str) : Prop := ∃ D, mg x = some (.ref D)
theorem ExcF.is {K : PySem.W.Frag} {mg : Str → Option Value} {x : Str} (h : ExcF K mg x) : IsCls mg x := by
  obtain ⟨C, hm, _⟩ := h
  exact ⟨C, hm⟩
theorem vcl_cons {x : Str} {g : Env → RS} {b₀ : Stmt} {suite : List Stmt} {np pos' : Pos} {hds : List ExceptHandler} {l : List (Str × (Env → RS))} (h : IsCls X.mg x) (hsu : ∀ (a : Addr) (pn : List (Addr × Obj)), VSs (X.suite a pn) Wx io v0 (b₀ :: suite) g) (r : VCl X Wx io v0 hds l)
    (hg : Gl X x := by rfl) (hdb : (x == ("__debug__" : Str)) = false := by decide) : VCl X Wx io v0 (.ExceptHandler (some (.Name x np)) none (b₀ :: suite) pos' :: hds) ((x, g) :: l) := by
  obtain ⟨D, hm⟩ := h
  exact .cons hm hg hdb hsu r
/-- a table of children -/
def subT (l : List (Str × Str × Bool)) (x y : Str) : Option Bool := match l with
  | [] => none
  | t :: r => if t.1 = x ∧ t.2.1 = y then some t.2.2 else subT r x y
theorem subT_nil {K : PySem.W.Frag} {mg : Str → Option Value} : SubF K mg (subT []) := fun x y b h => by unfold subT at h; cases h
theorem subT_cons {K : PySem.W.Frag} {mg : Str → Option Value} {x y : Str} {b : Bool} {C D : Addr} {l : List (Str × Str × Bool)} (h1 : mg x = some (.ref C)) (h2 : mg y = some (.ref D)) (h3 : PySem.W.exmOne K (.ref C) (.ref D) = some b) (r : SubF K mg (subT l)) : SubF K mg (subT ((x, y, b) :: l)) := by
  intro x' y' b' h C' D' e1 e2
  unfold subT at h
  split at h
  · rename_i hc
    obtain ⟨rfl, rfl⟩ := hc
    rw [h1] at e1
    rw [h2] at e2
    cases e1
    cases e2
    cases h
    exact h3
  · exact r x' y' b' h C' D' e1 e2
theorem vcl_ok {sub : Str → Str → Option Bool} (S : SubF X.K X.mg sub) {hds : List ExceptHandler} {l : List (Str × (Env → RS))} (h : VCl X Wx io v0 hds l) :
    ∃ l', HdsOk X hds l' ∧ ∀ (D : Ends) (e : Exn) (ρ' : Env) (C H : Hp) (F : Foot) (σ' : L2.St) (cls : Value) (d : Option Addr) (C' H' : Hp) (F' : Foot), To X.K io v0 C H F ρ' σ' C' H' F' → ExOk X e cls d C' → SPost X Wx io v0 C H F (catchS sub l e ρ') D → wMany X.K Wx D l' cls d σ' H' := by
  induction h with
  | nil => exact ⟨[], .nil, fun D e ρ' C H F σ' cls d C' H' F' t x p => p σ' cls d C' H' F' t x⟩
  | @cons x Dc g b₀ suite np pos' hds l hm hg hdb hsu r ih =>
    obtain ⟨l', h1, h2⟩ := ih
    refine ⟨(.ref Dc, fun _ _ _ => tS X Wx io v0 g) :: l', .cons ⟨hg, hdb, .inl hm⟩ (fun a oe cls d pn _ _ => hsu a ((a, oe) :: pn)) h1, ?_⟩
    intro D e ρ' C H F σ' cls d C' H' F' t xo p
    obtain ⟨De, q1, q2, q3⟩ := id xo
    unfold catchS at p
    cases hs : sub e.cls x with
    | none => rw [hs] at p; exact p.elim
    | some b =>
      have hx := S _ _ _ hs _ _ q1 hm
      rw [← q2] at hx
      rw [hs] at p
      refine ⟨b, hx, fun hb a _ => ?_, fun hb => ?_⟩
      · subst hb
        exact tS_at t p
      · subst hb
        exact h2 D e ρ' C H F σ' cls d C' H' F' t xo p
theorem Bd.tr {k : Nat} (B : Bd X k Wx) {W : WX} {pn : List (Addr × Obj)} {xe : Value → Shared → Prop} (tk : Takes (X.tr pn xe) W) : Bd (X.tr pn xe) k W := ⟨B.room, B.guards, B.calm, tk⟩
theorem vs_try {k : Nat} {sub : Str → Str → Option Bool} {body : List Stmt} {h₀ : ExceptHandler} {hds : List ExceptHandler} {gb : Env → RS} {l : List (Str × (Env → RS))} {pos : Pos} (B : Bd X k Wx) (S : SubF X.K X.mg sub) (hs : X.stack = X.env :: X.outer) (hf : X.env.frame = some X.env.locals)
    (hb : ∀ (W : WX) (pn : List (Addr × Obj)) (xe : Value → Shared → Prop), Bd (X.tr pn xe) k W → PassesOwn (model X.prog X.w) X.A X.env xe → VSs (X.tr pn xe) W io v0 body gb) (hh : VCl X Wx io v0 (h₀ :: hds) l) : VS X Wx io v0 (.Try body (h₀ :: hds) [] [] pos) (tryS sub gb l) := by
  obtain ⟨l', h1, h2⟩ := vcl_ok S hh
  refine ps_mono (ps_try_many (tb := fun W => tS X W io v0 gb) hs hf B.takes (fun W pn xe tk po => hb W pn xe (B.tr tk) po) h1) fun D σ H q => ?_
  obtain ⟨ρ, C, F, s, p⟩ := q
  refine ⟨ρ, C, F, s, ?_⟩
  unfold tryS at p
  cases e : gb ρ with
  | nx ρ' => rw [e] at p; exact p
  | rt w ρ' => rw [e] at p; exact p
  | exn x ρ' =>
    rw [e] at p
    intro σ' cls d C' H' F' t xo
    exact h2 D x ρ' C H F σ' cls d C' H' F' t xo p
  | stuck => rw [e] at p; exact p.elim
end
end VL
set_option maxHeartbeats 4000000
namespace VL
open PySem PySem.Spec PyProof.Rows L2
/-! ### x[i], y[j] = a, b -/
def putV (i : Nat) (g : Env → R W) (w : W) : Env → RS := fun ρ1 => match ρ1[i]? with
  | some (some _) => (g ρ1).toS fun k ρ2 => (match ρ2[i]? with
    | some (some w0) => (match setM w0 [k, w] with
      | some (w', _) => .nx (ρ2.set i (some w'))
      | none => .stuck)
    | _ => .stuck)
  | _ => .stuck
def putsS : List (Nat × (Env → R W)) → List PyData → Env → RS
  | [], [], ρ => .nx ρ
  | (i, g) :: ps, d :: ds, ρ => (putV i g (.c d) ρ).seq (putsS ps ds)
  | _, _, _ => .stuck
def parP (os : List Opd) (ps : List (Nat × (Env → R W))) : Env → RS := fun ρ => (evs os ρ).toS fun ts ρ1 => match (wsV ts).bind colds with
  | some ds => if ds.length = ps.length then putsS ps ds ρ1 else .stuck
  | none => .stuck
section
variable {X : Cx} {Wx : WX} {io : List Nat} {v0 : L2.St}
def endN (Q : L2.St → Hp → Prop) : Ends := { nx := Q, rt := fun _ _ => False }
def tP1 (X : Cx) (Wx : WX) (io : List Nat) (v0 : L2.St) (i : Nat) (g : Env → R W) : TG := fun v σ H Q => ∃ ρ C F d, St X.K io v0 ρ σ C H F ∧ Rep X.K C v d ∧ SPost X Wx io v0 C H F (putV i g (.c d) ρ) (endN Q)
def tPs (X : Cx) (Wx : WX) (io : List Nat) (v0 : L2.St) (ps : List (Nat × (Env → R W))) : TGs := fun vs σ H Q => ∃ ρ C F ds, St X.K io v0 ρ σ C H F ∧ RepAll X.K C vs ds ∧ SPost X Wx io v0 C H F (putsS ps ds ρ) (endN Q)
theorem pg_put {x : Str} {p pos' : Pos} {ix : Expr} {g : Env → R W} (i : Nat) (hu : X.A.units + 1 < cLine) (hg : VE X Wx io v0 ix g)
    (hN : X.N[i]? = some x := by rfl) (hv : Vis X.env.scope x := by first | exact Or.inl rfl | exact Or.inr (Or.inl rfl) | exact Or.inr (Or.inr rfl)) (hd : (x == ("__debug__" : Str)) = false := by decide) (hcd : (x == ("__classdict__" : Str)) = false := by decide)
    (ha : ∀ v, assign (.Subscript (.Name x p) ix pos') X.env v = (do
      let ov ← holding [v] (eval (.Name x p) X.env)
      let iv ← holding [v, ov] (eval ix X.env)
      standAt pos'
      holding [v, ov, iv] (setItem ov iv v)
      release [v, ov, iv] []) := by intro _; rfl) : PG X (.Subscript (.Name x p) ix pos') (tP1 X Wx io v0 i g) :=
  pg_mono (pg_sub (pe_var hN hv hd hcd) hg (set_any hu) ha) fun v σ H Q q => by
  obtain ⟨ρ1, C1, F1, d, s1, rv, q1⟩ := q
  unfold putV at q1
  split at q1
  · rename_i wa hia
    obtain ⟨vo, _, hvo, _, _⟩ := s1.env.at hia
    refine ⟨vo, hvo, ρ1, C1, F1, s1, (SPost.of_toS q1 σ).imp fun k ρ2 _ q2 => fun x2 C2 H2 G2 F2 t2 => ?_⟩
    split at q2
    · rename_i w0 hi
      split at q2
      · rename_i w' u hm
        have q2' : ∀ σ' C' H' F', To X.K io v0 C1 H F1 (ρ2.set i (some w')) σ' C' H' F' → Q σ' H' := q2
        have ow : OwnAll X.K C2 H2 [k, .c d] [x2, v] (Foot.or G2 Foot.none) := .cons t2.own (.cons (G := Foot.none) (G' := Foot.none) (.c (rv.mono t2.to.step.cc) fun _ z => z) (.nil fun _ z => z) (fun _ _ z => z) fun a => ⟨.inl, fun z => z.elim id False.elim⟩) (fun a _ z => z) fun a => Iff.rfl
        have := mut_at (Q := fun x H => Q σ H) set_okM t2.to (fun a z => z.elim (t2.newv a) False.elim) (fun a z => z.elim (t2.dis a) False.elim) ow hi hvo hm fun x C' H' G' F' t => q2' σ C' H' F' t.to
        obtain ⟨i', v', ei, r⟩ := this
        cases ei
        exact r
      · exact q2.elim
    · exact q2.elim
  · exact q1.elim
theorem pgs_nilP : PGs X [] (tPs X Wx io v0 []) := pgs_mono pgs_nil fun vs σ H Q q => by
  obtain ⟨ρ, C, F, ds, s, r, p⟩ := q
  cases r with
  | nil => exact ⟨rfl, p σ C H F (To.refl s)⟩
  | cons _ _ => exact p.elim
theorem pgs_consP {e : Expr} {es : List Expr} {i : Nat} {g : Env → R W} {ps : List (Nat × (Env → R W))} (h1 : PG X e (tP1 X Wx io v0 i g)) (h2 : PGs X es (tPs X Wx io v0 ps))
    (hs : (assignEach (e :: es) X.env).map (·.2) = assign e X.env :: (assignEach es X.env).map (·.2) := by rfl) : PGs X (e :: es) (tPs X Wx io v0 ((i, g) :: ps)) := pgs_mono (pgs_cons h1 h2 hs) fun vs σ H Q q => by
  obtain ⟨ρ, C, F, ds, s, r, p⟩ := q
  cases r with
  | nil => exact p.elim
  | @cons v vs d ds rd rr =>
    refine ⟨_, _, rfl, ρ, C, F, _, s, rd, ?_⟩
    have p' : SPost X Wx io v0 C H F ((putV i g (.c d) ρ).seq (putsS ps ds)) (endN Q) := p
    cases e1 : putV i g (.c d) ρ with
    | nx ρ' =>
      rw [e1] at p'
      show ∀ σ' C' H' F', To X.K io v0 C H F ρ' σ' C' H' F' → tPs X Wx io v0 ps vs σ' H' Q
      intro σ' C' H' F' t
      have p2 : SPost X Wx io v0 C H F (putsS ps ds ρ') (endN Q) := p'
      exact ⟨ρ', C', F', ds, t.st, rr.mono t.step.cc, p2.shift t⟩
    | rt w ρ' => rw [e1] at p'; exact p'
    | exn x ρ' => rw [e1] at p'; exact p'
    | stuck => rw [e1] at p'; exact p'.elim
theorem putV_rt {i : Nat} {g : Env → R W} {w u : W} {ρ ρ' : Env} : putV i g w ρ ≠ .rt u ρ' := by
  unfold putV
  split
  · cases g ρ with
    | ok k ρ2 =>
      show (match ρ2[i]? with
        | some (some w0) => (match setM w0 [k, w] with
          | some (w', _) => RS.nx (ρ2.set i (some w'))
          | none => .stuck)
        | _ => .stuck) ≠ _
      split
      · split <;> simp
      · simp
    | exn _ _ => intro h; cases h
    | stuck => intro h; cases h
  · simp
theorem putsS_rt : ∀ (ps : List (Nat × (Env → R W))) (ds : List PyData) (ρ : Env) (u : W) (ρ' : Env), putsS ps ds ρ ≠ .rt u ρ'
  | [], [], _, _, _ => by simp [putsS]
  | [], _ :: _, _, _, _ => by simp [putsS]
  | _ :: _, [], _, _, _ => by simp [putsS]
  | (i, g) :: ps, d :: ds, ρ, u, ρ' => by
    show (putV i g (.c d) ρ).seq (putsS ps ds) ≠ _
    cases e : putV i g (.c d) ρ with
    | nx ρ2 => exact putsS_rt ps ds ρ2 u ρ'
    | rt w ρ2 => exact absurd e putV_rt
    | exn _ _ => intro h; cases h
    | stuck => intro h; cases h
theorem puts_end {C H : Hp} {F : Foot} {ps : List (Nat × (Env → R W))} {ds : List PyData} {ρ : Env} {D : Ends} (p : SPost X Wx io v0 C H F (putsS ps ds ρ) D) : SPost X Wx io v0 C H F (putsS ps ds ρ) (endN D.nx) := by
  cases e : putsS ps ds ρ with
  | nx ρ2 => rw [e] at p; exact p
  | rt w ρ2 => exact absurd e (putsS_rt ps ds ρ w ρ2)
  | exn x ρ2 => rw [e] at p; exact p
  | stuck => rw [e] at p; exact p
theorem parP_of {D : Ends} {ps : List (Nat × (Env → R W))} {os : List Opd} {σ : L2.St} {H : Hp} (q : tS X Wx io v0 (parP os ps) D σ H) : tAs X Wx io v0 os σ H fun vs H1 => vs.length = ps.length ∧ ∀ p o, H1 p = none → tPs X Wx io v0 ps vs σ (upd H1 p o) D.nx := by
  obtain ⟨ρ, C, F, s, p⟩ := q
  refine ⟨ρ, C, F, s, (SPost.of_toS p σ).imp fun ts ρ' _ q vs C' H' G F' t => ?_⟩
  cases e1 : wsV ts with
  | none => simp only [e1] at q; exact q.elim
  | some ws =>
    simp only [e1, Option.bind_some] at q
    cases e2 : colds ws with
    | none => simp only [e2] at q; exact q.elim
    | some ds =>
      simp only [e2] at q
      split at q
      · rename_i hl
        have ow := own_ts t.own e1
        rw [colds_eq e2] at ow
        have r := own_colds ow
        refine ⟨by rw [r.length]; exact hl, fun p o hp => ?_⟩
        have t2 := t.to.trans (To.beside (o := o) t.to.st hp)
        exact ⟨ρ', C', F', ds, t2.st, r, puts_end (SPost.shift q t2)⟩
      · exact q.elim
theorem vs_parP {es xs : List Expr} {ps : List (Nat × (Env → R W))} {os : List Opd} {n : Nat} {kt k2 : Nat} {pt pt2 pos : Pos} (hc : X.calm = true) (ha : VA X Wx io v0 xs os) (hn : PGs X es (tPs X Wx io v0 ps)) (hl : ps.length = n := by rfl) (h1000 : n ≤ 1000 := by decide)
    (hes : (assignEach es X.env).length = n := by rfl) (hst : (assignEach es X.env).findIdx? (·.1) = none := by rfl)
    (hs : swapsWithSole [.Tuple es kt pt] (.Tuple xs k2 pt2) pos.line X.env = pure false := by rfl) (hw : swappedStores [.Tuple es kt pt] (.Tuple xs k2 pt2) X.env = pure none := by rfl)
    (h1 : (assignEach [.Tuple es kt pt] X.env).map (·.2) = [assign (.Tuple es kt pt) X.env] := by rfl) :
    VS X Wx io v0 (.Assign [.Tuple es kt pt] (.Tuple xs k2 pt2) pos) (parP os ps) := ps_mono (ps_asg (pe_tup ha) (pg_tup (n := n) hc hn hes hst) hs hw h1) fun D σ H q => tAs_mono (fun vs H1 ⟨l, q2⟩ => by
  refine ⟨by rw [l, hl]; exact small_line h1000, fun p hp => ⟨p, vs, rfl, .inl (.inl upd_same), by rw [l, hl], q2 p _ hp⟩⟩) (parP_of q)
end
theorem exm_of {K : PySem.W.Frag} {C D : Addr} {b : Bool} (h1 : PySem.W.subIn K (.ref D) (.type "BaseException") = some true) (h2 : PySem.W.isClsIn K D = true) (h3 : PySem.W.typeIn K (.ref D) = some (.type "type")) (h4 : PySem.W.subIn K (.ref C) (.ref D) = some b) : PySem.W.exmOne K (.ref C) (.ref D) = some b := by
  have e1 : (PySem.W.subIn K (.ref D) (.type "BaseException") == some true) = true := by rw [h1]; rfl
  have e2 : ((PySem.W.clsIn K D).isSome && PySem.W.typeIn K (.ref D) == some (.type "type")) = true := by
    have h2' : (PySem.W.clsIn K D).isSome = true := h2
    rw [h2', h3]
    rfl
  show (if (PySem.W.subIn K (.ref D) (.type "BaseException") == some true) = true then (if ((PySem.W.clsIn K D).isSome && PySem.W.typeIn K (.ref D) == some (.type "type")) = true then PySem.W.subIn K (.ref C) (.ref D) else none) else none) = some b
  rw [if_pos e1, if_pos e2]
  exact h4
theorem fnG_stuck {P : Program} {w : World} {K : PySem.W.Frag} {mg : Str → Option Value} {base : Heap} {k n : Nat} {f : Addr} {fd : FuncData} {ps : List Str} {io : List Nat} (hn : ps.length = n) : FnG P w K mg base k f fd ps (spW K mg n io fun _ => .stuck) :=
  ⟨fun vs H Q E h => h.1.trans hn.symm, fun _ _ _ _ _ _ _ _ _ _ _ _ _ _ h => by
    obtain ⟨_, C, F, ws, _, _, p⟩ := h
    exact p.elim⟩
end VL
namespace VL
open PySem PySem.Spec PyProof.Rows L2
/-! ### loops, in plain Lean -/
theorem loop_inv {g : PyData → VL.Env → Option VL.Env} {b : VL.Env → RS} (I : List PyData → VL.Env → Prop) (Rt : W → VL.Env → Prop)
    (step : ∀ d ds ρ, I (d :: ds) ρ → ∃ ρ1, g d ρ = some ρ1 ∧ ((∃ ρ2, b ρ1 = .nx ρ2 ∧ I ds ρ2) ∨ ∃ w ρ2, b ρ1 = .rt w ρ2 ∧ Rt w ρ2)) :
    ∀ ds ρ, I ds ρ → (∃ ρ', loopS g b ds ρ = .nx ρ' ∧ I [] ρ') ∨ ∃ w ρ', loopS g b ds ρ = .rt w ρ' ∧ Rt w ρ'
  | [], ρ, h => .inl ⟨ρ, rfl, h⟩
  | d :: ds, ρ, h => by
    obtain ⟨ρ1, e1, h1⟩ := step d ds ρ h
    unfold loopS
    rw [e1]
    rcases h1 with ⟨ρ2, e2, h2⟩ | ⟨w, ρ2, e2, h2⟩
    · simp only [e2, RS.seq]
      exact loop_inv I Rt step ds ρ2 h2
    · simp only [e2, RS.seq]
      exact .inr ⟨w, ρ2, rfl, h2⟩
/-- .. where nothing is returned from within -/
theorem loop_nx {g : PyData → VL.Env → Option VL.Env} {b : VL.Env → RS} (I : List PyData → VL.Env → Prop) (step : ∀ d ds ρ, I (d :: ds) ρ → ∃ ρ1, g d ρ = some ρ1 ∧ ∃ ρ2, b ρ1 = .nx ρ2 ∧ I ds ρ2) (ds : List PyData) (ρ : VL.Env) (h : I ds ρ) : ∃ ρ', loopS g b ds ρ = .nx ρ' ∧ I [] ρ' := by
  rcases loop_inv I (fun _ _ => False) (fun d ds ρ h => by obtain ⟨ρ1, e, ρ2, h1, h2⟩ := step d ds ρ h; exact ⟨ρ1, e, .inl ⟨ρ2, h1, h2⟩⟩) ds ρ h with h | ⟨_, _, _, z⟩
  · exact h
  · exact z.elim
theorem while_inv {t : VL.Env → R Bool} {b : VL.Env → RS} (I : Nat → VL.Env → Prop) (Q : VL.Env → Prop)
    (step : ∀ n ρ, I n ρ → (∃ ρ1, t ρ = .ok false ρ1 ∧ Q ρ1) ∨ ∃ ρ1 ρ2 m, t ρ = .ok true ρ1 ∧ b ρ1 = .nx ρ2 ∧ m < n ∧ I m ρ2) : ∀ n ρ, I n ρ → ∃ ρ', whileS t b ρ = .nx ρ' ∧ Q ρ' := by
  have main : ∀ n ρ, I n ρ → ∃ ρ', whileN t b (n + 1) ρ = .nx ρ' ∧ Q ρ' := by
    intro n
    induction n using Nat.strongRecOn with
    | ind n ih =>
      intro ρ h
      rcases step n ρ h with ⟨ρ1, e, q⟩ | ⟨ρ1, ρ2, m, e1, e2, hm, h2⟩
      · exact ⟨ρ1, by unfold whileN; simp only [e, R.toS, Bool.false_eq_true, if_false], q⟩
      · obtain ⟨ρ', e3, q⟩ := ih m hm ρ2 h2
        refine ⟨ρ', ?_, q⟩
        unfold whileN
        simp only [e1, R.toS, if_true, e2, RS.seq]
        have : whileN t b n ρ2 = whileN t b (m + 1) ρ2 := whileN_le (by rw [e3]; exact fun z => nomatch z) (by omega)
        rw [this, e3]
  intro n ρ h
  obtain ⟨ρ', e, q⟩ := main n ρ h
  exact ⟨ρ', by rw [whileS_eq (n := n + 1) (by rw [e]; exact fun z => nomatch z), e], q⟩
/-- a comprehension's loop: I of what is left and what has come -/
theorem lc_inv {vs : List Nat} {g : PyData → VL.Env → Option VL.Env} {tt : VL.Env → R Bool} {fe : VL.Env → R W} (I : List PyData → List PyData → VL.Env → Prop)
    (step : ∀ d ds acc ρ, I (d :: ds) acc ρ → ∃ ρa, g d ρ = some ρa ∧ ((∃ ρb, tt ρa = .ok false ρb ∧ I ds acc (wipeE ρb vs)) ∨ ∃ ρb ρc d', tt ρa = .ok true ρb ∧ frzE fe ρb = .ok (.c d') ρc ∧ I ds (acc ++ [d']) (wipeE ρc vs))) :
    ∀ ds acc ρ, I ds acc ρ → ∃ r ρ', lcLoop vs g tt fe ds ρ = .ok r ρ' ∧ I [] (acc ++ r) ρ'
  | [], acc, ρ, h => ⟨[], ρ, rfl, by simpa using h⟩
  | d :: ds, acc, ρ, h => by
    obtain ⟨ρa, e1, h1⟩ := step d ds acc ρ h
    unfold lcLoop
    rw [e1]
    rcases h1 with ⟨ρb, e2, h2⟩ | ⟨ρb, ρc, d', e2, e3, h2⟩
    · obtain ⟨r, ρ', e4, h4⟩ := lc_inv I step ds acc _ h2
      exact ⟨r, ρ', by simp only [e2, noX, R.bind, Bool.false_eq_true, if_false, e4], h4⟩
    · obtain ⟨r, ρ', e4, h4⟩ := lc_inv I step ds (acc ++ [d']) _ h2
      exact ⟨d' :: r, ρ', by simp only [e2, e3, noX, R.bind, if_true, e4], by simpa using h4⟩
/-! ### data that may be shown and compared -/
structure Fine (n : Nat) (d : PyData) : Prop where
  show_ : d.showable = true
  lay : d.canLay0 = true
  dep : d.depth ≤ 40
  leaf : d.leavesShort 2000 = true
  bulk : d.bulk ≤ n
structure FineAll (n : Nat) (ds : List PyData) : Prop where
  show_ : PyData.showableAll ds = true
  lay : PyData.canLayAll0 ds = true
  dep : PyData.depthAll ds ≤ 39
  leaf : PyData.leavesShortAll 2000 ds = true
  bulk : PyData.bulkAll ds ≤ n
theorem Fine.shaped {n : Nat} {d : PyData} (h : Fine n d) : SeqAt.shaped d = true := by
  unfold SeqAt.shaped
  rw [h.lay, Bool.true_and, decide_eq_true_eq]
  have := h.dep
  omega
mutual
theorem nodict_lay : ∀ d : PyData, d.canLay0 = true → d.hasDict = false
  | .none, _ => rfl
  | .bool _, _ => rfl
  | .int _, _ => rfl
  | .str _, _ => rfl
  | .list xs, h => nodict_layAll xs h
  | .tuple xs, h => nodict_layAll xs h
  | .dict _, h => by cases h
theorem nodict_layAll : ∀ ds : List PyData, PyData.canLayAll0 ds = true → PyData.hasDictAll ds = false
  | [], _ => rfl
  | d :: r, h => by
    simp only [PyData.canLayAll0, Bool.and_eq_true] at h
    simp only [PyData.hasDictAll, nodict_lay d h.1, nodict_layAll r h.2, Bool.or_self]
end
theorem Fine.showOk {n : Nat} {d : PyData} (h : Fine n d) (hn : n ≤ 8000) : showOk d = true := by
  unfold VL.showOk
  have h1 := PyData.shown_le_bulk 2000 (by decide) d h.leaf
  have h2 := h.dep
  have h3 := h.bulk
  rw [h.show_, nodict_lay d h.lay]
  have h4 : d.shown.length ≤ sizeLine := by
    rw [sizeLine_eq]
    have : (2000 + 2) * d.bulk ≤ 2002 * 8000 := Nat.mul_le_mul_left _ (by omega)
    omega
  simp only [Bool.not_false, Bool.true_or, Bool.true_and, Bool.and_eq_true, decide_eq_true_eq]
  exact ⟨by omega, h4⟩
theorem Fine.mono {n m : Nat} {d : PyData} (h : Fine n d) (l : n ≤ m) : Fine m d := ⟨h.show_, h.lay, h.dep, h.leaf, Nat.le_trans h.bulk l⟩
theorem fineAll_nil : FineAll 0 [] := ⟨rfl, rfl, by decide, rfl, Nat.le_refl _⟩
theorem fineAll_cons {n m : Nat} {d : PyData} {ds : List PyData} (h : Fine n d) (hd : d.depth ≤ 39) (t : FineAll m ds) : FineAll (n + 1 + m) (d :: ds) := by
  refine ⟨?_, ?_, ?_, ?_, ?_⟩
  · simp only [PyData.showableAll, h.show_, t.show_, Bool.and_self]
  · simp only [PyData.canLayAll0, h.lay, t.lay, Bool.and_self]
  · simp only [PyData.depthAll]
    have := t.dep
    omega
  · simp only [PyData.leavesShortAll, h.leaf, t.leaf, Bool.and_self]
  · simp only [PyData.bulkAll]
    have := h.bulk
    have := t.bulk
    omega
theorem FineAll.list {n : Nat} {ds : List PyData} (h : FineAll n ds) : Fine n (.list ds) := ⟨h.show_, h.lay, by simp only [PyData.depth]; have := h.dep; omega, h.leaf, h.bulk⟩
theorem FineAll.tuple {n : Nat} {ds : List PyData} (h : FineAll n ds) : Fine n (.tuple ds) := ⟨h.show_, h.lay, by simp only [PyData.depth]; have := h.dep; omega, h.leaf, h.bulk⟩
/-! ### what comes out, as a claim about it -/
def RtP (r : RS) (P : W → VL.Env → Prop) : Prop := match r with
  | .rt w ρ => P w ρ
  | _ => False
def NxP (r : RS) (P : VL.Env → Prop) : Prop := match r with
  | .nx ρ => P ρ
  | _ => False
def OkP {α : Type} (r : R α) (P : α → VL.Env → Prop) : Prop := match r with
  | .ok a ρ => P a ρ
  | _ => False
def RdP (r : RD) (P : W → List W → Prop) : Prop := match r with
  | .ok w us => P w us
  | _ => False
theorem RtP.out {r : RS} {P : W → VL.Env → Prop} (h : RtP r P) : ∃ w ρ, r = .rt w ρ ∧ P w ρ := by
  cases r with
  | rt w ρ => exact ⟨w, ρ, rfl, h⟩
  | _ => exact h.elim
theorem NxP.out {r : RS} {P : VL.Env → Prop} (h : NxP r P) : ∃ ρ, r = .nx ρ ∧ P ρ := by
  cases r with
  | nx ρ => exact ⟨ρ, rfl, h⟩
  | _ => exact h.elim
theorem OkP.out {α : Type} {r : R α} {P : α → VL.Env → Prop} (h : OkP r P) : ∃ a ρ, r = .ok a ρ ∧ P a ρ := by
  cases r with
  | ok a ρ => exact ⟨a, ρ, rfl, h⟩
  | _ => exact h.elim
theorem RdP.out {r : RD} {P : W → List W → Prop} (h : RdP r P) : ∃ w us, r = .ok w us ∧ P w us := by
  cases r with
  | ok w us => exact ⟨w, us, rfl, h⟩
  | _ => exact h.elim
end VL
namespace VL
open PySem PySem.Spec PyProof.Rows L2
/-! ### single steps, as equations -/
theorem ty_int_NoneType : isTy "int" "NoneType" = false := by decide
theorem ty_int_bool : isTy "int" "bool" = true := by decide
theorem ty_int_int : isTy "int" "int" = true := by decide
theorem ty_int_str : isTy "int" "str" = false := by decide
theorem ty_int_list : isTy "int" "list" = false := by decide
theorem ty_int_tuple : isTy "int" "tuple" = false := by decide
theorem ty_int_dict : isTy "int" "dict" = false := by decide
theorem ty_bool_NoneType : isTy "bool" "NoneType" = false := by decide
theorem ty_bool_bool : isTy "bool" "bool" = true := by decide
theorem ty_bool_int : isTy "bool" "int" = false := by decide
theorem ty_bool_str : isTy "bool" "str" = false := by decide
theorem ty_bool_list : isTy "bool" "list" = false := by decide
theorem ty_bool_tuple : isTy "bool" "tuple" = false := by decide
theorem ty_bool_dict : isTy "bool" "dict" = false := by decide
theorem ty_str_NoneType : isTy "str" "NoneType" = false := by decide
theorem ty_str_bool : isTy "str" "bool" = false := by decide
theorem ty_str_int : isTy "str" "int" = false := by decide
theorem ty_str_str : isTy "str" "str" = true := by decide
theorem ty_str_list : isTy "str" "list" = false := by decide
theorem ty_str_tuple : isTy "str" "tuple" = false := by decide
theorem ty_str_dict : isTy "str" "dict" = false := by decide
theorem ty_tuple_NoneType : isTy "tuple" "NoneType" = false := by decide
theorem ty_tuple_bool : isTy "tuple" "bool" = false := by decide
theorem ty_tuple_int : isTy "tuple" "int" = false := by decide
theorem ty_tuple_str : isTy "tuple" "str" = false := by decide
theorem ty_tuple_list : isTy "tuple" "list" = false := by decide
theorem ty_tuple_tuple : isTy "tuple" "tuple" = true := by decide
theorem ty_tuple_dict : isTy "tuple" "dict" = false := by decide
theorem ty_list_NoneType : isTy "list" "NoneType" = false := by decide
theorem ty_list_bool : isTy "list" "bool" = false := by decide
theorem ty_list_int : isTy "list" "int" = false := by decide
theorem ty_list_str : isTy "list" "str" = false := by decide
theorem ty_list_list : isTy "list" "list" = true := by decide
theorem ty_list_tuple : isTy "list" "tuple" = false := by decide
theorem ty_list_dict : isTy "list" "dict" = false := by decide
theorem ty_dict_NoneType : isTy "dict" "NoneType" = false := by decide
theorem ty_dict_bool : isTy "dict" "bool" = false := by decide
theorem ty_dict_int : isTy "dict" "int" = false := by decide
theorem ty_dict_str : isTy "dict" "str" = false := by decide
theorem ty_dict_list : isTy "dict" "list" = false := by decide
theorem ty_dict_tuple : isTy "dict" "tuple" = false := by decide
theorem ty_dict_dict : isTy "dict" "dict" = true := by decide
theorem sh_int (i : Int) : SeqAt.shaped (.int i) = true := rfl
theorem sh_none : SeqAt.shaped .none = true := rfl
theorem sh_bool (b : Bool) : SeqAt.shaped (.bool b) = true := rfl
theorem sh_str (x : Str) : SeqAt.shaped (.str x) = PyData.strOk x := by
  show (PyData.strOk x && decide (0 ≤ 64)) = PyData.strOk x
  simp
theorem eqi (i j : Int) : eqF2 (.c (.int i)) (.c (.int j)) = some (decide (i = j)) := by
  unfold eqF2
  simp only [fz, sh_int, Bool.and_self, if_true, PyData.eqv]
  by_cases h : i = j <;> simp [h]
theorem nei (i j : Int) : neF2 (.c (.int i)) (.c (.int j)) = some (!decide (i = j)) := by
  unfold neF2
  rw [eqi]
  rfl
theorem eqs (x y : Str) (hx : PyData.strOk x = true) (hy : PyData.strOk y = true) : eqF2 (.c (.str x)) (.c (.str y)) = some (x == y) := by
  unfold eqF2
  simp only [fz, sh_str, hx, hy, Bool.and_self, if_true, PyData.eqv]
theorem nes (x y : Str) (hx : PyData.strOk x = true) (hy : PyData.strOk y = true) : neF2 (.c (.str x)) (.c (.str y)) = some (!(x == y)) := by
  unfold neF2
  rw [eqs x y hx hy]
  rfl
theorem eqb (a b : Bool) : eqF2 (.c (.bool a)) (.c (.bool b)) = some (a == b) := by
  unfold eqF2
  simp only [fz, sh_bool, Bool.and_self, if_true, PyData.eqv]
theorem neb (a b : Bool) : neF2 (.c (.bool a)) (.c (.bool b)) = some (!(a == b)) := by
  unfold neF2
  rw [eqb]
  rfl
/-- an item at a written place -/
theorem at_nat {α : Type} (xs : List α) (i : Nat) : atI xs (i : Int) = xs[i]? := by
  unfold atI ixN
  by_cases h : (i : Int) < xs.length
  · rw [if_pos (by omega), if_pos h]
    simp
  · rw [if_pos (by omega), if_neg h]
    have : xs.length ≤ i := by omega
    simp [List.getElem?_eq_none this]
theorem at_0 {α : Type} (xs : List α) : atI xs 0 = xs[0]? := at_nat xs 0
theorem at_1 {α : Type} (xs : List α) : atI xs 1 = xs[1]? := at_nat xs 1
theorem at_2 {α : Type} (xs : List α) : atI xs 2 = xs[2]? := at_nat xs 2
theorem ss_pair {α : Type} {xs : List α} (h : xs.length = 2) : ∃ a b, xs = [a, b] := by
  match xs, h with
  | [a, b], _ => exact ⟨a, b, rfl⟩
theorem szl0 : (0 ≤ sizeLine) = True := eq_true (by rw [sizeLine_eq]; decide)
theorem szl1 : (1 ≤ sizeLine) = True := eq_true (by rw [sizeLine_eq]; decide)
theorem szl2 : (2 ≤ sizeLine) = True := eq_true (by rw [sizeLine_eq]; decide)
theorem szl3 : (3 ≤ sizeLine) = True := eq_true (by rw [sizeLine_eq]; decide)
theorem szl4 : (4 ≤ sizeLine) = True := eq_true (by rw [sizeLine_eq]; decide)
theorem szl5 : (5 ≤ sizeLine) = True := eq_true (by rw [sizeLine_eq]; decide)
theorem szl6 : (6 ≤ sizeLine) = True := eq_true (by rw [sizeLine_eq]; decide)
theorem szl7 : (7 ≤ sizeLine) = True := eq_true (by rw [sizeLine_eq]; decide)
theorem szl8 : (8 ≤ sizeLine) = True := eq_true (by rw [sizeLine_eq]; decide)
theorem szl9 : (9 ≤ sizeLine) = True := eq_true (by rw [sizeLine_eq]; decide)
theorem szl10 : (10 ≤ sizeLine) = True := eq_true (by rw [sizeLine_eq]; decide)
theorem szl11 : (11 ≤ sizeLine) = True := eq_true (by rw [sizeLine_eq]; decide)
theorem fz_colds : ∀ ds : List PyData, fzAll (ds.map W.c) = some ds
  | [] => rfl
  | d :: r => by
    rw [List.map_cons]
    unfold fzAll
    rw [fz_colds r]
    rfl
end VL
namespace VL
open PySem L2
/-! ### the combinators, applied -/
section
variable (ρ : VL.Env) (f g : VL.Env → R W) (t u : VL.Env → R Bool) (a b : VL.Env → RS) (i j : Nat) (os : List Opd) (w : W) (d : PyData)
theorem e_seqS : seqS a b ρ = (a ρ).seq b := rfl
theorem e_skipS : skipS ρ = .nx ρ := rfl
theorem e_asgS : asgS i f ρ = (f ρ).toS fun w ρ' => .nx (ρ'.set i (some w)) := rfl
theorem e_retS : retS f ρ = (f ρ).toS fun w ρ' => .rt w ρ' := rfl
theorem e_ifS : ifS t a b ρ = (t ρ).toS fun c ρ' => if c = true then a ρ' else b ρ' := rfl
theorem e_dropS : dropS f ρ = (f ρ).toS fun _ ρ' => .nx ρ' := rfl
theorem e_kc : kc d ρ = .ok (.c d) ρ := rfl
theorem e_var : var i ρ = (match ρ[i]? with
  | some (some (.c d)) => .ok (.c d) ρ
  | some (some w) => (match fz w with
    | some d => .ok (.c d) (ρ.set i (some (.c d)))
    | none => .stuck)
  | _ => .stuck) := rfl
theorem e_mov : mov i ρ = (match ρ[i]? with
  | some (some (.c d)) => .ok (.c d) ρ
  | some (some w) => .ok w (ρ.set i none)
  | _ => .stuck) := rfl
theorem e_prim (P : List W → Option W) : prim P os ρ = (evs os ρ).bind fun ts ρ' => match rds ρ' ts with
  | some ws => (match P ws with
    | some w => .ok w ρ'
    | none => .stuck)
  | none => .stuck := rfl
theorem e_tst : tst f ρ = (f ρ).bind fun w ρ' => match w with
  | .c (.bool b) => .ok b ρ'
  | _ => .stuck := rfl
theorem e_asW : asW t ρ = (t ρ).bind fun b ρ' => .ok (.c (.bool b)) ρ' := rfl
theorem e_andT : andT t u ρ = (t ρ).bind fun b ρ' => if b = true then u ρ' else .ok false ρ' := rfl
theorem e_orT : orT t u ρ = (t ρ).bind fun b ρ' => if b = true then .ok true ρ' else u ρ' := rfl
theorem e_notT : notT t ρ = (t ρ).bind fun b ρ' => .ok (!b) ρ' := rfl
theorem e_ifE : ifE t f g ρ = (t ρ).bind fun b ρ' => if b = true then f ρ' else g ρ' := rfl
theorem e_andE : andE f g ρ = (f ρ).bind fun w ρ' => match w with
  | .c (.bool true) => g ρ'
  | .c (.bool false) => .ok (.c (.bool false)) ρ'
  | _ => .stuck := rfl
theorem e_orE : orE f g ρ = (f ρ).bind fun w ρ' => match w with
  | .c (.bool false) => g ρ'
  | .c (.bool true) => .ok (.c (.bool true)) ρ'
  | _ => .stuck := rfl
theorem e_notE : notE f ρ = (f ρ).bind fun w ρ' => match w with
  | .c (.bool b) => .ok (.c (.bool !b)) ρ'
  | _ => .stuck := rfl
theorem e_frzE : frzE f ρ = (f ρ).bind fun w ρ' => match fz w with
  | some d => .ok (.c d) ρ'
  | none => .stuck := rfl
theorem e_intOf (k : Int → VL.Env → R Bool) : intOf f k ρ = (f ρ).bind fun w ρ' => match w with
  | .c (.int i) => k i ρ'
  | _ => .stuck := rfl
theorem e_chain2 (p q : Int → Int → Bool) (h : VL.Env → R W) : chain2 p q f g h ρ = intOf f (fun i => intOf g fun j ρ => if p i j = true then intOf h (fun k ρ => .ok (q j k) ρ) ρ else .ok false ρ) ρ := rfl
theorem e_yesT : yesT ρ = .ok true ρ := rfl
theorem e_callE (r : List W → RD) : callE r os ρ = (evs os ρ).bind fun ts ρ' => match takeTs ts ρ' with
  | some (ws, ρ2) => (match r ws with
    | .ok w us => (match backTs (refsOf ts) us ρ2 with
      | some ρ3 => .ok w ρ3
      | none => .stuck)
    | .exn e us => (match backTs (refsOf ts) us ρ2 with
      | some ρ3 => .exn e ρ3
      | none => .stuck)
    | .stuck => .stuck)
  | none => .stuck := rfl
theorem e_tgN : tgN i d ρ = some (ρ.set i (some (.c d))) := rfl
theorem e_walkE (k : List PyData → Option PyData) : walkE k f ρ = prim (P1 (walkF k)) [.val (frzE f)] ρ := rfl
theorem e_seqI : seqI f ρ = (frzE f ρ).bind fun w ρ' => match w with
  | .c d => (match itemsOf d with
    | some ds => .ok ds ρ'
    | none => .stuck)
  | _ => .stuck := rfl
theorem e_forS (fi : VL.Env → R (List PyData)) (k : PyData → VL.Env → Option VL.Env) : forS fi k b ρ = (fi ρ).toS fun ds ρ' => loopS k b ds ρ' := rfl
theorem e_rngI (P : List W → Option (List PyData)) : rngI P os ρ = (evs os ρ).bind fun ts ρ' => match rds ρ' ts with
  | some ws => (match P ws with
    | some ds => .ok ds ρ'
    | none => .stuck)
  | none => .stuck := rfl
theorem e_lcE (vs : List Nat) (fi : VL.Env → R (List PyData)) (k : PyData → VL.Env → Option VL.Env) : lcE vs fi k t f ρ = (fi ρ).bind fun ds ρ1 =>
  if (vs.all (coldAt ρ1)) = true ∧ ds.length ≤ sizeLine then (lcLoop vs k t f ds (wipeE ρ1 vs)).bind fun r ρ2 => .ok (.l (r.map .c)) (backE ρ1 ρ2 vs) else .stuck := rfl
theorem e_unpS (k : PyData → VL.Env → Option VL.Env) : unpS k f ρ = (frzE f ρ).toS fun w ρ' => match w with
  | .c d => (match k d ρ' with
    | some ρ2 => .nx ρ2
    | none => .stuck)
  | _ => .stuck := rfl
theorem e_mutE (M : W → List W → Option (W × W)) : mutE M i os ρ = (match ρ[i]? with
  | some (some (.l _)) => (evs os ρ).bind fun ts ρ' => match wsV ts with
    | some ws => (match ρ'[i]? with
      | some (some w) => (match M w ws with
        | some (w', u) => .ok u (ρ'.set i (some w'))
        | none => .stuck)
      | _ => .stuck)
    | none => .stuck
  | _ => .stuck) := rfl
theorem e_putS : putS i f g ρ = (f ρ).toS fun w ρ1 => match ρ1[i]? with
  | some (some _) => (g ρ1).toS fun k ρ2 => (match ρ2[i]? with
    | some (some w0) => (match setM w0 [k, w] with
      | some (w', _) => .nx (ρ2.set i (some w'))
      | none => .stuck)
    | _ => .stuck)
  | _ => .stuck := rfl
theorem e_par2S : par2S i j os ρ = (evs os ρ).toS fun ts ρ' => match ts with
  | [.v w, .v u] => .nx ((ρ'.set i (some w)).set j (some u))
  | _ => .stuck := rfl
theorem e_parS (is : List Nat) : parS is os ρ = (evs os ρ).toS fun ts ρ' => match wsV ts with
  | some ws => (match setsE is ws ρ' with
    | some ρ'' => .nx ρ''
    | none => .stuck)
  | none => .stuck := rfl
theorem e_intE : intE f ρ = (f ρ).bind fun w ρ' => match w with
  | .c (.int i) => .ok (.c (.int i)) ρ'
  | _ => .stuck := rfl
theorem e_putNew : putNew w ρ = .ok w ρ := rfl
theorem e_dispE : dispE os ρ = (evs os ρ).bind fun ts ρ' => match wsV ts with
  | some ws => (match pairW ws with
    | some kws => if (kws.map (·.1)).Nodup ∧ kws.length ≤ 15 then .ok (.dk kws) ρ' else .stuck
    | none => .stuck)
  | none => .stuck := rfl
theorem e_kwE (r : List W → RD) (π : List Nat) : kwE r π os ρ = (evs os ρ).bind fun ts ρ' => match wsV ts with
  | some ws => (match colds ws with
    | some ds => (match r (π.map fun i => .c (ds.getD i .none)) with
      | .ok w _ => .ok w ρ'
      | .exn e _ => .exn e ρ'
      | .stuck => .stuck)
    | none => .stuck)
  | none => .stuck := rfl
end
end VL
namespace VL
open PySem L2
/-! ### results followed up -/
section
variable {α β : Type} {ρ : VL.Env} {e : Exn} {a : α} {w : W}
theorem b_ok (k : α → VL.Env → R β) : (R.ok a ρ).bind k = k a ρ := rfl
theorem b_exn (k : α → VL.Env → R β) : (R.exn e ρ : R α).bind k = .exn e ρ := rfl
theorem b_no (k : α → VL.Env → R β) : (R.stuck : R α).bind k = .stuck := rfl
theorem t_ok (k : α → VL.Env → RS) : (R.ok a ρ).toS k = k a ρ := rfl
theorem t_exn (k : α → VL.Env → RS) : (R.exn e ρ : R α).toS k = .exn e ρ := rfl
theorem t_no (k : α → VL.Env → RS) : (R.stuck : R α).toS k = .stuck := rfl
theorem sq_nx (k : VL.Env → RS) : (RS.nx ρ).seq k = k ρ := rfl
theorem sq_rt (k : VL.Env → RS) : (RS.rt w ρ).seq k = .rt w ρ := rfl
theorem sq_exn (k : VL.Env → RS) : (RS.exn e ρ).seq k = .exn e ρ := rfl
theorem sq_no (k : VL.Env → RS) : RS.stuck.seq k = .stuck := rfl
theorem b_ite {c : Prop} [Decidable c] (x y : R α) (k : α → VL.Env → R β) : (if c then x else y).bind k = if c then x.bind k else y.bind k := by split <;> rfl
theorem t_ite {c : Prop} [Decidable c] (x y : R α) (k : α → VL.Env → RS) : (if c then x else y).toS k = if c then x.toS k else y.toS k := by split <;> rfl
theorem sq_ite {c : Prop} [Decidable c] (x y : RS) (k : VL.Env → RS) : (if c then x else y).seq k = if c then x.seq k else y.seq k := by split <;> rfl
end
/-- a def's result, from how its body ends -/
def finD (io : List Nat) (r : RS) : RD := match r with
  | .nx ρ => (match pickE io ρ with
    | some us => .ok (.c .none) us
    | none => .stuck)
  | .rt w ρ => (match pickE io ρ with
    | some us => .ok w us
    | none => .stuck)
  | .exn e ρ => (match pickE io ρ with
    | some us => .exn e us
    | none => .stuck)
  | .stuck => .stuck
theorem e_runD (n : Nat) (io : List Nat) (g : VL.Env → RS) (ws : List W) : runD n io g ws = finD io (g (ws.map some ++ List.replicate (n - ws.length) none)) := rfl
theorem fin_nx (io : List Nat) (ρ : VL.Env) : finD io (.nx ρ) = (match pickE io ρ with
    | some us => .ok (.c .none) us
    | none => .stuck) := rfl
theorem fin_rt (io : List Nat) (w : W) (ρ : VL.Env) : finD io (.rt w ρ) = (match pickE io ρ with
    | some us => .ok w us
    | none => .stuck) := rfl
theorem fin_exn (io : List Nat) (e : Exn) (ρ : VL.Env) : finD io (.exn e ρ) = (match pickE io ρ with
    | some us => .exn e us
    | none => .stuck) := rfl
theorem fin_ite {c : Prop} [Decidable c] (io : List Nat) (x y : RS) : finD io (if c then x else y) = if c then finD io x else finD io y := by split <;> rfl
end VL
namespace VL
open PySem L2
/-! ### evaluation by rules: each step an equation, nothing left to the kernel's own unfolding -/
def joinO {α : Type} (o : Option (Option α)) : Option α := match o with
  | some x => x
  | none => none
def consO {α : Type} (a : Option α) (as : Option (List α)) : Option (List α) := match a, as with
  | some x, some xs => some (x :: xs)
  | _, _ => none
def liftO {α : Type} (o : Option α) (ρ : VL.Env) : R α := match o with
  | some a => .ok a ρ
  | none => .stuck
def nxO (o : Option VL.Env) : RS := match o with
  | some ρ => .nx ρ
  | none => .stuck
def borK (o : Option (Option W)) (i : Nat) (os : List Opd) (ρ : VL.Env) : R (List AV) := match o with
  | some (some _) => (evs os ρ).bind fun ts ρ2 => .ok (.r i :: ts) ρ2
  | _ => .stuck
def feed {α : Type} (P : List W → Option α) (o : Option (List W)) (ρ : VL.Env) : R α := match o with
  | some ws => liftO (P ws) ρ
  | none => .stuck
def varK (o : Option (Option W)) (i : Nat) (ρ : VL.Env) : R W := match o with
  | some (some (.c d)) => .ok (.c d) ρ
  | some (some w) => (match fz w with
    | some d => .ok (.c d) (ρ.set i (some (.c d)))
    | none => .stuck)
  | _ => .stuck
def varF (o : Option PyData) (i : Nat) (ρ : VL.Env) : R W := match o with
  | some d => .ok (.c d) (ρ.set i (some (.c d)))
  | none => .stuck
def movK (o : Option (Option W)) (i : Nat) (ρ : VL.Env) : R W := match o with
  | some (some (.c d)) => .ok (.c d) ρ
  | some (some w) => .ok w (ρ.set i none)
  | _ => .stuck
def tstK (w : W) (ρ : VL.Env) : R Bool := match w with
  | .c (.bool b) => .ok b ρ
  | _ => .stuck
def andK (g : VL.Env → R W) (w : W) (ρ : VL.Env) : R W := match w with
  | .c (.bool true) => g ρ
  | .c (.bool false) => .ok (.c (.bool false)) ρ
  | _ => .stuck
def orK (g : VL.Env → R W) (w : W) (ρ : VL.Env) : R W := match w with
  | .c (.bool false) => g ρ
  | .c (.bool true) => .ok (.c (.bool true)) ρ
  | _ => .stuck
def notK (w : W) (ρ : VL.Env) : R W := match w with
  | .c (.bool b) => .ok (.c (.bool !b)) ρ
  | _ => .stuck
def frzK (o : Option PyData) (ρ : VL.Env) : R W := match o with
  | some d => .ok (.c d) ρ
  | none => .stuck
def intK (k : Int → VL.Env → R Bool) (w : W) (ρ : VL.Env) : R Bool := match w with
  | .c (.int i) => k i ρ
  | _ => .stuck
def intL (w : W) (ρ : VL.Env) : R W := match w with
  | .c (.int i) => .ok (.c (.int i)) ρ
  | _ => .stuck
def takeA (w : W) (o : Option (List W × VL.Env)) : Option (List W × VL.Env) := match o with
  | some (ws, ρ) => some (w :: ws, ρ)
  | none => none
def takeR (o : Option (Option W)) (i : Nat) (ts : List AV) (ρ : VL.Env) : Option (List W × VL.Env) := match o with
  | some (some w) => takeA w (takeTs ts (ρ.set i none))
  | _ => none
def callC (w : W) (o : Option VL.Env) : R W := match o with
  | some ρ => .ok w ρ
  | none => .stuck
def callX (e : Exn) (o : Option VL.Env) : R W := match o with
  | some ρ => .exn e ρ
  | none => .stuck
def callB (r : RD) (ts : List AV) (ρ : VL.Env) : R W := match r with
  | .ok w us => callC w (backTs (refsOf ts) us ρ)
  | .exn e us => callX e (backTs (refsOf ts) us ρ)
  | .stuck => .stuck
def callA (r : List W → RD) (ts : List AV) (o : Option (List W × VL.Env)) : R W := match o with
  | some (ws, ρ) => callB (r ws) ts ρ
  | none => .stuck
def kwC (r : RD) (ρ : VL.Env) : R W := match r with
  | .ok w _ => .ok w ρ
  | .exn e _ => .exn e ρ
  | .stuck => .stuck
def kwB (g : List W → RD) (π : List Nat) (o : Option (List PyData)) (ρ : VL.Env) : R W := match o with
  | some ds => kwC (g (π.map fun i => .c (ds.getD i .none))) ρ
  | none => .stuck
def kwA (g : List W → RD) (π : List Nat) (o : Option (List W)) (ρ : VL.Env) : R W := match o with
  | some ws => kwB g π (colds ws) ρ
  | none => .stuck
def seqK (w : W) (ρ : VL.Env) : R (List PyData) := match w with
  | .c d => liftO (itemsOf d) ρ
  | _ => .stuck
def lcK (vs : List Nat) (g : PyData → VL.Env → Option VL.Env) (tt : VL.Env → R Bool) (fe : VL.Env → R W) (ds : List PyData) (ρ : VL.Env) : R W :=
  if (vs.all (coldAt ρ)) = true ∧ ds.length ≤ sizeLine then (lcLoop vs g tt fe ds (wipeE ρ vs)).bind fun r ρ2 => .ok (.l (r.map .c)) (backE ρ ρ2 vs) else .stuck
def lcC (w : W) (k : PyData → R (List PyData)) : R (List PyData) := match w with
  | .c d => k d
  | _ => .stuck
def lcA (vs : List Nat) (g : PyData → VL.Env → Option VL.Env) (tt : VL.Env → R Bool) (fe : VL.Env → R W) (ds : List PyData) (o : Option VL.Env) : R (List PyData) := match o with
  | none => .stuck
  | some ρa => (noX (tt ρa)).bind fun b ρb => if b = true then (noX (frzE fe ρb)).bind fun w ρc => lcC w fun d' => (lcLoop vs g tt fe ds (wipeE ρc vs)).bind fun r ρ' => .ok (d' :: r) ρ'
      else lcLoop vs g tt fe ds (wipeE ρb vs)
def loopK (o : Option VL.Env) (k : VL.Env → RS) : RS := match o with
  | some ρ => k ρ
  | none => .stuck
def unpK (g : PyData → VL.Env → Option VL.Env) (w : W) (ρ : VL.Env) : RS := match w with
  | .c d => nxO (g d ρ)
  | _ => .stuck
def par2K (i j : Nat) (ts : List AV) (ρ : VL.Env) : RS := match ts with
  | [.v w, .v u] => .nx ((ρ.set i (some w)).set j (some u))
  | _ => .stuck
def parK (is : List Nat) (o : Option (List W)) (ρ : VL.Env) : RS := match o with
  | some ws => nxO (setsE is ws ρ)
  | none => .stuck
def dispB (o : Option (List (Key × W))) (ρ : VL.Env) : R W := match o with
  | some kws => if (kws.map (·.1)).Nodup ∧ kws.length ≤ 15 then .ok (.dk kws) ρ else .stuck
  | none => .stuck
def dispA (o : Option (List W)) (ρ : VL.Env) : R W := match o with
  | some ws => dispB (pairW ws) ρ
  | none => .stuck
def mutH (i : Nat) (o : Option (W × W)) (ρ : VL.Env) : R W := match o with
  | some (w', u) => .ok u (ρ.set i (some w'))
  | none => .stuck
def mutG (M : W → List W → Option (W × W)) (i : Nat) (ws : List W) (o : Option (Option W)) (ρ : VL.Env) : R W := match o with
  | some (some w) => mutH i (M w ws) ρ
  | _ => .stuck
def mutF (M : W → List W → Option (W × W)) (i : Nat) (o : Option (List W)) (ρ : VL.Env) : R W := match o with
  | some ws => mutG M i ws (ρ[i]?) ρ
  | none => .stuck
def mutK (M : W → List W → Option (W × W)) (i : Nat) (os : List Opd) (o : Option (Option W)) (ρ : VL.Env) : R W := match o with
  | some (some (.l _)) => (evs os ρ).bind fun ts ρ' => mutF M i (wsV ts) ρ'
  | _ => .stuck
def putC (i : Nat) (o : Option (W × W)) (ρ : VL.Env) : RS := match o with
  | some (w', _) => .nx (ρ.set i (some w'))
  | none => .stuck
def putB (i : Nat) (w k : W) (o : Option (Option W)) (ρ : VL.Env) : RS := match o with
  | some (some w0) => putC i (setM w0 [k, w]) ρ
  | _ => .stuck
def putA (i : Nat) (g : VL.Env → R W) (w : W) (o : Option (Option W)) (ρ : VL.Env) : RS := match o with
  | some (some _) => (g ρ).toS fun k ρ2 => putB i w k (ρ2[i]?) ρ2
  | _ => .stuck
def setL (o : Option Nat) (ws : List W) (w : W) : Option (W × W) := match o with
  | some j => some (.l (ws.set j w), .c .none)
  | none => none
def setK (o : Option Key) (kws : List (Key × W)) (d : PyData) : Option (W × W) := match o with
  | some key => if few kws.length = true then some (.dk (putW kws key (.c d)), .c .none) else none
  | none => none
def setT (o : Option (List Key)) (kws : List (List Key × W)) (d : PyData) : Option (W × W) := match o with
  | some key => if few kws.length = true then some (.dt (putW kws key (.c d)), .c .none) else none
  | none => none
def pickA (o : Option (Option W)) (us : Option (List W)) : Option (List W) := match o with
  | some (some w) => us.map (w :: ·)
  | _ => none
def finA (w : W) (o : Option (List W)) : RD := match o with
  | some us => .ok w us
  | none => .stuck
def tupK (o : Option (List PyData)) (n : Nat) : Option W := match o with
  | some ds => if n ≤ 1000 then some (.c (.tuple ds)) else none
  | none => none
def lstK (o : Option (List PyData)) (ws : List W) : Option W := match o with
  | some _ => if ws.length ≤ 1000 then some (.l ws) else none
  | none => none
def tgI (c : Prop) [Decidable c] (o : Option VL.Env) : Option VL.Env := if c then o else none
/-! what goes on behind a value, each by a name of its own: nothing is evaluated in it before the value is there -/
def evsL (w : W) (ts : List AV) (ρ : VL.Env) : R (List AV) := .ok (.v w :: ts) ρ
def evsR (i : Nat) (ts : List AV) (ρ : VL.Env) : R (List AV) := .ok (.r i :: ts) ρ
def evsK (os : List Opd) (w : W) (ρ : VL.Env) : R (List AV) := (evs os ρ).bind (evsL w)
def primK {α : Type} (P : List W → Option α) (ts : List AV) (ρ : VL.Env) : R α := feed P (rds ρ ts) ρ
def asK (b : Bool) (ρ : VL.Env) : R W := .ok (.c (.bool b)) ρ
def andC (u : VL.Env → R Bool) (b : Bool) (ρ : VL.Env) : R Bool := if b = true then u ρ else .ok false ρ
def orC (u : VL.Env → R Bool) (b : Bool) (ρ : VL.Env) : R Bool := if b = true then .ok true ρ else u ρ
def notC (b : Bool) (ρ : VL.Env) : R Bool := .ok (!b) ρ
def ifC (f g : VL.Env → R W) (b : Bool) (ρ : VL.Env) : R W := if b = true then f ρ else g ρ
def frzW (w : W) (ρ : VL.Env) : R W := frzK (fz w) ρ
def ch3 (q : Int → Int → Bool) (j : Int) (w : W) (ρ : VL.Env) : R Bool := match w with
  | .c (.int k) => .ok (q j k) ρ
  | _ => .stuck
def ch2 (p q : Int → Int → Bool) (h : VL.Env → R W) (i : Int) (w : W) (ρ : VL.Env) : R Bool := match w with
  | .c (.int j) => if p i j = true then (h ρ).bind (ch3 q j) else .ok false ρ
  | _ => .stuck
def ch1 (p q : Int → Int → Bool) (g h : VL.Env → R W) (w : W) (ρ : VL.Env) : R Bool := match w with
  | .c (.int i) => (g ρ).bind (ch2 p q h i)
  | _ => .stuck
def dh3 (q r : Int → Int → Bool) (h2 : VL.Env → R W) (j : Int) (w : W) (ρ : VL.Env) : R Bool := match w with
  | .c (.int k) => if q j k = true then (h2 ρ).bind (ch3 r k) else .ok false ρ
  | _ => .stuck
def dh2 (p q r : Int → Int → Bool) (h h2 : VL.Env → R W) (i : Int) (w : W) (ρ : VL.Env) : R Bool := match w with
  | .c (.int j) => if p i j = true then (h ρ).bind (dh3 q r h2 j) else .ok false ρ
  | _ => .stuck
def dh1 (p q r : Int → Int → Bool) (g h h2 : VL.Env → R W) (w : W) (ρ : VL.Env) : R Bool := match w with
  | .c (.int i) => (g ρ).bind (dh2 p q r h h2 i)
  | _ => .stuck
def callK (r : List W → RD) (ts : List AV) (ρ : VL.Env) : R W := callA r ts (takeTs ts ρ)
def kwK (r : List W → RD) (π : List Nat) (ts : List AV) (ρ : VL.Env) : R W := kwA r π (wsV ts) ρ
def lcB (ρ : VL.Env) (vs : List Nat) (r : List PyData) (ρ2 : VL.Env) : R W := .ok (.l (r.map .c)) (backE ρ ρ2 vs)
def lcS (d : PyData) (r : List PyData) (ρ : VL.Env) : R (List PyData) := .ok (d :: r) ρ
def lcF (vs : List Nat) (g : PyData → VL.Env → Option VL.Env) (tt : VL.Env → R Bool) (fe : VL.Env → R W) (ds : List PyData) (w : W) (ρ : VL.Env) : R (List PyData) := match w with
  | .c d => (lcLoop vs g tt fe ds (wipeE ρ vs)).bind (lcS d)
  | _ => .stuck
def lcT (vs : List Nat) (g : PyData → VL.Env → Option VL.Env) (tt : VL.Env → R Bool) (fe : VL.Env → R W) (ds : List PyData) (b : Bool) (ρ : VL.Env) : R (List PyData) :=
  if b = true then (noX (frzE fe ρ)).bind (lcF vs g tt fe ds) else lcLoop vs g tt fe ds (wipeE ρ vs)
def lpN (b l : VL.Env → RS) (ρ : VL.Env) : RS := (b ρ).seq l
def asgK (i : Nat) (w : W) (ρ : VL.Env) : RS := .nx (ρ.set i (some w))
def retK (w : W) (ρ : VL.Env) : RS := .rt w ρ
def ifK (a b : VL.Env → RS) (c : Bool) (ρ : VL.Env) : RS := if c = true then a ρ else b ρ
def dropK (_ : W) (ρ : VL.Env) : RS := .nx ρ
def parF (is : List Nat) (ts : List AV) (ρ : VL.Env) : RS := parK is (wsV ts) ρ
def dispF (ts : List AV) (ρ : VL.Env) : R W := dispA (wsV ts) ρ
def mutL (M : W → List W → Option (W × W)) (i : Nat) (ts : List AV) (ρ : VL.Env) : R W := mutF M i (wsV ts) ρ
def putD (i : Nat) (g : VL.Env → R W) (w : W) (ρ : VL.Env) : RS := putA i g w (ρ[i]?) ρ
def putE (i : Nat) (w k : W) (ρ : VL.Env) : RS := putB i w k (ρ[i]?) ρ
section
variable (ρ : VL.Env) (f g : VL.Env → R W) (t u : VL.Env → R Bool) (a b : VL.Env → RS) (i j : Nat) (os : List Opd) (w : W) (d : PyData) (ws : List W) (ds : List PyData) (ts : List AV)
theorem r_evs0 : evs [] ρ = .ok [] ρ := rfl
theorem r_evsv : evs (.val f :: os) ρ = (f ρ).bind (evsK os) := rfl
theorem r_evsK : evsK os w ρ = (evs os ρ).bind (evsL w) := rfl
theorem r_evsL : evsL w ts ρ = .ok (.v w :: ts) ρ := rfl
theorem r_evsR : evsR i ts ρ = .ok (.r i :: ts) ρ := rfl
theorem r_evsr : evs (.bor i :: os) ρ = borK (ρ[i]?) i os ρ := by
  unfold borK
  rfl
theorem r_bor : borK (some (some w)) i os ρ = (evs os ρ).bind (evsR i) := rfl
theorem r_rds0 : rds ρ [] = some [] := rfl
theorem r_rdsc (x : AV) : rds ρ (x :: ts) = consO (rd ρ x) (rds ρ ts) := by
  rw [rds]
  unfold consO
  generalize rd ρ x = A
  generalize rds ρ ts = B
  cases A <;> cases B <;> rfl
theorem r_cons {α : Type} (x : α) (xs : List α) : consO (some x) (some xs) = some (x :: xs) := rfl
theorem r_rdv : rd ρ (.v w) = some w := rfl
theorem r_rdr : rd ρ (.r i) = joinO (ρ[i]?) := by
  rw [rd]
  unfold joinO
  generalize ρ[i]? = A
  cases A <;> rfl
theorem r_join {α : Type} (o : Option α) : joinO (some o) = o := rfl
theorem r_lift {α : Type} (x : α) : liftO (some x) ρ = .ok x ρ := rfl
theorem r_nxO : nxO (some ρ) = .nx ρ := rfl
theorem r_primK {α : Type} (P : List W → Option α) : primK P ts ρ = feed P (rds ρ ts) ρ := rfl
theorem r_prim (P : List W → Option W) : prim P os ρ = (evs os ρ).bind (primK P) := by
  unfold prim
  congr 1
  funext ts ρ'
  unfold primK feed liftO
  generalize rds ρ' ts = A
  cases A with
  | none => rfl
  | some ws =>
    simp only []
    generalize P ws = B
    cases B <;> rfl
theorem r_feed {α : Type} (P : List W → Option α) : feed P (some ws) ρ = liftO (P ws) ρ := rfl
theorem r_p1 (F : W → Option W) : P1 F [w] = F w := rfl
theorem r_p2 (F : W → W → Option W) (v : W) : P2 F [w, v] = F w v := rfl
theorem r_pb (F : W → W → Option Bool) (v : W) : PB F [w, v] = (F w v).map fun k => .c (.bool k) := rfl
theorem r_kc : kc d ρ = .ok (.c d) ρ := rfl
theorem r_var : var i ρ = varK (ρ[i]?) i ρ := by
  unfold varK
  rfl
theorem r_varc : varK (some (some (.c d))) i ρ = .ok (.c d) ρ := rfl
theorem r_varl : varK (some (some (.l ws))) i ρ = varF (fz (.l ws)) i ρ := rfl
theorem r_vark (kws : List (Key × W)) : varK (some (some (.dk kws))) i ρ = varF (fz (.dk kws)) i ρ := rfl
theorem r_varF : varF (some d) i ρ = .ok (.c d) (ρ.set i (some (.c d))) := rfl
theorem r_mov : mov i ρ = movK (ρ[i]?) i ρ := by
  unfold movK
  rfl
theorem r_movc : movK (some (some (.c d))) i ρ = .ok (.c d) ρ := rfl
theorem r_movl : movK (some (some (.l ws))) i ρ = .ok (.l ws) (ρ.set i none) := rfl
theorem r_movk (kws : List (Key × W)) : movK (some (some (.dk kws))) i ρ = .ok (.dk kws) (ρ.set i none) := rfl
theorem r_movt (kws : List (List Key × W)) : movK (some (some (.dt kws))) i ρ = .ok (.dt kws) (ρ.set i none) := rfl
theorem r_movs (l : Bool) : movK (some (some (.ks l ds))) i ρ = .ok (.ks l ds) (ρ.set i none) := rfl
theorem r_tst : tst f ρ = (f ρ).bind tstK := rfl
theorem r_tstK (x : Bool) : tstK (.c (.bool x)) ρ = .ok x ρ := rfl
theorem r_asW : asW t ρ = (t ρ).bind asK := rfl
theorem r_asK (x : Bool) : asK x ρ = .ok (.c (.bool x)) ρ := rfl
theorem r_andT : andT t u ρ = (t ρ).bind (andC u) := rfl
theorem r_andC (x : Bool) : andC u x ρ = if x = true then u ρ else .ok false ρ := rfl
theorem r_orT : orT t u ρ = (t ρ).bind (orC u) := rfl
theorem r_orC (x : Bool) : orC u x ρ = if x = true then .ok true ρ else u ρ := rfl
theorem r_notT : notT t ρ = (t ρ).bind notC := rfl
theorem r_notC (x : Bool) : notC x ρ = .ok (!x) ρ := rfl
theorem r_ifE : ifE t f g ρ = (t ρ).bind (ifC f g) := rfl
theorem r_ifC (x : Bool) : ifC f g x ρ = if x = true then f ρ else g ρ := rfl
theorem r_andE : andE f g ρ = (f ρ).bind (andK g) := rfl
theorem r_andK1 : andK g (.c (.bool true)) ρ = g ρ := rfl
theorem r_andK0 : andK g (.c (.bool false)) ρ = .ok (.c (.bool false)) ρ := rfl
theorem r_orE : orE f g ρ = (f ρ).bind (orK g) := rfl
theorem r_orK0 : orK g (.c (.bool false)) ρ = g ρ := rfl
theorem r_orK1 : orK g (.c (.bool true)) ρ = .ok (.c (.bool true)) ρ := rfl
theorem r_notE : notE f ρ = (f ρ).bind notK := rfl
theorem r_notK (x : Bool) : notK (.c (.bool x)) ρ = .ok (.c (.bool !x)) ρ := rfl
theorem r_frzE : frzE f ρ = (f ρ).bind frzW := rfl
theorem r_frzW : frzW w ρ = frzK (fz w) ρ := rfl
theorem r_frzK : frzK (some d) ρ = .ok (.c d) ρ := rfl
theorem r_intOf (k : Int → VL.Env → R Bool) : intOf f k ρ = (f ρ).bind (intK k) := rfl
theorem r_intK (k : Int → VL.Env → R Bool) (n : Int) : intK k (.c (.int n)) ρ = k n ρ := rfl
theorem r_intE : intE f ρ = (f ρ).bind intL := rfl
theorem r_intL (n : Int) : intL (.c (.int n)) ρ = .ok (.c (.int n)) ρ := rfl
theorem r_chain2 (p q : Int → Int → Bool) (h : VL.Env → R W) : chain2 p q f g h ρ = (f ρ).bind (ch1 p q g h) := rfl
theorem r_ch1 (p q : Int → Int → Bool) (h : VL.Env → R W) (m : Int) : ch1 p q g h (.c (.int m)) ρ = (g ρ).bind (ch2 p q h m) := rfl
theorem r_ch2 (p q : Int → Int → Bool) (h : VL.Env → R W) (l m : Int) : ch2 p q h l (.c (.int m)) ρ = if p l m = true then (h ρ).bind (ch3 q m) else .ok false ρ := rfl
theorem r_ch3 (q : Int → Int → Bool) (l m : Int) : ch3 q l (.c (.int m)) ρ = .ok (q l m) ρ := rfl
theorem r_chain3 (p q r : Int → Int → Bool) (h h2 : VL.Env → R W) : chain3 p q r f g h h2 ρ = (f ρ).bind (dh1 p q r g h h2) := rfl
theorem r_dh1 (p q r : Int → Int → Bool) (h h2 : VL.Env → R W) (m : Int) : dh1 p q r g h h2 (.c (.int m)) ρ = (g ρ).bind (dh2 p q r h h2 m) := rfl
theorem r_dh2 (p q r : Int → Int → Bool) (h h2 : VL.Env → R W) (l m : Int) : dh2 p q r h h2 l (.c (.int m)) ρ = if p l m = true then (h ρ).bind (dh3 q r h2 m) else .ok false ρ := rfl
theorem r_dh3 (q r : Int → Int → Bool) (h2 : VL.Env → R W) (l m : Int) : dh3 q r h2 l (.c (.int m)) ρ = if q l m = true then (h2 ρ).bind (ch3 r m) else .ok false ρ := rfl
theorem r_yes : yesT ρ = .ok true ρ := rfl
theorem r_take0 : takeTs [] ρ = some ([], ρ) := rfl
theorem r_takev : takeTs (.v w :: ts) ρ = takeA w (takeTs ts ρ) := by
  unfold takeA
  rfl
theorem r_taker : takeTs (.r i :: ts) ρ = takeR (ρ[i]?) i ts ρ := by
  unfold takeR takeA
  rfl
theorem r_takeA : takeA w (some (ws, ρ)) = some (w :: ws, ρ) := rfl
theorem r_takeR (v : W) : takeR (some (some v)) i ts ρ = takeA v (takeTs ts (ρ.set i none)) := rfl
theorem r_ref0 : refsOf [] = [] := rfl
theorem r_refv : refsOf (.v w :: ts) = refsOf ts := rfl
theorem r_refr : refsOf (.r i :: ts) = i :: refsOf ts := rfl
theorem r_back0 : backTs [] [] ρ = some ρ := rfl
theorem r_backc (is : List Nat) : backTs (i :: is) (w :: ws) ρ = backTs is ws (ρ.set i (some w)) := rfl
theorem r_call (r : List W → RD) : callE r os ρ = (evs os ρ).bind (callK r) := by
  unfold callE
  congr 1
theorem r_callK (r : List W → RD) : callK r ts ρ = callA r ts (takeTs ts ρ) := rfl
theorem r_callA (r : List W → RD) : callA r ts (some (ws, ρ)) = callB (r ws) ts ρ := rfl
theorem r_callB : callB (.ok w ws) ts ρ = callC w (backTs (refsOf ts) ws ρ) := rfl
theorem r_callBx (e : Exn) : callB (.exn e ws) ts ρ = callX e (backTs (refsOf ts) ws ρ) := rfl
theorem r_callC : callC w (some ρ) = .ok w ρ := rfl
theorem r_callX (e : Exn) : callX e (some ρ) = .exn e ρ := rfl
theorem r_kwE (r : List W → RD) (π : List Nat) : kwE r π os ρ = (evs os ρ).bind (kwK r π) := rfl
theorem r_kwK (r : List W → RD) (π : List Nat) : kwK r π ts ρ = kwA r π (wsV ts) ρ := rfl
theorem r_kwA (r : List W → RD) (π : List Nat) : kwA r π (some ws) ρ = kwB r π (colds ws) ρ := rfl
theorem r_kwB (r : List W → RD) (π : List Nat) : kwB r π (some ds) ρ = kwC (r (π.map fun i => .c (ds.getD i .none))) ρ := rfl
theorem r_kwC : kwC (.ok w ws) ρ = .ok w ρ := rfl
theorem r_kwCx (e : Exn) : kwC (.exn e ws) ρ = .exn e ρ := rfl
theorem r_wsv0 : wsV [] = some [] := rfl
theorem r_wsvc : wsV (.v w :: ts) = (wsV ts).map (w :: ·) := rfl
theorem r_seqI : seqI f ρ = (frzE f ρ).bind seqK := by
  unfold seqI
  congr 1
  funext w ρ'
  unfold seqK liftO
  cases w with
  | c d =>
    simp only []
    generalize itemsOf d = B
    cases B <;> rfl
  | _ => rfl
theorem r_seqK : seqK (.c d) ρ = liftO (itemsOf d) ρ := rfl
theorem r_itl : itemsOf (.list ds) = some ds := rfl
theorem r_itt : itemsOf (.tuple ds) = some ds := rfl
theorem r_rngI (P : List W → Option (List PyData)) : rngI P os ρ = (evs os ρ).bind (primK P) := by
  unfold rngI
  congr 1
  funext ts ρ'
  unfold primK feed liftO
  generalize rds ρ' ts = A
  cases A with
  | none => rfl
  | some ws =>
    simp only []
    generalize P ws = B
    cases B <;> rfl
theorem r_lcE (vs : List Nat) (fi : VL.Env → R (List PyData)) (k : PyData → VL.Env → Option VL.Env) : lcE vs fi k t f ρ = (fi ρ).bind (lcK vs k t f) := rfl
theorem r_lcK (vs : List Nat) (k : PyData → VL.Env → Option VL.Env) (h1 : (vs.all (coldAt ρ)) = true) (h2 : ds.length ≤ sizeLine) : lcK vs k t f ds ρ = (lcLoop vs k t f ds (wipeE ρ vs)).bind (lcB ρ vs) := if_pos ⟨h1, h2⟩
theorem r_lcB (vs : List Nat) (ρ2 : VL.Env) : lcB ρ vs ds ρ2 = .ok (.l (ds.map .c)) (backE ρ ρ2 vs) := rfl
theorem r_lc0 (vs : List Nat) (k : PyData → VL.Env → Option VL.Env) : lcLoop vs k t f [] ρ = .ok [] ρ := rfl
theorem r_lcc (vs : List Nat) (k : PyData → VL.Env → Option VL.Env) : lcLoop vs k t f (d :: ds) ρ = lcA vs k t f ds (k d ρ) := by
  unfold lcA lcC
  rfl
theorem r_lcA (vs : List Nat) (k : PyData → VL.Env → Option VL.Env) : lcA vs k t f ds (some ρ) = (noX (t ρ)).bind (lcT vs k t f ds) := rfl
theorem r_lcT (vs : List Nat) (k : PyData → VL.Env → Option VL.Env) (x : Bool) : lcT vs k t f ds x ρ = if x = true then (noX (frzE f ρ)).bind (lcF vs k t f ds) else lcLoop vs k t f ds (wipeE ρ vs) := rfl
theorem r_lcF (vs : List Nat) (k : PyData → VL.Env → Option VL.Env) : lcF vs k t f ds (.c d) ρ = (lcLoop vs k t f ds (wipeE ρ vs)).bind (lcS d) := rfl
theorem r_lcS : lcS d ds ρ = .ok (d :: ds) ρ := rfl
theorem r_noX {α : Type} (x : α) : noX (.ok x ρ) = .ok x ρ := rfl
theorem r_wipe0 : wipeE ρ [] = ρ := rfl
theorem r_wipec (is : List Nat) : wipeE ρ (i :: is) = (wipeE ρ is).set i none := rfl
def coldO (o : Option (Option W)) : Bool := match o with
  | some (some (.c _)) => true
  | some none => true
  | _ => false
theorem r_cold : coldAt ρ i = coldO (ρ[i]?) := by
  unfold coldO
  rfl
theorem r_cold0 : coldO (some none) = true := rfl
theorem r_coldc : coldO (some (some (.c d))) = true := rfl
theorem r_bk0 (ρ2 : VL.Env) : backE ρ ρ2 [] = ρ2 := rfl
theorem r_bkc (ρ2 : VL.Env) (is : List Nat) : backE ρ ρ2 (i :: is) = (backE ρ ρ2 is).set i (joinO (ρ[i]?)) := by
  unfold joinO
  rw [backE]
  generalize ρ[i]? = A
  cases A <;> rfl
theorem r_walkE (k : List PyData → Option PyData) : walkE k f ρ = prim (P1 (walkF k)) [.val (frzE f)] ρ := rfl
theorem r_walkF (k : List PyData → Option PyData) : walkF k w = (srcW w).bind fun ds => (k ds).map .c := rfl
theorem r_srcl : srcW (.c (.list ds)) = some ds := rfl
theorem r_srct : srcW (.c (.tuple ds)) = some ds := rfl
theorem r_srck (l : Bool) : srcW (.ks l ds) = some ds := rfl
theorem r_en1 : en1 [w] = (srcW w).map enD := rfl
theorem r_forS (fi : VL.Env → R (List PyData)) (k : PyData → VL.Env → Option VL.Env) : forS fi k b ρ = (fi ρ).toS (loopS k b) := rfl
theorem r_lp0 (k : PyData → VL.Env → Option VL.Env) : loopS k b [] ρ = .nx ρ := rfl
theorem r_lpc (k : PyData → VL.Env → Option VL.Env) : loopS k b (d :: ds) ρ = loopK (k d ρ) (lpN b (loopS k b ds)) := rfl
theorem r_lpN (l : VL.Env → RS) : lpN b l ρ = (b ρ).seq l := rfl
theorem r_loopK (k : VL.Env → RS) : loopK (some ρ) k = k ρ := rfl
theorem r_unpS (k : PyData → VL.Env → Option VL.Env) : unpS k f ρ = (frzE f ρ).toS (unpK k) := rfl
theorem r_unpK (k : PyData → VL.Env → Option VL.Env) : unpK k (.c d) ρ = nxO (k d ρ) := rfl
theorem r_tgN : tgN i d ρ = some (ρ.set i (some (.c d))) := rfl
theorem r_tgT (n : Nat) (gs : List PyData → VL.Env → Option VL.Env) : tgT n gs (.tuple ds) ρ = if ds.length = n then gs ds ρ else none := rfl
theorem r_tgTl (n : Nat) (gs : List PyData → VL.Env → Option VL.Env) : tgT n gs (.list ds) ρ = if ds.length = n then gs ds ρ else none := rfl
theorem r_tgsN : tgsN [] ρ = some ρ := rfl
theorem r_tgsC (k : PyData → VL.Env → Option VL.Env) (gs : List PyData → VL.Env → Option VL.Env) : tgsC k gs (d :: ds) ρ = (k d ρ).bind (gs ds) := rfl
theorem r_asgS : asgS i f ρ = (f ρ).toS (asgK i) := rfl
theorem r_asgK : asgK i w ρ = .nx (ρ.set i (some w)) := rfl
theorem r_retS : retS f ρ = (f ρ).toS retK := rfl
theorem r_retK : retK w ρ = .rt w ρ := rfl
theorem r_ifS : ifS t a b ρ = (t ρ).toS (ifK a b) := rfl
theorem r_ifK (x : Bool) : ifK a b x ρ = if x = true then a ρ else b ρ := rfl
theorem r_dropS : dropS f ρ = (f ρ).toS dropK := rfl
theorem r_dropK : dropK w ρ = .nx ρ := rfl
theorem r_seqS : seqS a b ρ = (a ρ).seq b := rfl
theorem r_skipS : skipS ρ = .nx ρ := rfl
theorem r_par2 : par2S i j os ρ = (evs os ρ).toS (par2K i j) := rfl
theorem r_par2K (v : W) : par2K i j [.v w, .v v] ρ = .nx ((ρ.set i (some w)).set j (some v)) := rfl
theorem r_parS (is : List Nat) : parS is os ρ = (evs os ρ).toS (parF is) := rfl
theorem r_parF (is : List Nat) : parF is ts ρ = parK is (wsV ts) ρ := rfl
theorem r_parK (is : List Nat) : parK is (some ws) ρ = nxO (setsE is ws ρ) := rfl
theorem r_sets0 : setsE [] [] ρ = some ρ := rfl
theorem r_setsc (is : List Nat) : setsE (i :: is) (w :: ws) ρ = setsE is ws (ρ.set i (some w)) := rfl
theorem r_putNew : putNew w ρ = .ok w ρ := rfl
theorem r_disp : dispE os ρ = (evs os ρ).bind dispF := rfl
theorem r_dispF : dispF ts ρ = dispA (wsV ts) ρ := rfl
theorem r_dispA : dispA (some ws) ρ = dispB (pairW ws) ρ := rfl
theorem r_dispB (kws : List (Key × W)) (h1 : (kws.map (·.1)).Nodup) (h2 : kws.length ≤ 15) : dispB (some kws) ρ = .ok (.dk kws) ρ := if_pos ⟨h1, h2⟩
theorem r_flat0 : flatO [] = [] := rfl
theorem r_flatc (r : List ((VL.Env → R W) × (VL.Env → R W))) : flatO ((f, g) :: r) = .val f :: .val g :: flatO r := rfl
theorem r_mutE (M : W → List W → Option (W × W)) : mutE M i os ρ = mutK M i os (ρ[i]?) ρ := by
  unfold mutK mutF mutG mutH
  rfl
theorem r_mutK (M : W → List W → Option (W × W)) : mutK M i os (some (some (.l ws))) ρ = (evs os ρ).bind (mutL M i) := rfl
theorem r_mutL (M : W → List W → Option (W × W)) : mutL M i ts ρ = mutF M i (wsV ts) ρ := rfl
theorem r_mutF (M : W → List W → Option (W × W)) : mutF M i (some ws) ρ = mutG M i ws (ρ[i]?) ρ := rfl
theorem r_mutG (M : W → List W → Option (W × W)) : mutG M i ws (some (some w)) ρ = mutH i (M w ws) ρ := rfl
theorem r_mutH (v : W) : mutH i (some (w, v)) ρ = .ok v (ρ.set i (some w)) := rfl
theorem r_app : appM (.l ws) [w] = if few ws.length = true then some (.l (ws ++ [w]), .c .none) else none := rfl
theorem r_ext (us : List W) : extM (.l ws) [.l us] = if few ws.length = true ∧ few us.length = true then some (.l (ws ++ us), .c .none) else none := rfl
theorem r_extc : extM (.l ws) [.c (.list ds)] = if few ws.length = true ∧ few ds.length = true then some (.l (ws ++ ds.map .c), .c .none) else none := rfl
def popK (o : Option W) (ws : List W) : Option (W × W) := match o with
  | some w => some (.l ws.dropLast, w)
  | none => none
theorem r_pop : popM (.l ws) [] = popK (ws[ws.length - 1]?) ws := by
  unfold popK
  rfl
theorem r_popK : popK (some w) ws = some (.l ws.dropLast, w) := rfl
theorem r_putS : putS i f g ρ = (f ρ).toS (putD i g) := rfl
theorem r_putD : putD i g w ρ = putA i g w (ρ[i]?) ρ := rfl
theorem r_putA (v : W) : putA i g w (some (some v)) ρ = (g ρ).toS (putE i w) := rfl
theorem r_putE (k : W) : putE i w k ρ = putB i w k (ρ[i]?) ρ := rfl
theorem r_putB (k v : W) : putB i w k (some (some v)) ρ = putC i (setM v [k, w]) ρ := rfl
theorem r_putC (v : W) : putC i (some (w, v)) ρ = .nx (ρ.set i (some w)) := rfl
theorem r_setl (n : Int) : setM (.l ws) [.c (.int n), w] = setL (ixN ws.length n) ws w := by
  unfold setL
  rfl
theorem r_setL : setL (some j) ws w = some (.l (ws.set j w), .c .none) := rfl
theorem r_setk (kws : List (Key × W)) (k : PyData) : setM (.dk kws) [.c k, .c d] = setK (keyOf k) kws d := by
  unfold setK
  rfl
theorem r_setK (kws : List (Key × W)) (k : Key) (h : kws.length ≤ 1000) : setK (some k) kws d = some (.dk (putW kws k (.c d)), .c .none) := if_pos (decide_eq_true h)
theorem r_sett (kws : List (List Key × W)) (k : PyData) : setM (.dt kws) [.c k, .c d] = setT (tkeyOf k) kws d := by
  unfold setT
  rfl
theorem r_setT (kws : List (List Key × W)) (k : List Key) (h : kws.length ≤ 1000) : setT (some k) kws d = some (.dt (putW kws k (.c d)), .c .none) := if_pos (decide_eq_true h)
theorem r_runD (n : Nat) (io : List Nat) : runD n io a ws = finD io (a (ws.map some ++ List.replicate (n - ws.length) none)) := rfl
theorem r_finn (io : List Nat) : finD io (.nx ρ) = finA (.c .none) (pickE io ρ) := by
  unfold finA
  rfl
theorem r_finr (io : List Nat) : finD io (.rt w ρ) = finA w (pickE io ρ) := by
  unfold finA
  rfl
theorem r_finA : finA w (some ws) = .ok w ws := rfl
theorem r_pick0 : pickE [] ρ = some [] := rfl
theorem r_pickc (is : List Nat) : pickE (i :: is) ρ = pickA (ρ[i]?) (pickE is ρ) := by
  unfold pickA
  rfl
theorem r_pickA : pickA (some (some w)) (some ws) = some (w :: ws) := rfl
theorem r_tup : tupF ws = tupK (colds ws) ws.length := by
  unfold tupK
  rfl
theorem r_tupK (n : Nat) (h : n ≤ 1000) : tupK (some ds) n = some (.c (.tuple ds)) := if_pos h
theorem r_lst : lstF ws = lstK (colds ws) ws := by
  unfold lstK
  rfl
theorem r_lstK (h : ws.length ≤ 1000) : lstK (some ds) ws = some (.l ws) := if_pos h
theorem r_len_l : lenF (.l ws) = some (.c (.int ws.length)) := rfl
theorem r_len_cl : lenF (.c (.list ds)) = some (.c (.int ds.length)) := rfl
theorem r_len_t : lenF (.c (.tuple ds)) = some (.c (.int ds.length)) := rfl
theorem r_len_k (kws : List (Key × W)) : lenF (.dk kws) = some (.c (.int kws.length)) := rfl
theorem r_len_dt (kws : List (List Key × W)) : lenF (.dt kws) = some (.c (.int kws.length)) := rfl
theorem r_len_s (l : Bool) : lenF (.ks l ds) = some (.c (.int ds.length)) := rfl
theorem r_len_x (z : Str) (h : z.length ≤ sizeLine) : lenF (.c (.str z)) = some (.c (.int z.length)) := if_pos h
theorem r_isi (T : String) (h : isPl w = true) : isiF T w = some (.c (.bool (isTy T (kindW w)))) := if_pos h
theorem r_isic (T : String) : isiF T (.c d) = some (.c (.bool (isTy T (kindD d)))) := rfl
theorem r_isil (T : String) : isiF T (.l ws) = some (.c (.bool (isTy T "list"))) := rfl
theorem r_isik (T : String) (kws : List (Key × W)) : isiF T (.dk kws) = some (.c (.bool (isTy T "dict"))) := rfl
theorem r_ix_t (n : Int) : ixF2 (.c (.tuple ds)) (.c (.int n)) = (atI ds n).map .c := rfl
theorem r_ix_cl (n : Int) : ixF2 (.c (.list ds)) (.c (.int n)) = (atI ds n).map .c := rfl
theorem r_ix_l (n : Int) : ixF2 (.l ws) (.c (.int n)) = (atI ws n).bind coldW := rfl
def ixK (o : Option Key) (kws : List (Key × W)) : Option W := match o with
  | some k => (lookW kws k).bind coldW
  | none => none
theorem r_ix_k (kws : List (Key × W)) : ixF2 (.dk kws) (.c d) = ixK (keyOf d) kws := by
  unfold ixK
  cases d <;> rfl
theorem r_ixK (kws : List (Key × W)) (k : Key) : ixK (some k) kws = (lookW kws k).bind coldW := rfl
theorem r_keyi (n : Int) : keyOf (.int n) = some (.inl n) := rfl
theorem r_keys (x : Str) : keyOf (.str x) = some (.inr x) := rfl
theorem r_coldW : coldW (.c d) = some (.c d) := rfl
theorem r_addi (m n : Int) : addF2 (.c (.int m)) (.c (.int n)) = some (.c (.int (m + n))) := rfl
theorem r_addt (es : List PyData) (h : ds.length + es.length ≤ sizeLine) : addF2 (.c (.tuple ds)) (.c (.tuple es)) = some (.c (.tuple (ds ++ es))) := if_pos h
theorem r_subi (m n : Int) : subF2 (.c (.int m)) (.c (.int n)) = some (.c (.int (m - n))) := rfl
theorem r_muli (m n : Int) (h : CMulA m n) : mulF2 (.c (.int m)) (.c (.int n)) = some (.c (.int (m * n))) := if_pos h
theorem r_modi (m n : Int) (h : n ≠ 0) : modF2 (.c (.int m)) (.c (.int n)) = some (.c (.int (m.fmod n))) := if_pos h
theorem r_divi (m n : Int) (h : CDivA m n) : fdivF2 (.c (.int m)) (.c (.int n)) = some (.c (.int (m.fdiv n))) := if_pos h
theorem r_lti (m n : Int) : ltF2 (.c (.int m)) (.c (.int n)) = some (decide (m < n)) := rfl
theorem r_lei (m n : Int) : leF2 (.c (.int m)) (.c (.int n)) = some (decide (m ≤ n)) := rfl
theorem r_gti (m n : Int) : gtF2 (.c (.int m)) (.c (.int n)) = some (decide (n < m)) := rfl
theorem r_gei (m n : Int) : geF2 (.c (.int m)) (.c (.int n)) = some (decide (n ≤ m)) := rfl
theorem r_negi (m : Int) : negF (.c (.int m)) = some (.c (.int (-m))) := rfl
theorem r_inti (m : Int) : intF (.c (.int m)) = some (.c (.int m)) := rfl
theorem r_intb (x : Bool) : intF (.c (.bool x)) = some (.c (.int (if x then 1 else 0))) := rfl
theorem r_cmp (p : Int → Int → Bool) (m n : Int) : cmpF2 p (.c (.int m)) (.c (.int n)) = some (p m n) := rfl
theorem r_isn (v : W) : isF2 v (.c .none) = some (isNF v) := rfl
theorem r_isnt (v : W) : isntF2 v (.c .none) = some (!isNF v) := rfl
theorem r_nfn : isNF (.c .none) = true := rfl
end
end VL
namespace VL
open PySem L2
/-! ### slices with written bounds -/
theorem cut_from {α : Type} (xs : List α) (k : Nat) : cutA xs (some (k : Int)) none = xs.drop k := by
  unfold cutA
  rw [HT.sIx_nat, HT.sIx_none]
  rcases Nat.le_total k xs.length with h | h
  · rw [Nat.min_eq_left h, ← List.length_drop, List.take_length]
  · rw [Nat.min_eq_right h, List.drop_of_length_le (Nat.le_refl _), List.drop_of_length_le h]
    simp
theorem cut_to {α : Type} (xs : List α) (k : Nat) : cutA xs none (some (k : Int)) = xs.take k := by
  unfold cutA
  rw [HT.sIx_nat, HT.sIx_none, List.drop_zero, Nat.sub_zero]
  rcases Nat.le_total k xs.length with h | h
  · rw [Nat.min_eq_left h]
  · rw [Nat.min_eq_right h, List.take_length, List.take_of_length_le h]
theorem cut_neg {α : Type} (xs : List α) : cutA xs none (some (-1)) = xs.dropLast := by
  unfold cutA
  have e : HT.sIx xs.length xs.length (some (-1)) = xs.length - 1 := by
    show (if (-1 : Int) < 0 then ((-1 : Int) + (xs.length : Int)).toNat else min (-1 : Int).toNat xs.length) = xs.length - 1
    rw [if_pos (by decide)]
    omega
  rw [e, HT.sIx_none, List.drop_zero, Nat.sub_zero, List.dropLast_eq_take]
theorem cut_all {α : Type} (xs : List α) : cutA xs none none = xs := by
  unfold cutA
  rw [HT.sIx_none, HT.sIx_none, List.drop_zero, Nat.sub_zero, List.take_length]
section
variable (ds : List PyData) (k : Nat)
theorem sl10_t : sl10 [.c (.tuple ds), .c (.int (k : Int))] = some (.c (.tuple (ds.drop k))) := by
  show some (W.c (.tuple (cutA ds (some (k : Int)) none))) = _
  rw [cut_from]
theorem sl01_t : sl01 [.c (.tuple ds), .c (.int (k : Int))] = some (.c (.tuple (ds.take k))) := by
  show some (W.c (.tuple (cutA ds none (some (k : Int))))) = _
  rw [cut_to]
theorem sl01_n : sl01 [.c (.tuple ds), .c (.int (-1))] = some (.c (.tuple ds.dropLast)) := by
  show some (W.c (.tuple (cutA ds none (some (-1))))) = _
  rw [cut_neg]
theorem sl00_t : sl00 [.c (.tuple ds)] = some (.c (.tuple ds)) := by
  show some (W.c (.tuple (cutA ds none none))) = _
  rw [cut_all]
theorem sl10_k : sl10 [.ks true ds, .c (.int (k : Int))] = some (.l ((ds.drop k).map .c)) := by
  show some (W.l ((cutA ds (some (k : Int)) none).map .c)) = _
  rw [cut_from]
theorem sl01_k : sl01 [.ks true ds, .c (.int (k : Int))] = some (.l ((ds.take k).map .c)) := by
  show some (W.l ((cutA ds none (some (k : Int))).map .c)) = _
  rw [cut_to]
theorem colds_map : ∀ ds : List PyData, colds (ds.map W.c) = some ds
  | [] => rfl
  | d :: r => by
    rw [List.map_cons, colds, colds_map r]
    rfl
theorem lit_l : litems (.l (ds.map W.c)) = some ds := colds_map ds
theorem sl10_l : sl10 [.l (ds.map W.c), .c (.int (k : Int))] = some (.l ((ds.drop k).map .c)) := by
  show (litems (.l (ds.map W.c))).map (fun ds => W.l ((cutA ds (some (k : Int)) none).map .c)) = _
  rw [lit_l, Option.map_some, cut_from]
theorem sl01_l : sl01 [.l (ds.map W.c), .c (.int (k : Int))] = some (.l ((ds.take k).map .c)) := by
  show (litems (.l (ds.map W.c))).map (fun ds => W.l ((cutA ds none (some (k : Int))).map .c)) = _
  rw [lit_l, Option.map_some, cut_to]
theorem rev_l : revF (.l (ds.map W.c)) = some (.l (ds.reverse.map .c)) := by
  show (litems (.l (ds.map W.c))).map (fun ds => W.l (ds.reverse.map .c)) = _
  rw [lit_l]
  rfl
theorem add_l (es : List PyData) (h : ds.length + es.length ≤ sizeLine) : addF2 (.l (ds.map W.c)) (.l (es.map W.c)) = some (.l ((ds ++ es).map .c)) := by
  show (match litems (.l (ds.map W.c)), litems (.l (es.map W.c)) with
    | some xs, some ys => if xs.length + ys.length ≤ sizeLine then some (W.l ((xs ++ ys).map .c)) else none
    | _, _ => none) = _
  rw [lit_l, lit_l]
  exact if_pos h
theorem rng1_i (n : Int) (h : -(2 ^ 62) ≤ n ∧ n < 2 ^ 62) : rng1 [.c (.int n)] = some (rangeD 0 n) := by
  unfold rng1
  simp only [if_pos h]
theorem rng2_i (m n : Int) (h1 : -(2 ^ 62) ≤ m) (h2 : m < 2 ^ 62) (h3 : -(2 ^ 62) ≤ n) (h4 : n < 2 ^ 62) : rng2 [.c (.int m), .c (.int n)] = some (rangeD m n) := by
  unfold rng2
  simp only [h1, h2, h3, h4, and_self, if_true]
end
end VL
namespace VL
open PySem L2
/-! ### plain data of bounded depth and bulk -/
structure Ok (k n : Nat) (d : PyData) : Prop where
  show_ : d.showable = true
  lay : d.canLay0 = true
  dep : d.depth ≤ k
  leaf : d.leavesShort 2000 = true
  bulk : d.bulk ≤ n
structure OkAll (k n : Nat) (ds : List PyData) : Prop where
  show_ : PyData.showableAll ds = true
  lay : PyData.canLayAll0 ds = true
  dep : PyData.depthAll ds ≤ k
  leaf : PyData.leavesShortAll 2000 ds = true
  bulk : PyData.bulkAll ds ≤ n
def okB (k n : Nat) (d : PyData) : Bool := d.showable && d.canLay0 && decide (d.depth ≤ k) && d.leavesShort 2000 && decide (d.bulk ≤ n)
section
variable {k k' n n' m : Nat} {d : PyData} {ds es : List PyData}
theorem ok_b (h : okB k n d = true) : Ok k n d := by
  unfold okB at h
  simp only [Bool.and_eq_true, decide_eq_true_eq] at h
  exact ⟨h.1.1.1.1, h.1.1.1.2, h.1.1.2, h.1.2, h.2⟩
theorem Ok.mono (h : Ok k n d) (hk : k ≤ k') (hn : n ≤ n') : Ok k' n' d := ⟨h.show_, h.lay, Nat.le_trans h.dep hk, h.leaf, Nat.le_trans h.bulk hn⟩
theorem OkAll.mono (h : OkAll k n ds) (hk : k ≤ k') (hn : n ≤ n') : OkAll k' n' ds := ⟨h.show_, h.lay, Nat.le_trans h.dep hk, h.leaf, Nat.le_trans h.bulk hn⟩
theorem ok_int (i : Int) (h : i.natAbs < 2 ^ 64) : Ok k n (.int i) := by
  have hl : i.natAbs.log2 < 1920 := by
    rcases Nat.eq_zero_or_pos i.natAbs with h0 | h0
    · rw [h0]; decide
    · have := (Nat.log2_lt (by omega)).2 (show i.natAbs < 2 ^ 1920 from Nat.lt_of_lt_of_le h (Nat.pow_le_pow_right (by decide) (by decide)))
      exact this
  refine ⟨decide_eq_true hl, rfl, Nat.zero_le _, ?_, Nat.zero_le _⟩
  have := PyProof.Rows.int_text_len_1921 hl
  exact decide_eq_true (Nat.le_trans this (by decide))
theorem ok_none : Ok k n .none := ⟨rfl, rfl, Nat.zero_le _, rfl, Nat.zero_le _⟩
theorem ok_bool (b : Bool) : Ok k n (.bool b) := ⟨rfl, rfl, Nat.zero_le _, rfl, Nat.zero_le _⟩
theorem oka_nil : OkAll k n [] := ⟨rfl, rfl, Nat.zero_le _, rfl, Nat.zero_le _⟩
theorem oka_cons (h : Ok k n d) (t : OkAll k m ds) (hn : n + 1 + m ≤ n') : OkAll k n' (d :: ds) := by
  refine ⟨?_, ?_, ?_, ?_, ?_⟩
  · simp only [PyData.showableAll, h.show_, t.show_, Bool.and_self]
  · simp only [PyData.canLayAll0, h.lay, t.lay, Bool.and_self]
  · simp only [PyData.depthAll]
    have := t.dep
    have := h.dep
    omega
  · simp only [PyData.leavesShortAll, h.leaf, t.leaf, Bool.and_self]
  · simp only [PyData.bulkAll]
    have := h.bulk
    have := t.bulk
    omega
theorem OkAll.tuple (h : OkAll k n ds) : Ok (k + 1) n (.tuple ds) := ⟨h.show_, h.lay, by simp only [PyData.depth]; have := h.dep; omega, h.leaf, h.bulk⟩
theorem OkAll.list (h : OkAll k n ds) : Ok (k + 1) n (.list ds) := ⟨h.show_, h.lay, by simp only [PyData.depth]; have := h.dep; omega, h.leaf, h.bulk⟩
theorem OkAll.head (h : OkAll k n (d :: ds)) : Ok k n d := by
  obtain ⟨h1, h2, h3, h4, h5⟩ := h
  simp only [PyData.showableAll, PyData.canLayAll0, PyData.depthAll, PyData.leavesShortAll, PyData.bulkAll, Bool.and_eq_true] at h1 h2 h3 h4 h5
  exact ⟨h1.1, h2.1, by omega, h4.1, by omega⟩
theorem OkAll.tail (h : OkAll k n (d :: ds)) : OkAll k (n - 1 - d.bulk) ds := by
  obtain ⟨h1, h2, h3, h4, h5⟩ := h
  simp only [PyData.showableAll, PyData.canLayAll0, PyData.depthAll, PyData.leavesShortAll, PyData.bulkAll, Bool.and_eq_true] at h1 h2 h3 h4 h5
  exact ⟨h1.2, h2.2, by omega, h4.2, by omega⟩
theorem OkAll.cut (h : OkAll k n (d :: ds)) : ∃ a b, Ok k a d ∧ OkAll k b ds ∧ a + 1 + b ≤ n := by
  have h5 := h.bulk
  simp only [PyData.bulkAll] at h5
  have h1 := h.head
  have h2 := h.tail
  exact ⟨d.bulk, PyData.bulkAll ds, ⟨h1.show_, h1.lay, h1.dep, h1.leaf, Nat.le_refl _⟩, ⟨h2.show_, h2.lay, h2.dep, h2.leaf, Nat.le_refl _⟩, h5⟩
theorem OkAll.append : ∀ {ds : List PyData} {n : Nat}, OkAll k n ds → OkAll k m es → OkAll k (n + m) (ds ++ es)
  | [], n, _, t => t.mono (Nat.le_refl _) (by omega)
  | d :: ds, n, h, t => by
    obtain ⟨a, b, h1, h2, h3⟩ := h.cut
    exact oka_cons h1 (h2.append t) (by omega)
theorem OkAll.take : ∀ {ds : List PyData} {n : Nat} (i : Nat), OkAll k n ds → OkAll k n (ds.take i)
  | _, _, 0, _ => by rw [List.take_zero]; exact oka_nil
  | [], _, i + 1, h => by rw [List.take_nil]; exact oka_nil
  | d :: ds, n, i + 1, h => by
    obtain ⟨a, b, h1, h2, h3⟩ := h.cut
    rw [List.take_succ_cons]
    exact oka_cons h1 (h2.take i) h3
theorem OkAll.drop : ∀ {ds : List PyData} {n : Nat} (i : Nat), OkAll k n ds → OkAll k n (ds.drop i)
  | _, _, 0, h => h
  | [], _, i + 1, h => by rw [List.drop_nil]; exact oka_nil
  | d :: ds, n, i + 1, h => by
    obtain ⟨a, b, h1, h2, h3⟩ := h.cut
    rw [List.drop_succ_cons]
    exact (h2.drop i).mono (Nat.le_refl _) (by omega)
theorem OkAll.dropLast (h : OkAll k n ds) : OkAll k n ds.dropLast := by
  rw [List.dropLast_eq_take]
  exact h.take _
theorem oka_of : ∀ {ds : List PyData}, (∀ d ∈ ds, Ok k m d) → OkAll k (ds.length * (m + 1)) ds
  | [], _ => oka_nil
  | d :: ds, h => by
    have ih := oka_of (ds := ds) fun e he => h e (by simp [he])
    refine oka_cons (h d (by simp)) ih ?_
    rw [List.length_cons, Nat.add_mul]
    omega
theorem OkAll.mem : ∀ {ds : List PyData} {n : Nat}, OkAll k n ds → d ∈ ds → Ok k n d
  | e :: ds, n, h, hd => by
    obtain ⟨a, b, h1, h2, h3⟩ := h.cut
    rcases List.mem_cons.1 hd with rfl | hd
    · exact h1.mono (Nat.le_refl _) (by omega)
    · exact (h2.mem hd).mono (Nat.le_refl _) (by omega)
theorem Ok.fine (h : Ok k n d) (hk : k ≤ 40) : Fine n d := ⟨h.show_, h.lay, Nat.le_trans h.dep hk, h.leaf, h.bulk⟩
theorem Ok.showOk (h : Ok k n d) (hk : k ≤ 40) (hn : n ≤ 8000) : showOk d = true := (h.fine hk).showOk hn
theorem Ok.shaped (h : Ok k n d) (hk : k ≤ 40) : SeqAt.shaped d = true := (h.fine hk).shaped
theorem mul_t (j : Int) (h1 : -1000 ≤ j) (h2 : j ≤ 1000) (h3 : ds.length ≤ 1000) : mulF2 (.c (.tuple ds)) (.c (.int j)) = some (.c (.tuple (List.replicate j.toNat ds).flatten)) := if_pos ⟨h1, h2, h3⟩
def addO (a b : Option (List PyData)) : Option W := match a, b with
  | some xs, some ys => if xs.length + ys.length ≤ sizeLine then some (.l ((xs ++ ys).map .c)) else none
  | _, _ => none
theorem addO_eq {a b : W} (h : addF2 a b = (match litems a, litems b with
    | some xs, some ys => if xs.length + ys.length ≤ sizeLine then some (.l ((xs ++ ys).map .c)) else none
    | _, _ => none)) : addF2 a b = addO (litems a) (litems b) := by
  rw [h]
  unfold addO
  generalize litems a = A
  generalize litems b = B
  cases A <;> cases B <;> rfl
theorem r_addcl (ws : List W) : addF2 (.c (.list ds)) (.l ws) = addO (some ds) (colds ws) := addO_eq rfl
theorem r_addll (vs ws : List W) : addF2 (.l vs) (.l ws) = addO (colds vs) (colds ws) := addO_eq rfl
theorem r_addlc (ws : List W) : addF2 (.l ws) (.c (.list ds)) = addO (colds ws) (some ds) := addO_eq rfl
theorem r_addcc : addF2 (.c (.list ds)) (.c (.list es)) = addO (some ds) (some es) := addO_eq rfl
theorem r_addO (h : ds.length + es.length ≤ sizeLine) : addO (some ds) (some es) = some (.l ((ds ++ es).map .c)) := by
  simp only [addO]
  exact if_pos h
theorem r_dispn (ρ : VL.Env) : dispB (some []) ρ = .ok (.dk []) ρ := by
  simp only [dispB]
  exact if_pos ⟨List.nodup_nil, Nat.zero_le _⟩
theorem ok_big (i : Int) (h : i.natAbs.log2 < 1920) : Ok k n (.int i) := by
  refine ⟨decide_eq_true h, rfl, Nat.zero_le _, ?_, Nat.zero_le _⟩
  have := PyProof.Rows.int_text_len_1921 h
  exact decide_eq_true (Nat.le_trans this (by decide))
end
end VL
namespace VL
open PySem L2
/-! ### parts changed and read, by rules -/
def mdG (i : Nat) (o : Option (W × W)) (ρ : VL.Env) : R W := match o with
  | some (w1, u) => .ok u (ρ.set i (some w1))
  | none => .stuck
def mdF (M : W → List W → Option (W × W)) (i : Nat) (w0 : W) (j : Nat) (o : Option (List W)) (ρ : VL.Env) : R W := match o with
  | some ws => mdG i (partM j M w0 ws) ρ
  | none => .stuck
def mdE (M : W → List W → Option (W × W)) (i : Nat) (w0 : W) (j : Nat) (ts : List AV) (ρ : VL.Env) : R W := mdF M i w0 j (wsV ts) ρ
def mdD (M : W → List W → Option (W × W)) (i : Nat) (os : List Opd) (w0 : W) (o : Option Nat) (ρ : VL.Env) : R W := match o with
  | some j => if listAt w0 j = true then (evs os (ρ.set i none)).bind (mdE M i w0 j) else .stuck
  | none => .stuck
def mdC (M : W → List W → Option (W × W)) (i : Nat) (os : List Opd) (k : W) (o : Option (Option W)) (ρ : VL.Env) : R W := match o with
  | some (some w0) => mdD M i os w0 (spotW w0 k) ρ
  | _ => .stuck
def mdB (M : W → List W → Option (W × W)) (i : Nat) (os : List Opd) (k : W) (ρ : VL.Env) : R W := mdC M i os k (ρ[i]?) ρ
def mdA (M : W → List W → Option (W × W)) (i : Nat) (kf : VL.Env → R W) (os : List Opd) (o : Option (Option W)) (ρ : VL.Env) : R W := match o with
  | some (some _) => (kf ρ).bind (mdB M i os)
  | _ => .stuck
def ptG (i : Nat) (w0 : W) (o : Option W) (ρ : VL.Env) : R W := match o with
  | some u => .ok u (ρ.set i (some w0))
  | none => .stuck
def ptF (P : List W → Option W) (i : Nat) (w0 w : W) (o : Option (List W)) (ρ : VL.Env) : R W := match o with
  | some ws => ptG i w0 (P (w :: ws)) ρ
  | none => .stuck
def ptE (P : List W → Option W) (i : Nat) (w0 w : W) (ts : List AV) (ρ : VL.Env) : R W := ptF P i w0 w (rds ρ ts) ρ
def ptD (P : List W → Option W) (i : Nat) (os : List Opd) (w0 : W) (o : Option W) (ρ : VL.Env) : R W := match o with
  | some w => (evs os (ρ.set i none)).bind (ptE P i w0 w)
  | none => .stuck
def ptC (P : List W → Option W) (i : Nat) (os : List Opd) (k : W) (o : Option (Option W)) (ρ : VL.Env) : R W := match o with
  | some (some w0) => ptD P i os w0 ((spotW w0 k).bind (partAt w0)) ρ
  | _ => .stuck
def ptB (P : List W → Option W) (i : Nat) (os : List Opd) (k : W) (ρ : VL.Env) : R W := ptC P i os k (ρ[i]?) ρ
def ptA (P : List W → Option W) (i : Nat) (kf : VL.Env → R W) (os : List Opd) (o : Option (Option W)) (ρ : VL.Env) : R W := match o with
  | some (some _) => (kf ρ).bind (ptB P i os)
  | _ => .stuck
section
variable (ρ : VL.Env) (i j : Nat) (kf : VL.Env → R W) (os : List Opd) (w w0 k u : W) (ws : List W) (ts : List AV) (M : W → List W → Option (W × W)) (P : List W → Option W)
theorem r_mutD : mutD M i kf os ρ = mdA M i kf os (ρ[i]?) ρ := by
  unfold mutD mdA
  generalize ρ[i]? = A
  cases A with
  | none => rfl
  | some A =>
    cases A with
    | none => rfl
    | some w0 =>
      simp only []
      congr 1
theorem r_mdA : mdA M i kf os (some (some w)) ρ = (kf ρ).bind (mdB M i os) := rfl
theorem r_mdB : mdB M i os k ρ = mdC M i os k (ρ[i]?) ρ := rfl
theorem r_mdC : mdC M i os k (some (some w0)) ρ = mdD M i os w0 (spotW w0 k) ρ := rfl
theorem r_mdD (h : listAt w0 j = true) : mdD M i os w0 (some j) ρ = (evs os (ρ.set i none)).bind (mdE M i w0 j) := if_pos h
theorem r_mdE : mdE M i w0 j ts ρ = mdF M i w0 j (wsV ts) ρ := rfl
theorem r_mdF : mdF M i w0 j (some ws) ρ = mdG i (partM j M w0 ws) ρ := rfl
theorem r_mdG : mdG i (some (w, u)) ρ = .ok u (ρ.set i (some w)) := rfl
theorem r_partE : partE P i kf os ρ = ptA P i kf os (ρ[i]?) ρ := by
  unfold partE ptA
  generalize ρ[i]? = A
  cases A with
  | none => rfl
  | some A =>
    cases A with
    | none => rfl
    | some w0 =>
      simp only []
      congr 1
theorem r_ptA : ptA P i kf os (some (some w)) ρ = (kf ρ).bind (ptB P i os) := rfl
theorem r_ptB : ptB P i os k ρ = ptC P i os k (ρ[i]?) ρ := rfl
theorem r_ptC : ptC P i os k (some (some w0)) ρ = ptD P i os w0 ((spotW w0 k).bind (partAt w0)) ρ := rfl
theorem r_ptD : ptD P i os w0 (some w) ρ = (evs os (ρ.set i none)).bind (ptE P i w0 w) := rfl
theorem r_ptE : ptE P i w0 w ts ρ = ptF P i w0 w (rds ρ ts) ρ := rfl
theorem r_ptF : ptF P i w0 w (some ws) ρ = ptG i w0 (P (w :: ws)) ρ := rfl
theorem r_ptG : ptG i w0 (some u) ρ = .ok u (ρ.set i (some w0)) := rfl
theorem r_lrg1 (n : Int) (h1 : -(2 ^ 20) ≤ n) (h2 : n < 2 ^ 20) : lrg1 [.c (.int n)] = some (.l ((rangeD 0 n).map .c)) := if_pos ⟨h1, h2⟩
def lbC (ρ1 : VL.Env) (vs : List Nat) (i : Nat) (ds r : List PyData) (ρ2 : VL.Env) : R W := .ok (.l (r.map .c)) ((backE ρ1 ρ2 vs).set i (some (.l (ds.map .c))))
def lbB (vs : List Nat) (i : Nat) (k : PyData → VL.Env → Option VL.Env) (t : VL.Env → R Bool) (f : VL.Env → R W) (o : Option (List PyData)) (ρ : VL.Env) : R W := match o with
  | some ds => if (vs.all (coldAt (ρ.set i none))) = true ∧ ds.length ≤ sizeLine then (lcLoop vs k t f ds (wipeE (ρ.set i none) vs)).bind (lbC (ρ.set i none) vs i ds) else .stuck
  | none => .stuck
def lbA (vs : List Nat) (i : Nat) (k : PyData → VL.Env → Option VL.Env) (t : VL.Env → R Bool) (f : VL.Env → R W) (o : Option (Option W)) (ρ : VL.Env) : R W := match o with
  | some (some (.l ws)) => lbB vs i k t f (colds ws) ρ
  | _ => lcE vs (seqI (var i)) k t f ρ
theorem r_lcBE (vs : List Nat) (k : PyData → VL.Env → Option VL.Env) (t : VL.Env → R Bool) (f : VL.Env → R W) : lcBE vs i k t f ρ = lbA vs i k t f (ρ[i]?) ρ := by
  unfold lcBE lbA
  generalize ρ[i]? = A
  cases A with
  | none => rfl
  | some A =>
    cases A with
    | none => rfl
    | some w0 =>
      cases w0 with
      | l ws =>
        simp only [lcB0, lbB]
        cases colds ws <;> rfl
      | _ => rfl
theorem r_lbA (vs : List Nat) (k : PyData → VL.Env → Option VL.Env) (t : VL.Env → R Bool) (f : VL.Env → R W) : lbA vs i k t f (some (some (.l ws))) ρ = lbB vs i k t f (colds ws) ρ := rfl
theorem r_lbB (vs : List Nat) (k : PyData → VL.Env → Option VL.Env) (t : VL.Env → R Bool) (f : VL.Env → R W) (ds : List PyData) (h1 : (vs.all (coldAt (ρ.set i none))) = true) (h2 : ds.length ≤ sizeLine) : lbB vs i k t f (some ds) ρ = (lcLoop vs k t f ds (wipeE (ρ.set i none) vs)).bind (lbC (ρ.set i none) vs i ds) := if_pos ⟨h1, h2⟩
theorem r_lbC (vs : List Nat) (ρ1 ρ2 : VL.Env) (ds r : List PyData) : lbC ρ1 vs i ds r ρ2 = .ok (.l (r.map .c)) ((backE ρ1 ρ2 vs).set i (some (.l (ds.map .c)))) := rfl
end
end VL
namespace VL
open PySem L2
/-! ### errors, parallel stores, by rules -/
def finX (e : Exn) (o : Option (List W)) : RD := match o with
  | some us => .exn e us
  | none => .stuck
def tryK (sub : Str → Str → Option Bool) (l : List (Str × (VL.Env → RS))) (r : RS) : RS := match r with
  | .exn e ρ' => catchS sub l e ρ'
  | .nx ρ' => .nx ρ'
  | .rt w ρ' => .rt w ρ'
  | .stuck => .stuck
def catchK (sub : Str → Str → Option Bool) (g : VL.Env → RS) (r : List (Str × (VL.Env → RS))) (e : Exn) (o : Option Bool) (ρ : VL.Env) : RS := match o with
  | some true => g ρ
  | some false => catchS sub r e ρ
  | none => .stuck
def parPC (ps : List (Nat × (VL.Env → R W))) (o : Option (List PyData)) (ρ : VL.Env) : RS := match o with
  | some ds => if ds.length = ps.length then putsS ps ds ρ else .stuck
  | none => .stuck
def parPK (ps : List (Nat × (VL.Env → R W))) (ts : List AV) (ρ : VL.Env) : RS := parPC ps ((wsV ts).bind colds) ρ
section
variable (ρ : VL.Env) (i : Nat) (g : VL.Env → R W) (os : List Opd) (w : W) (d : PyData) (ws : List W) (ds : List PyData) (ts : List AV) (e : Exn) (ps : List (Nat × (VL.Env → R W))) (gb h : VL.Env → RS) (sub : Str → Str → Option Bool) (l : List (Str × (VL.Env → RS))) (c : Str)
theorem r_raiseS : raiseS c ρ = .exn ⟨c, []⟩ ρ := rfl
theorem r_finx (io : List Nat) : finD io (.exn e ρ) = finX e (pickE io ρ) := by
  unfold finX
  rfl
theorem r_finX : finX e (some ws) = .exn e ws := rfl
theorem r_tryS : tryS sub gb l ρ = tryK sub l (gb ρ) := rfl
theorem r_tryn : tryK sub l (.nx ρ) = .nx ρ := rfl
theorem r_tryr : tryK sub l (.rt w ρ) = .rt w ρ := rfl
theorem r_tryx : tryK sub l (.exn e ρ) = catchS sub l e ρ := rfl
theorem r_catc : catchS sub ((c, h) :: l) e ρ = catchK sub h l e (sub e.cls c) ρ := rfl
theorem r_catt : catchK sub h l e (some true) ρ = h ρ := rfl
theorem r_catf : catchK sub h l e (some false) ρ = catchS sub l e ρ := rfl
theorem r_parP : parP os ps ρ = (evs os ρ).toS (parPK ps) := rfl
theorem r_parPK : parPK ps ts ρ = parPC ps ((wsV ts).bind colds) ρ := rfl
theorem r_parPC (h : ds.length = ps.length) : parPC ps (some ds) ρ = putsS ps ds ρ := if_pos h
theorem r_puts0 : putsS [] [] ρ = .nx ρ := rfl
theorem r_putsc : putsS ((i, g) :: ps) (d :: ds) ρ = (putA i g (.c d) (ρ[i]?) ρ).seq (putsS ps ds) := rfl
end
end VL
/-! roads as pairs of houses: what is joined, least trees, flows (plain mathematics) -/
namespace VG
abbrev Rd := Int × Int
inductive Cn (es : List Rd) : Int → Int → Prop where
  | refl (x : Int) : Cn es x x
  | right {x a b : Int} : (a, b) ∈ es → Cn es x a → Cn es x b
  | left {x a b : Int} : (a, b) ∈ es → Cn es x b → Cn es x a
theorem Cn.trans {es : List Rd} {x y z : Int} (h : Cn es x y) (k : Cn es y z) : Cn es x z := by
  induction k with
  | refl => exact h
  | right m _ ih => exact .right m ih
  | left m _ ih => exact .left m ih
theorem Cn.symm {es : List Rd} {x y : Int} (h : Cn es x y) : Cn es y x := by
  induction h with
  | refl => exact .refl _
  | right m _ ih => exact Cn.trans (.left m (.refl _)) ih
  | left m _ ih => exact Cn.trans (.right m (.refl _)) ih
theorem Cn.mono {es fs : List Rd} (h : ∀ e ∈ es, e ∈ fs) {x y : Int} (k : Cn es x y) : Cn fs x y := by
  induction k with
  | refl => exact .refl _
  | right m _ ih => exact .right (h _ m) ih
  | left m _ ih => exact .left (h _ m) ih
theorem Cn.stay {es : List Rd} {S : Int → Prop} (hc : ∀ a b, (a, b) ∈ es → (S a ↔ S b)) {x y : Int} (h : S x) (k : Cn es x y) : S y := by
  induction k with
  | refl => exact h
  | right m _ ih => exact (hc _ _ m).1 ih
  | left m _ ih => exact (hc _ _ m).2 ih
theorem Cn.add {es fs : List Rd} {a b : Int} (h : ∀ e ∈ fs, e ∈ es ∨ e = (a, b)) {x y : Int} (k : Cn fs x y) : Cn es x y ∨ (Cn es x a ∧ Cn es b y) ∨ (Cn es x b ∧ Cn es a y) := by
  induction k with
  | refl => exact .inl (.refl _)
  | @right c d m _ ih =>
    rcases h _ m with m | m
    · rcases ih with ih | ⟨i1, i2⟩ | ⟨i1, i2⟩
      · exact .inl (.right m ih)
      · exact .inr (.inl ⟨i1, .right m i2⟩)
      · exact .inr (.inr ⟨i1, .right m i2⟩)
    · cases m
      rcases ih with ih | ⟨i1, i2⟩ | ⟨i1, i2⟩
      · exact .inr (.inl ⟨ih, .refl _⟩)
      · exact .inr (.inl ⟨i1, .refl _⟩)
      · exact .inl i1
  | @left c d m _ ih =>
    rcases h _ m with m | m
    · rcases ih with ih | ⟨i1, i2⟩ | ⟨i1, i2⟩
      · exact .inl (.left m ih)
      · exact .inr (.inl ⟨i1, .left m i2⟩)
      · exact .inr (.inr ⟨i1, .left m i2⟩)
    · cases m
      rcases ih with ih | ⟨i1, i2⟩ | ⟨i1, i2⟩
      · exact .inr (.inr ⟨ih, .refl _⟩)
      · exact .inl i1
      · exact .inr (.inr ⟨i1, .refl _⟩)
/-! ### the least tree -/
def rdA (rs : List Rd) (k : Nat) : Rd := rs.getD k (0, 0)
def ed (rs : List Rd) (T : List Nat) : List Rd := T.map (rdA rs)
theorem mem_ed {rs : List Rd} {T : List Nat} {e : Rd} : e ∈ ed rs T ↔ ∃ k ∈ T, rdA rs k = e := by
  unfold ed
  rw [List.mem_map]
open Classical in
noncomputable def gst (rs : List Rd) (T : List Nat) (k : Nat) : List Nat := if Cn (ed rs T) (rdA rs k).1 (rdA rs k).2 then T else T ++ [k]
noncomputable def tree (rs : List Rd) : List Nat := (List.range rs.length).foldl (gst rs) []
/-- a forest made of the roads below j, joining what they join -/
structure Fst (rs : List Rd) (j : Nat) (T : List Nat) : Prop where
  lt : ∀ k ∈ T, k < j
  asc : T.Pairwise (· < ·)
  ind : ∀ k ∈ T, ¬ Cn (ed rs (T.filter (· ≠ k))) (rdA rs k).1 (rdA rs k).2
  span : ∀ k, k < j → Cn (ed rs T) (rdA rs k).1 (rdA rs k).2
theorem Fst.step {rs : List Rd} {j : Nat} {T : List Nat} (h : Fst rs j T) : Fst rs (j + 1) (gst rs T j) := by
  unfold gst
  by_cases hc : Cn (ed rs T) (rdA rs j).1 (rdA rs j).2
  · rw [if_pos hc]
    refine ⟨fun k hk => Nat.lt_succ_of_lt (h.lt k hk), h.asc, h.ind, fun k hk => ?_⟩
    rcases Nat.lt_succ_iff_lt_or_eq.1 hk with hk | rfl
    · exact h.span k hk
    · exact hc
  · rw [if_neg hc]
    have sub : ∀ e ∈ ed rs T, e ∈ ed rs (T ++ [j]) := fun e he => by
      obtain ⟨k, hk, rfl⟩ := mem_ed.1 he
      exact mem_ed.2 ⟨k, List.mem_append.2 (.inl hk), rfl⟩
    refine ⟨fun k hk => ?_, ?_, fun k hk hcn => ?_, fun k hk => ?_⟩
    · rcases List.mem_append.1 hk with hk | hk
      · exact Nat.lt_succ_of_lt (h.lt k hk)
      · simp at hk; omega
    · rw [List.pairwise_append]
      exact ⟨h.asc, by simp, fun a ha b hb => by simp at hb; subst hb; exact h.lt a ha⟩
    · rw [List.filter_append] at hcn
      rcases List.mem_append.1 hk with hk | hk
      · have hkj : j ≠ k := by have := h.lt k hk; omega
        have hf : [j].filter (· ≠ k) = [j] := by simp [hkj]
        rw [hf] at hcn
        have toT : ∀ {x y : Int}, Cn (ed rs (T.filter (· ≠ k))) x y → Cn (ed rs T) x y := fun c => c.mono fun e he => by
          obtain ⟨i, hi, rfl⟩ := mem_ed.1 he
          exact mem_ed.2 ⟨i, (List.mem_filter.1 hi).1, rfl⟩
        have self : Cn (ed rs T) (rdA rs k).1 (rdA rs k).2 := .right (mem_ed.2 ⟨k, hk, rfl⟩) (.refl _)
        have cut := Cn.add (es := ed rs (T.filter (· ≠ k))) (a := (rdA rs j).1) (b := (rdA rs j).2) (fun e he => by
          obtain ⟨i, hi, rfl⟩ := mem_ed.1 he
          rcases List.mem_append.1 hi with hi | hi
          · exact .inl (mem_ed.2 ⟨i, hi, rfl⟩)
          · simp at hi; subst hi; exact .inr rfl) hcn
        rcases cut with c | ⟨c1, c2⟩ | ⟨c1, c2⟩
        · exact h.ind k hk c
        · exact hc (((toT c1).symm.trans self).trans (toT c2).symm)
        · exact hc (((toT c2).trans self.symm).trans (toT c1))
      · simp at hk
        subst hk
        have hf : [k].filter (· ≠ k) = [] := by simp
        have hT : T.filter (· ≠ k) = T := List.filter_eq_self.2 fun i hi => by have := h.lt i hi; simp; omega
        rw [hf, List.append_nil, hT] at hcn
        exact hc hcn
    · rcases Nat.lt_succ_iff_lt_or_eq.1 hk with hk | rfl
      · exact (h.span k hk).mono sub
      · exact .right (mem_ed.2 ⟨k, by simp, rfl⟩) (.refl _)
theorem fold_fst (rs : List Rd) : ∀ j, Fst rs j ((List.range j).foldl (gst rs) [])
  | 0 => ⟨by simp, by simp, by simp, fun k hk => absurd hk (Nat.not_lt_zero _)⟩
  | j + 1 => by
    rw [List.range_succ, List.foldl_append]
    exact (fold_fst rs j).step
theorem tree_fst (rs : List Rd) : Fst rs rs.length (tree rs) := fold_fst rs rs.length
theorem Fst.all {rs : List Rd} {T : List Nat} (h : Fst rs rs.length T) {x y : Int} (k : Cn rs x y) : Cn (ed rs T) x y := by
  induction k with
  | refl => exact .refl _
  | @right a b m _ ih =>
    obtain ⟨i, hi, e⟩ := List.mem_iff_getElem.1 m
    have := h.span i hi
    have er : rdA rs i = (a, b) := by unfold rdA; rw [List.getD_eq_getElem?_getD, List.getElem?_eq_getElem hi, e]; rfl
    rw [er] at this
    exact ih.trans this
  | @left a b m _ ih =>
    obtain ⟨i, hi, e⟩ := List.mem_iff_getElem.1 m
    have := h.span i hi
    have er : rdA rs i = (a, b) := by unfold rdA; rw [List.getD_eq_getElem?_getD, List.getElem?_eq_getElem hi, e]; rfl
    rw [er] at this
    exact ih.trans this.symm
/-! ### flows -/
/-- what comes to a house, less what goes -/
def endsAt : List Rd → List Int → Int → Int
  | (a, b) :: rs, x :: f, v => (if b = v then x else 0) - (if a = v then x else 0) + endsAt rs f v
  | _, _, _ => 0
/-- what crosses into a set of houses -/
def cross (S : Int → Bool) : List Rd → List Int → Int
  | (a, b) :: rs, x :: f => (if S b = true then x else 0) - (if S a = true then x else 0) + cross S rs f
  | _, _ => 0
theorem sum_pt (x v : Int) : ∀ S : List Int, S.Nodup → (S.map fun u => if v = u then x else 0).sum = if v ∈ S then x else 0
  | [], _ => by simp
  | u :: S, h => by
    have ih := sum_pt x v S (List.nodup_cons.1 h).2
    rw [List.map_cons, List.sum_cons, ih]
    by_cases e : v = u
    · subst e
      have := (List.nodup_cons.1 h).1
      simp [this]
    · simp [e]
theorem sum_add' (f g : Int → Int) : ∀ S : List Int, (S.map fun u => f u + g u).sum = (S.map f).sum + (S.map g).sum
  | [] => by simp
  | u :: S => by
    have ih := sum_add' f g S
    simp only [List.map_cons, List.sum_cons, ih]
    omega
theorem sum_sub' (f g : Int → Int) : ∀ S : List Int, (S.map fun u => f u - g u).sum = (S.map f).sum - (S.map g).sum
  | [] => by simp
  | u :: S => by
    have ih := sum_sub' f g S
    simp only [List.map_cons, List.sum_cons, ih]
    omega
theorem sum_ends (S : List Int) (hS : S.Nodup) : ∀ (rs : List Rd) (f : List Int), (S.map (endsAt rs f)).sum = cross (fun v => decide (v ∈ S)) rs f
  | [], f => by
    have : ∀ T : List Int, (T.map (endsAt [] f)).sum = 0 := fun T => by induction T with
      | nil => rfl
      | cons u T ih => rw [List.map_cons, List.sum_cons, ih]; rfl
    rw [this]; rfl
  | (a, b) :: rs, [] => by
    have : ∀ T : List Int, (T.map (endsAt ((a, b) :: rs) [])).sum = 0 := fun T => by induction T with
      | nil => rfl
      | cons u T ih => rw [List.map_cons, List.sum_cons, ih]; rfl
    rw [this]; rfl
  | (a, b) :: rs, x :: f => by
    have ih := sum_ends S hS rs f
    have e : endsAt ((a, b) :: rs) (x :: f) = fun v => ((if b = v then x else 0) - (if a = v then x else 0)) + endsAt rs f v := by funext v; rfl
    rw [e, sum_add', sum_sub', sum_pt x b S hS, sum_pt x a S hS, ih]
    simp [cross]
/-- only one road crosses -/
theorem cross_one (S : Int → Bool) : ∀ (rs : List Rd) (f : List Int) (k : Nat), f.length = rs.length → k < rs.length → S (rdA rs k).2 = true → S (rdA rs k).1 = false → (∀ j, j < rs.length → j ≠ k → f.getD j 0 = 0 ∨ S (rdA rs j).1 = S (rdA rs j).2) → cross S rs f = f.getD k 0
  | [], _, k, _, hk, _, _, _ => absurd hk (Nat.not_lt_zero _)
  | (a, b) :: rs, [], _, hl, _, _, _, _ => by simp at hl
  | (a, b) :: rs, x :: f, 0, hl, hk, h1, h2, h => by
    have zero : ∀ (rs : List Rd) (f : List Int), f.length = rs.length → (∀ j, j < rs.length → f.getD j 0 = 0 ∨ S (rdA rs j).1 = S (rdA rs j).2) → cross S rs f = 0 := by
      intro rs
      induction rs with
      | nil => intro f _ _; cases f <;> rfl
      | cons r rs ih =>
        intro f hl h
        obtain ⟨a, b⟩ := r
        cases f with
        | nil => rfl
        | cons x f =>
          have i1 := ih f (by simpa using hl) fun j hj => h (j + 1) (by simpa using hj)
          have h0 : x = 0 ∨ S a = S b := h 0 (by simp)
          show (if S b = true then x else 0) - (if S a = true then x else 0) + cross S rs f = 0
          rw [i1]
          rcases h0 with e | e
          · subst e; simp
          · rw [e]; simp
    have z := zero rs f (by simpa using hl) fun j hj => h (j + 1) (by simpa using hj) (by omega)
    have h1 : S b = true := h1
    have h2 : S a = false := h2
    show (if S b = true then x else 0) - (if S a = true then x else 0) + cross S rs f = x
    rw [z, h1, h2]
    simp
  | (a, b) :: rs, x :: f, k + 1, hl, hk, h1, h2, h => by
    have ih := cross_one S rs f k (by simpa using hl) (by simpa using hk) h1 h2 fun j hj hne => h (j + 1) (by simpa using hj) (by omega)
    have h0 : x = 0 ∨ S a = S b := h 0 (by simp) (by omega)
    show (if S b = true then x else 0) - (if S a = true then x else 0) + cross S rs f = f.getD k 0
    rw [ih]
    rcases h0 with e | e
    · subst e; simp
    · rw [e]; simp
/-- a flow on a forest is told by its ends -/
theorem tree_flow {rs : List Rd} {T : List Nat} {j : Nat} (h : Fst rs j T) {f : List Int} (hl : f.length = rs.length) (hs : ∀ i, i < rs.length → i ∉ T → f.getD i 0 = 0) {k : Nat} (hk : k ∈ T) (hkl : k < rs.length) {S : List Int} (hS : S.Nodup)
    (hm : ∀ v ∈ S, Cn (ed rs (T.filter (· ≠ k))) (rdA rs k).2 v) (hb : (rdA rs k).2 ∈ S) (hcl : ∀ i ∈ T, i ≠ k → ((rdA rs i).1 ∈ S ↔ (rdA rs i).2 ∈ S)) :
    (S.map (endsAt rs f)).sum = f.getD k 0 := by
  rw [sum_ends S hS]
  refine cross_one _ rs f k hl hkl (decide_eq_true hb) (decide_eq_false fun ha => ?_) fun i hi hne => ?_
  · exact h.ind k hk (hm _ ha).symm
  · by_cases hT : i ∈ T
    · right
      have := hcl i hT hne
      exact decide_eq_decide.2 this
    · exact .inl (hs i hi hT)
end VG
/-! the houses that one can get to, by a stack of what waits -/
namespace VG
/-- ints from 0 to n - 1 -/
def upTo (n : Nat) : List Int := (List.range n).map fun i : Nat => (i : Int)
theorem mem_upTo {n : Nat} {x : Int} : x ∈ upTo n ↔ 0 ≤ x ∧ x < n := by
  unfold upTo
  simp only [List.mem_map, List.mem_range]
  constructor
  · rintro ⟨i, hi, rfl⟩; omega
  · rintro ⟨h0, h1⟩; exact ⟨x.toNat, by omega, by omega⟩
theorem upTo_len (n : Nat) : (upTo n).length = n := by simp [upTo]
theorem upTo_nodup (n : Nat) : (upTo n).Nodup := by
  unfold upTo List.Nodup
  rw [List.pairwise_map]
  exact (List.nodup_range (n := n)).imp fun h e => h (by omega)
/-- a set of houses that holds just the component of house 0 -/
structure Comp (rs : List Rd) (n : Nat) (o : Int) (S : List Int) : Prop where
  nd : S.Nodup
  lim : ∀ x ∈ S, 0 ≤ x ∧ x < n
  zero : o ∈ S
  conn : ∀ x ∈ S, Cn rs o x
theorem Comp.le {rs : List Rd} {n : Nat} {o : Int} {S : List Int} (h : Comp rs n o S) : S.length ≤ n := by
  have := h.nd.length_le_of_subset (l₂ := upTo n) fun x hx => mem_upTo.2 (h.lim x hx)
  rw [upTo_len] at this
  exact this
/-! the other way: a stack of what waits -/
def oth (here a b : Int) : Int := if a = here then b else a
def rst (here : Int) (p : List Int × List Int) (r : Rd) : List Int × List Int := if (here = r.1 ∨ here = r.2) ∧ oth here r.1 r.2 ∉ p.1 then (p.1 ++ [oth here r.1 r.2], p.2 ++ [oth here r.1 r.2]) else p
def CloAt (rs : List Rd) (K : List Int) (x : Int) : Prop := ∀ a b, (a, b) ∈ rs → (a = x → b ∈ K) ∧ (b = x → a ∈ K)
structure RInv (rs : List Rd) (n : Nat) (o : Int) (K S : List Int) : Prop where
  comp : Comp rs n o K
  sub : ∀ x ∈ S, x ∈ K
  clo : ∀ x ∈ K, x ∈ S ∨ CloAt rs K x
theorem rfold {rs : List Rd} {n : Nat} {o here : Int} (hl : ∀ a b, (a, b) ∈ rs → 0 ≤ a ∧ a < n ∧ 0 ≤ b ∧ b < n) : ∀ (qs : List Rd) (p : List Int × List Int), (∀ r ∈ qs, r ∈ rs) → Comp rs n o p.1 → (∀ x ∈ p.2, x ∈ p.1) → here ∈ p.1 →
    let p' := qs.foldl (rst here) p
    Comp rs n o p'.1 ∧ (∀ x ∈ p'.2, x ∈ p'.1) ∧ (∀ x ∈ p.1, x ∈ p'.1) ∧ (∀ x ∈ p.2, x ∈ p'.2) ∧ (∀ x ∈ p'.1, x ∈ p.1 ∨ x ∈ p'.2) ∧ (∀ a b, (a, b) ∈ qs → (a = here → b ∈ p'.1) ∧ (b = here → a ∈ p'.1)) ∧ p'.1.length + p.2.length = p.1.length + p'.2.length
  | [], p, _, h1, h2, h3 => ⟨h1, h2, fun _ h => h, fun _ h => h, fun _ h => .inl h, by simp, by simp⟩
  | (a, b) :: qs, p, hs, h1, h2, h3 => by
    have hr : (a, b) ∈ rs := hs _ (by simp)
    have hab := hl a b hr
    rw [List.foldl_cons]
    have one : Comp rs n o (rst here p (a, b)).1 ∧ (∀ x ∈ (rst here p (a, b)).2, x ∈ (rst here p (a, b)).1) ∧ (∀ x ∈ p.1, x ∈ (rst here p (a, b)).1) ∧ (∀ x ∈ p.2, x ∈ (rst here p (a, b)).2) ∧ (∀ x ∈ (rst here p (a, b)).1, x ∈ p.1 ∨ x ∈ (rst here p (a, b)).2) ∧ ((a = here → b ∈ (rst here p (a, b)).1) ∧ (b = here → a ∈ (rst here p (a, b)).1)) ∧ (rst here p (a, b)).1.length + p.2.length = p.1.length + (rst here p (a, b)).2.length := by
      unfold rst
      by_cases h : (here = (a, b).1 ∨ here = (a, b).2) ∧ oth here (a, b).1 (a, b).2 ∉ p.1
      · rw [if_pos h]
        obtain ⟨h4, h5⟩ := h
        have ho : (oth here a b = b ∧ a = here) ∨ (oth here a b = a ∧ b = here) := by
          unfold oth
          by_cases e : a = here
          · rw [if_pos e]; exact .inl ⟨rfl, e⟩
          · rw [if_neg e]
            rcases h4 with h4 | h4
            · exact absurd h4.symm e
            · exact .inr ⟨rfl, h4.symm⟩
        have hlim : 0 ≤ oth here a b ∧ oth here a b < n := by rcases ho with ⟨e, _⟩ | ⟨e, _⟩ <;> rw [e] <;> omega
        have hconn : Cn rs o (oth here a b) := by
          rcases ho with ⟨e, e2⟩ | ⟨e, e2⟩ <;> rw [e]
          · exact .right hr (by rw [e2]; exact h1.conn _ h3)
          · exact .left hr (by rw [e2]; exact h1.conn _ h3)
        refine ⟨⟨?_, ?_, ?_, ?_⟩, ?_, ?_, ?_, ?_, ?_, ?_⟩
        · rw [List.nodup_append]
          exact ⟨h1.nd, by simp, by intro x hx y hy; simp at hy; subst hy; intro e; subst e; exact h5 hx⟩
        · intro x hx
          rcases List.mem_append.1 hx with hx | hx
          · exact h1.lim x hx
          · simp at hx; subst hx; exact hlim
        · exact List.mem_append.2 (.inl h1.zero)
        · intro x hx
          rcases List.mem_append.1 hx with hx | hx
          · exact h1.conn x hx
          · simp at hx; subst hx; exact hconn
        · intro x hx
          rcases List.mem_append.1 hx with hx | hx
          · exact List.mem_append.2 (.inl (h2 x hx))
          · exact List.mem_append.2 (.inr hx)
        · exact fun x hx => List.mem_append.2 (.inl hx)
        · exact fun x hx => List.mem_append.2 (.inl hx)
        · intro x hx
          rcases List.mem_append.1 hx with hx | hx
          · exact .inl hx
          · exact .inr (List.mem_append.2 (.inr hx))
        · simp only [List.mem_append, List.mem_singleton]
          constructor
          · intro e
            rcases ho with ⟨e1, _⟩ | ⟨e1, e2⟩
            · exact .inr e1.symm
            · left; rw [e2]; exact h3
          · intro e
            rcases ho with ⟨e1, e2⟩ | ⟨e1, _⟩
            · left; rw [e2]; exact h3
            · exact .inr e1.symm
        · simp; omega
      · rw [if_neg h]
        refine ⟨h1, h2, fun _ h => h, fun _ h => h, fun _ h => .inl h, ?_, rfl⟩
        constructor
        · intro e
          by_cases hb : b ∈ p.1
          · exact hb
          · exfalso; apply h; refine ⟨.inl e.symm, ?_⟩
            simp only [oth, e, if_true]; exact hb
        · intro e
          by_cases ha : a ∈ p.1
          · exact ha
          · exfalso; apply h; refine ⟨.inr e.symm, ?_⟩
            have : a ≠ here := fun e => ha (by rw [e]; exact h3)
            simp only [oth, this, if_false]; exact ha
    obtain ⟨c1, c2, c3, c4, c5, c6, c7⟩ := one
    obtain ⟨d1, d2, d3, d4, d5, d6, d7⟩ := rfold hl qs (rst here p (a, b)) (fun x hx => hs x (by simp [hx])) c1 c2 (c3 _ h3)
    refine ⟨d1, d2, fun x hx => d3 x (c3 x hx), fun x hx => d4 x (c4 x hx), ?_, ?_, by omega⟩
    · intro x hx
      rcases d5 x hx with h | h
      · rcases c5 x h with h | h
        · exact .inl h
        · exact .inr (d4 x h)
      · exact .inr h
    · intro a' b' hm
      rcases List.mem_cons.1 hm with e | hm
      · cases e
        exact ⟨fun e => d3 _ (c6.1 e), fun e => d3 _ (c6.2 e)⟩
      · exact d6 a' b' hm
/-- one turn of the while -/
theorem rturn {rs : List Rd} {n : Nat} {o : Int} {K S : List Int} {here : Int} (hl : ∀ a b, (a, b) ∈ rs → 0 ≤ a ∧ a < n ∧ 0 ≤ b ∧ b < n) (h : RInv rs n o K (S ++ [here])) :
    RInv rs n o (rs.foldl (rst here) (K, S)).1 (rs.foldl (rst here) (K, S)).2 ∧ 2 * (n - (rs.foldl (rst here) (K, S)).1.length) + (rs.foldl (rst here) (K, S)).2.length < 2 * (n - K.length) + (S ++ [here]).length := by
  have hh : here ∈ K := h.sub _ (by simp)
  obtain ⟨d1, d2, d3, d4, d5, d6, d7⟩ := rfold hl rs (K, S) (fun _ h => h) h.comp (fun x hx => h.sub x (by simp [hx])) hh
  refine ⟨⟨d1, d2, ?_⟩, ?_⟩
  · intro x hx
    rcases d5 x hx with hk | hk
    · rcases h.clo x hk with hs | hc
      · rcases List.mem_append.1 hs with hs | hs
        · exact .inl (d4 x hs)
        · simp at hs
          subst hs
          exact .inr d6
      · refine .inr fun a b hm => ?_
        exact ⟨fun e => d3 _ ((hc a b hm).1 e), fun e => d3 _ ((hc a b hm).2 e)⟩
    · exact .inl hk
  · have := d1.le
    have := h.comp.le
    have : ∀ x ∈ K, x ∈ (rs.foldl (rst here) (K, S)).1 := d3
    have := h.comp.nd.length_le_of_subset this
    simp only [List.length_append, List.length_singleton] at *
    omega
theorem rinv0 {rs : List Rd} {n : Nat} {o : Int} (h0 : 0 ≤ o) (h1 : o < n) : RInv rs n o [o] [o] :=
  ⟨⟨by simp, by intro x hx; simp at hx; omega, by simp, by intro x hx; simp at hx; subst hx; exact .refl _⟩, fun _ h => h, fun x h => .inl h⟩
theorem rinv_end {rs : List Rd} {n : Nat} {o : Int} {K : List Int} (h : RInv rs n o K []) : ∀ a b, (a, b) ∈ rs → (a ∈ K ↔ b ∈ K) := fun a b hm => by
  constructor
  · intro ha
    rcases h.clo a ha with z | z
    · simp at z
    · exact (z a b hm).1 rfl
  · intro ha
    rcases h.clo b ha with z | z
    · simp at z
    · exact (z a b hm).2 rfl
/-- what is found is just what can be got to -/
theorem rinv_all {rs : List Rd} {n : Nat} {o : Int} {K : List Int} (h : RInv rs n o K []) (x : Int) : x ∈ K ↔ Cn rs o x :=
  ⟨h.comp.conn x, fun c => c.stay (S := fun y => y ∈ K) (rinv_end h) h.comp.zero⟩
end VG
namespace VG
open PySem L2 VL
local macro_rules | `(tactic| simp! only [$ls,*]) => `(tactic| simp (implicitDefEqProofs := false) only [r_mutD, r_mdA, r_mdB, r_mdC, r_mdD, r_mdE, r_mdF, r_mdG, r_partE, r_ptA, r_ptB, r_ptC, r_ptD, r_ptE, r_ptF, r_ptG, r_lcBE, r_lbA, r_lbB, r_lbC, r_raiseS, r_finx, r_finX, r_tryS, r_tryn, r_tryr, r_tryx, r_catc, r_catt, r_catf, r_parP, r_parPK, r_parPC, r_puts0, r_putsc, r_evs0, r_evsv, r_evsK, r_evsL, r_evsR, r_evsr, r_bor, r_rds0, r_rdsc, r_cons, r_rdv, r_rdr, r_join, r_lift, r_nxO, r_primK, r_prim, r_feed, r_p1, r_p2, r_pb, r_kc, r_var, r_varc, r_varl, r_vark, r_varF, r_mov, r_movc, r_movl, r_movk, r_movt, r_movs, r_tst, r_tstK, r_asW, r_asK, r_andT, r_andC, r_orT, r_orC, r_notT, r_notC, r_ifE, r_ifC, r_andE, r_andK1, r_andK0, r_orE, r_orK0, r_orK1, r_notE, r_notK, r_frzE, r_frzW, r_frzK, r_intOf, r_intK, r_intE, r_intL, r_chain2, r_ch1, r_ch2, r_ch3, r_chain3, r_dh1, r_dh2, r_dh3, r_yes, r_take0, r_takev, r_taker, r_takeA, r_takeR, r_ref0, r_refv, r_refr, r_back0, r_backc, r_call, r_callK, r_callA, r_callB, r_callBx, r_callC, r_callX, r_kwE, r_kwK, r_kwA, r_kwB, r_kwC, r_kwCx, r_wsv0, r_wsvc, r_seqI, r_seqK, r_itl, r_itt, r_rngI, r_lcE, r_lcK, r_lcB, r_lc0, r_lcc, r_lcA, r_lcT, r_lcF, r_lcS, r_noX, r_wipe0, r_wipec, r_cold, r_cold0, r_coldc, r_bk0, r_bkc, r_walkE, r_walkF, r_srcl, r_srct, r_srck, r_forS, r_lp0, r_lpc, r_lpN, r_loopK, r_unpS, r_unpK, r_tgN, r_tgT, r_tgTl, r_tgsN, r_tgsC, r_asgS, r_asgK, r_retS, r_retK, r_ifS, r_ifK, r_dropS, r_dropK, r_seqS, r_skipS, r_par2, r_par2K, r_parS, r_parF, r_parK, r_sets0, r_setsc, r_putNew, r_disp, r_dispF, r_dispA, r_dispB, r_flat0, r_flatc, r_mutE, r_mutK, r_mutL, r_mutF, r_mutG, r_mutH, r_app, r_ext, r_extc, r_pop, r_popK, r_putS, r_putD, r_putA, r_putE, r_putB, r_putC, r_setl, r_setL, r_setk, r_setK, r_sett, r_setT, r_finn, r_finr, r_finA, r_pick0, r_pickc, r_pickA, r_tup, r_tupK, r_lst, r_lstK, r_len_l, r_len_cl, r_len_t, r_len_k, r_len_dt, r_len_s, r_len_x, r_isic, r_isil, r_isik, r_ix_t, r_ix_cl, r_ix_l, r_ix_k, r_ixK, r_keyi, r_keys, r_coldW, r_addi, r_addt, r_subi, r_muli, r_modi, r_divi, r_lti, r_lei, r_gti, r_gei, r_negi, r_inti, r_intb, r_cmp, r_isn, r_isnt, r_nfn, r_addcl, r_addll, r_addlc, r_addcc, r_addO, few, eq_self, small_line, colds_map, Int.cast_ofNat_Int, Int.natCast_zero, Int.natCast_one, b_ok, b_exn, b_no, t_ok, t_exn, t_no, sq_nx, sq_rt, sq_exn, sq_no, fz, fzAll, fzKV, keyD, isPl, kindW, kindD, eqi, eqb, neb, Bool.not_true, Bool.not_false, List.all, id, fz_colds, boolsD_map, at_0, at_1, at_2, ty_int_NoneType, ty_int_bool, ty_int_int, ty_int_str, ty_int_list, ty_int_tuple, ty_int_dict, ty_bool_NoneType, ty_bool_bool, ty_bool_int, ty_bool_str, ty_bool_list, ty_bool_tuple, ty_bool_dict, ty_str_NoneType, ty_str_bool, ty_str_int, ty_str_str, ty_str_list, ty_str_tuple, ty_str_dict, ty_tuple_NoneType, ty_tuple_bool, ty_tuple_int, ty_tuple_str, ty_tuple_list, ty_tuple_tuple, ty_tuple_dict, ty_list_NoneType, ty_list_bool, ty_list_int, ty_list_str, ty_list_list, ty_list_tuple, ty_list_dict, ty_dict_NoneType, ty_dict_bool, ty_dict_int, ty_dict_str, ty_dict_list, ty_dict_tuple, ty_dict_dict, colds, List.find?_cons, List.find?_nil, List.any_cons, List.any_nil, decide_true, decide_false, Nat.reduceLeDiff, Int.reduceEq, ne_eq, not_false_eq_true, Bool.or_true, Bool.true_or, Bool.false_or, Bool.or_false, Bool.false_eq_true, allG, anyG, boolsD, List.all_cons, List.all_nil, Bool.and_true, Bool.true_and, Bool.and_false, Bool.false_and, and_self, and_true, true_and, false_and, and_false, takeW, takeL, List.getElem?_cons_zero, List.getElem?_cons_succ, List.set_cons_zero, List.set_cons_succ, List.length_cons, List.length_nil, List.map_cons, List.map_nil, List.cons_append, List.nil_append, List.replicate_succ, List.replicate_zero, Nat.sub_self, Nat.zero_add, Nat.reduceSub, Nat.reduceAdd, if_true, if_false, Option.map_some, Option.map_none, Option.bind_some, List.append_nil, r_runD, $ls,*])
local macro_rules | `(tactic| simp! only [$ls,*] at $h:ident) => `(tactic| simp (implicitDefEqProofs := false) only [r_mutD, r_mdA, r_mdB, r_mdC, r_mdD, r_mdE, r_mdF, r_mdG, r_partE, r_ptA, r_ptB, r_ptC, r_ptD, r_ptE, r_ptF, r_ptG, r_lcBE, r_lbA, r_lbB, r_lbC, r_raiseS, r_finx, r_finX, r_tryS, r_tryn, r_tryr, r_tryx, r_catc, r_catt, r_catf, r_parP, r_parPK, r_parPC, r_puts0, r_putsc, r_evs0, r_evsv, r_evsK, r_evsL, r_evsR, r_evsr, r_bor, r_rds0, r_rdsc, r_cons, r_rdv, r_rdr, r_join, r_lift, r_nxO, r_primK, r_prim, r_feed, r_p1, r_p2, r_pb, r_kc, r_var, r_varc, r_varl, r_vark, r_varF, r_mov, r_movc, r_movl, r_movk, r_movt, r_movs, r_tst, r_tstK, r_asW, r_asK, r_andT, r_andC, r_orT, r_orC, r_notT, r_notC, r_ifE, r_ifC, r_andE, r_andK1, r_andK0, r_orE, r_orK0, r_orK1, r_notE, r_notK, r_frzE, r_frzW, r_frzK, r_intOf, r_intK, r_intE, r_intL, r_chain2, r_ch1, r_ch2, r_ch3, r_chain3, r_dh1, r_dh2, r_dh3, r_yes, r_take0, r_takev, r_taker, r_takeA, r_takeR, r_ref0, r_refv, r_refr, r_back0, r_backc, r_call, r_callK, r_callA, r_callB, r_callBx, r_callC, r_callX, r_kwE, r_kwK, r_kwA, r_kwB, r_kwC, r_kwCx, r_wsv0, r_wsvc, r_seqI, r_seqK, r_itl, r_itt, r_rngI, r_lcE, r_lcK, r_lcB, r_lc0, r_lcc, r_lcA, r_lcT, r_lcF, r_lcS, r_noX, r_wipe0, r_wipec, r_cold, r_cold0, r_coldc, r_bk0, r_bkc, r_walkE, r_walkF, r_srcl, r_srct, r_srck, r_forS, r_lp0, r_lpc, r_lpN, r_loopK, r_unpS, r_unpK, r_tgN, r_tgT, r_tgTl, r_tgsN, r_tgsC, r_asgS, r_asgK, r_retS, r_retK, r_ifS, r_ifK, r_dropS, r_dropK, r_seqS, r_skipS, r_par2, r_par2K, r_parS, r_parF, r_parK, r_sets0, r_setsc, r_putNew, r_disp, r_dispF, r_dispA, r_dispB, r_flat0, r_flatc, r_mutE, r_mutK, r_mutL, r_mutF, r_mutG, r_mutH, r_app, r_ext, r_extc, r_pop, r_popK, r_putS, r_putD, r_putA, r_putE, r_putB, r_putC, r_setl, r_setL, r_setk, r_setK, r_sett, r_setT, r_finn, r_finr, r_finA, r_pick0, r_pickc, r_pickA, r_tup, r_tupK, r_lst, r_lstK, r_len_l, r_len_cl, r_len_t, r_len_k, r_len_dt, r_len_s, r_len_x, r_isic, r_isil, r_isik, r_ix_t, r_ix_cl, r_ix_l, r_ix_k, r_ixK, r_keyi, r_keys, r_coldW, r_addi, r_addt, r_subi, r_muli, r_modi, r_divi, r_lti, r_lei, r_gti, r_gei, r_negi, r_inti, r_intb, r_cmp, r_isn, r_isnt, r_nfn, r_addcl, r_addll, r_addlc, r_addcc, r_addO, few, eq_self, small_line, colds_map, Int.cast_ofNat_Int, Int.natCast_zero, Int.natCast_one, b_ok, b_exn, b_no, t_ok, t_exn, t_no, sq_nx, sq_rt, sq_exn, sq_no, fz, fzAll, fzKV, keyD, isPl, kindW, kindD, eqi, eqb, neb, Bool.not_true, Bool.not_false, List.all, id, fz_colds, boolsD_map, at_0, at_1, at_2, ty_int_NoneType, ty_int_bool, ty_int_int, ty_int_str, ty_int_list, ty_int_tuple, ty_int_dict, ty_bool_NoneType, ty_bool_bool, ty_bool_int, ty_bool_str, ty_bool_list, ty_bool_tuple, ty_bool_dict, ty_str_NoneType, ty_str_bool, ty_str_int, ty_str_str, ty_str_list, ty_str_tuple, ty_str_dict, ty_tuple_NoneType, ty_tuple_bool, ty_tuple_int, ty_tuple_str, ty_tuple_list, ty_tuple_tuple, ty_tuple_dict, ty_list_NoneType, ty_list_bool, ty_list_int, ty_list_str, ty_list_list, ty_list_tuple, ty_list_dict, ty_dict_NoneType, ty_dict_bool, ty_dict_int, ty_dict_str, ty_dict_list, ty_dict_tuple, ty_dict_dict, colds, List.find?_cons, List.find?_nil, List.any_cons, List.any_nil, decide_true, decide_false, Nat.reduceLeDiff, Int.reduceEq, ne_eq, not_false_eq_true, Bool.or_true, Bool.true_or, Bool.false_or, Bool.or_false, Bool.false_eq_true, allG, anyG, boolsD, List.all_cons, List.all_nil, Bool.and_true, Bool.true_and, Bool.and_false, Bool.false_and, and_self, and_true, true_and, false_and, and_false, takeW, takeL, List.getElem?_cons_zero, List.getElem?_cons_succ, List.set_cons_zero, List.set_cons_succ, List.length_cons, List.length_nil, List.map_cons, List.map_nil, List.cons_append, List.nil_append, List.replicate_succ, List.replicate_zero, Nat.sub_self, Nat.zero_add, Nat.reduceSub, Nat.reduceAdd, if_true, if_false, Option.map_some, Option.map_none, Option.bind_some, List.append_nil, r_runD, $ls,*] at $h:ident)
def rdD (r : Rd) : PyData := .tuple [.int r.1, .int r.2]
def Lim (rs : List Rd) (n : Nat) : Prop := ∀ a b, (a, b) ∈ rs → 0 ≤ a ∧ a < n ∧ 0 ≤ b ∧ b < n
theorem fz_ints : ∀ gs : List Int, fzAll (gs.map fun g => W.c (.int g)) = some (gs.map .int)
  | [] => rfl
  | g :: r => by
    rw [List.map_cons]
    unfold fzAll
    rw [fz_ints r]
    rfl
theorem lay_ints : ∀ gs : List Int, PyData.canLayAll0 (gs.map .int) = true ∧ PyData.depthAll (gs.map .int) = 0
  | [] => ⟨rfl, rfl⟩
  | g :: r => by
    obtain ⟨h1, h2⟩ := lay_ints r
    constructor
    · rw [List.map_cons, PyData.canLayAll0, h1]; rfl
    · rw [List.map_cons, PyData.depthAll, h2]; rfl
theorem ints_len (xs : List Int) : (xs.map fun x => W.c (PyData.int x)).length = xs.length := by simp
theorem shaped_ints (gs : List Int) : SeqAt.shaped (.list (gs.map .int)) = true := by
  unfold SeqAt.shaped
  simp only [PyData.canLay0, (lay_ints gs).1, PyData.depth, (lay_ints gs).2]
  decide
theorem colds_ints : ∀ xs : List Int, colds (xs.map fun x => W.c (.int x)) = some (xs.map .int)
  | [] => rfl
  | x :: r => by
    have ih := colds_ints r
    simp_all [colds]
theorem any_ints (a : Int) : ∀ xs : List Int, ((xs.map PyData.int).any fun z => PyData.eqv z (.int a)) = decide (a ∈ xs)
  | [] => rfl
  | x :: r => by
    have ih := any_ints a r
    rw [List.map_cons, List.any_cons, ih]
    by_cases h : x = a
    · subst h; simp [PyData.eqv]
    · have h' : ¬ a = x := fun e => h e.symm
      simp [PyData.eqv, h, h']
theorem in_ints (a : Int) (xs : List Int) : inF2 (.c (.int a)) (.l (xs.map fun x => .c (.int x))) = some (decide (a ∈ xs)) := by
  unfold inF2
  simp only [colds_ints, inSeq, fz, sh_int, shaped_ints, Bool.and_self, if_true, any_ints]
theorem ap_ints (xs : List Int) (x : Int) : (xs.map fun x => W.c (.int x)) ++ [W.c (.int x)] = (xs ++ [x]).map fun x => W.c (.int x) := by simp
def kD (K : List Int) : List (Key × W) := K.map fun k => (.inl k, .c (.bool true))
theorem any_kD (o : Int) : ∀ K : List Int, ((kD K).any fun kv => decide (kv.1 = (Sum.inl o : Key))) = decide (o ∈ K)
  | [] => rfl
  | k :: K => by
    have ih := any_kD o K
    unfold kD at ih ⊢
    rw [List.map_cons, List.any_cons, ih]
    by_cases h : k = o
    · subst h; simp
    · have h' : ¬ o = k := fun e => h e.symm
      simp [h, h']
theorem look_kD (o : Int) (K : List Int) : (lookW (kD K) (Sum.inl o)).isSome = decide (o ∈ K) := by
  rw [← any_kD o K]
  unfold lookW
  rw [Option.isSome_map, List.isSome_find?]
theorem put_kD (o : Int) (K : List Int) (h : o ∉ K) : putW (kD K) (Sum.inl o) (.c (.bool true)) = kD (K ++ [o]) := by
  unfold putW
  rw [any_kD o K, decide_eq_false h]
  simp [kD]
theorem notin_kD (o : Int) (K : List Int) : notInF2 (.c (.int o)) (.dk (kD K)) = some (!decide (o ∈ K)) := by
  unfold notInF2 inF2
  simp only [keyOf, Option.map_some, look_kD]
theorem in_kD (o : Int) (K : List Int) : inF2 (.c (.int o)) (.dk (kD K)) = some (decide (o ∈ K)) := by
  unfold inF2
  simp only [keyOf, Option.map_some, look_kD]
theorem in_two (h a b : Int) : inF2 (.c (.int h)) (.c (.tuple [.int a, .int b])) = some (decide (h = a ∨ h = b)) := by
  have hs : SeqAt.shaped (.tuple [.int a, .int b]) = true := by
    unfold SeqAt.shaped
    simp [PyData.canLay0, PyData.canLayAll0, PyData.depth, PyData.depthAll]
  unfold inF2 inSeq
  simp only [fz, sh_int, hs, Bool.and_self, if_true, List.any_cons, List.any_nil, PyData.eqv, Bool.or_false]
  by_cases h1 : a = h
  · subst h1; simp
  · have h1' : ¬ h = a := fun e => h1 e.symm
    by_cases h2 : b = h
    · subst h2; simp
    · have h2' : ¬ h = b := fun e => h2 e.symm
      simp [h1, h1', h2, h2']
noncomputable def rBody : VL.Env → RS := (seqS (asgS 8 (frzE (ifE (tst (prim (PB eqF2) [(.bor 6), (.bor 5)])) (var 7) (var 6)))) (ifS (andT (tst (prim (PB inF2) [(.bor 5), (.val (prim tupF [(.val (var 6)), (.val (var 7))]))])) (tst (prim (PB notInF2) [(.bor 8), (.bor 3)]))) (seqS (putS 3 (kc (.bool true)) (var 8)) (dropS (mutE appM 4 [(.val (var 8))]))) skipS))
theorem rbody_s (n r h x9 : Option W) (K S : List Int) (here a b : Int) (x : Option W) (hK : K.length ≤ 900) (hS : S.length ≤ 900) : rBody [n, r, h, some (.dk (kD K)), some (.l (S.map fun x => .c (.int x))), some (.c (.int here)), some (.c (.int a)), some (.c (.int b)), x, x9] =
    .nx [n, r, h, some (.dk (kD (rst here (K, S) (a, b)).1)), some (.l ((rst here (K, S) (a, b)).2.map fun x => .c (.int x))), some (.c (.int here)), some (.c (.int a)), some (.c (.int b)), some (.c (.int (oth here a b))), x9] := by
  have l1 : (kD K).length ≤ 1000 := by simp [kD]; omega
  have l2 : (S.map fun x => W.c (PyData.int x)).length ≤ 1000 := by simp; omega
  unfold rBody
  have hi0 : decide (here = a ∨ here = b) = true ∨ decide (here = a ∨ here = b) = false := by cases decide (here = a ∨ here = b) <;> simp
  by_cases e : a = here
  · have ed : decide (a = here) = true := decide_eq_true e
    have eo : oth here a b = b := by simp [oth, e]
    by_cases hi : here = a ∨ here = b
    · by_cases hk : b ∈ K
      · have er : rst here (K, S) (a, b) = (K, S) := by simp [rst, eo, hk]
        have hid := decide_eq_true hi
        simp! only [ed, in_two, notin_kD, hid, hk, er, eo]
      · have er : rst here (K, S) (a, b) = (K ++ [b], S ++ [b]) := by simp [rst, eo, hk, hi]
        have hid := decide_eq_true hi
        simp! only [ed, in_two, notin_kD, hid, hk, er, eo, l1, l2, put_kD, ap_ints]
    · exact absurd (.inl e.symm) hi
  · have ed : decide (a = here) = false := decide_eq_false e
    have eo : oth here a b = a := by simp [oth, e]
    by_cases hi : here = a ∨ here = b
    · by_cases hk : a ∈ K
      · have er : rst here (K, S) (a, b) = (K, S) := by simp [rst, eo, hk]
        have hid := decide_eq_true hi
        simp! only [ed, in_two, notin_kD, hid, hk, er, eo]
      · have er : rst here (K, S) (a, b) = (K ++ [a], S ++ [a]) := by simp [rst, eo, hk, hi]
        have hid := decide_eq_true hi
        simp! only [ed, in_two, notin_kD, hid, hk, er, eo, l1, l2, put_kD, ap_ints]
    · have er : rst here (K, S) (a, b) = (K, S) := by simp [rst, hi]
      have hid := decide_eq_false hi
      simp! only [ed, in_two, notin_kD, hid, er, eo]
theorem rst_len (here : Int) (p : List Int × List Int) (r : Int × Int) : (rst here p r).1.length ≤ p.1.length + 1 ∧ (rst here p r).2.length ≤ p.2.length + 1 := by
  unfold rst; split <;> simp
theorem rloop (n r h x9 : Option W) (here : Int) : ∀ (rs : List Rd) (K S : List Int) (x y z : Option W), K.length + rs.length ≤ 900 → S.length + rs.length ≤ 900 → ∃ x' y' z', loopS (tgT 2 (tgsC (tgN 6) (tgsC (tgN 7) tgsN))) rBody (rs.map rdD) [n, r, h, some (.dk (kD K)), some (.l (S.map fun x => .c (.int x))), some (.c (.int here)), x, y, z, x9] =
    .nx [n, r, h, some (.dk (kD (rs.foldl (rst here) (K, S)).1)), some (.l ((rs.foldl (rst here) (K, S)).2.map fun x => .c (.int x))), some (.c (.int here)), x', y', z', x9]
  | [], K, S, x, y, z, _, _ => ⟨x, y, z, rfl⟩
  | (a, b) :: rs, K, S, x, y, z, h1, h2 => by
    rw [List.length_cons] at h1 h2
    have hl := rst_len here (K, S) (a, b)
    simp only at hl
    obtain ⟨x', y', z', ih⟩ := rloop n r h x9 here rs (rst here (K, S) (a, b)).1 (rst here (K, S) (a, b)).2 (some (.c (.int a))) (some (.c (.int b))) (some (.c (.int (oth here a b)))) (by omega) (by omega)
    refine ⟨x', y', z', ?_⟩
    rw [List.map_cons, List.foldl_cons]
    unfold loopS
    have ht : (tgT 2 (tgsC (tgN 6) (tgsC (tgN 7) tgsN))) (rdD (a, b)) [n, r, h, some (.dk (kD K)), some (.l (S.map fun x => .c (.int x))), some (.c (.int here)), x, y, z, x9] = some [n, r, h, some (.dk (kD K)), some (.l (S.map fun x => .c (.int x))), some (.c (.int here)), some (.c (.int a)), some (.c (.int b)), z, x9] := rfl
    rw [ht]
    simp only [rbody_s n r h x9 K S here a b z (by omega) (by omega), RS.seq]
    exact ih
theorem ne_nil (xs : List Int) : neF2 (.l (xs.map fun x => .c (.int x))) (.l []) = some (!xs.isEmpty) := by
  have hs := shaped_ints xs
  have h0 : SeqAt.shaped (.list []) = true := by decide
  have he : PyData.eqv (.list (xs.map .int)) (.list []) = xs.isEmpty := by cases xs <;> rfl
  unfold neF2 eqF2
  simp only [fz, fz_ints, fzAll, Option.map_some, hs, h0, he, Bool.and_self, if_true]
theorem last_ints (S : List Int) (x : Int) : ((S ++ [x]).map fun x => W.c (PyData.int x))[((S ++ [x]).map fun x => W.c (PyData.int x)).length - 1]? = some (.c (.int x)) := by
  simp
theorem drop_ints (S : List Int) (x : Int) : ((S ++ [x]).map fun x => W.c (PyData.int x)).dropLast = S.map fun x => W.c (PyData.int x) := by
  simp
theorem snoc {α : Type} (xs : List α) (h : xs ≠ []) : ∃ S x, xs = S ++ [x] := ⟨xs.dropLast, xs.getLast h, (List.dropLast_concat_getLast h).symm⟩
theorem range_ints (n : Nat) : rangeD 0 (n : Int) = (upTo n).map .int := by
  unfold rangeD upTo
  rw [List.map_map]
  simp only [Int.sub_zero, Int.toNat_natCast]
  apply List.map_congr_left
  intro i _
  simp
theorem rlc (n r h y4 y5 y6 y7 y8 : Option W) (K : List Int) : ∀ xs : List Int, lcLoop [9] (tgN 9) (tst (prim (PB inF2) [.bor 9, .bor 3])) (var 9) (xs.map .int) [n, r, h, some (.dk (kD K)), y4, y5, y6, y7, y8, none] = .ok ((xs.filter fun x => decide (x ∈ K)).map .int) [n, r, h, some (.dk (kD K)), y4, y5, y6, y7, y8, none]
  | [] => rfl
  | x :: xs => by
    have ih := rlc n r h y4 y5 y6 y7 y8 K xs
    rw [List.map_cons]
    by_cases hx : x ∈ K
    · simp! only [in_kD, hx, ih, List.filter_cons]
    · simp! only [in_kD, hx, ih, List.filter_cons]
noncomputable def rTest : VL.Env → R Bool := tst (prim (PB neF2) [(.bor 4), (.val (prim lstF []))])
noncomputable def rTurn : VL.Env → RS := (seqS (asgS 5 (frzE (mutE popM 4 []))) (forS (seqI (var 1)) (tgT 2 (tgsC (tgN 6) (tgsC (tgN 7) tgsN))) rBody))
theorem rtest_s (a b c d x y z u v : Option W) (S : List Int) : rTest [a, b, c, d, some (.l (S.map fun x => .c (.int x))), x, y, z, u, v] = .ok (!S.isEmpty) [a, b, c, d, some (.l (S.map fun x => .c (.int x))), x, y, z, u, v] := by
  have hne := ne_nil S
  unfold rTest
  simp! only [hne]
theorem rturn_s (a c x y z u : Option W) {rd : PyData} {rs : List Rd} (hrd : itemsOf rd = some (rs.map rdD)) (K S : List Int) (here : Int) (h1 : K.length + rs.length ≤ 900) (h2 : S.length + rs.length ≤ 900) : ∃ x' y' z', rTurn [a, some (.c rd), c, some (.dk (kD K)), some (.l ((S ++ [here]).map fun x => .c (.int x))), x, y, z, u, none] =
    .nx [a, some (.c rd), c, some (.dk (kD (rs.foldl (rst here) (K, S)).1)), some (.l ((rs.foldl (rst here) (K, S)).2.map fun x => .c (.int x))), some (.c (.int here)), x', y', z', none] := by
  obtain ⟨x', y', z', e⟩ := rloop a (some (.c rd)) c none here rs K S y z u h1 h2
  refine ⟨x', y', z', ?_⟩
  unfold rTurn
  simp! only [last_ints, drop_ints, hrd, e]
theorem rwhile {rd : PyData} {rs : List Rd} (hrd : itemsOf rd = some (rs.map rdD)) (n : Nat) (o : Int) (h0 : 0 ≤ o) (h1 : o < n) (hn2 : n ≤ 100) (hr : rs.length ≤ 400) (hl : Lim rs n) (a c : Option W) :
    ∃ (K : List Int) (x y z u : Option W), whileS rTest rTurn [a, some (.c rd), c, some (.dk (kD [o])), some (.l (([o] : List Int).map fun x => .c (.int x))), none, none, none, none, none] = .nx [a, some (.c rd), c, some (.dk (kD K)), some (.l []), x, y, z, u, none] ∧ RInv rs n o K [] := by
  have hw := while_inv (t := rTest) (b := rTurn)
    (I := fun m ρ => ∃ (K S : List Int) (x y z u : Option W), ρ = [a, some (.c rd), c, some (.dk (kD K)), some (.l (S.map fun x => .c (.int x))), x, y, z, u, none] ∧ RInv rs n o K S ∧ S.length ≤ 2 * n ∧ m = 2 * (n - K.length) + S.length ∧ m ≤ 2 * n)
    (Q := fun ρ => ∃ (K : List Int) (x y z u : Option W), ρ = [a, some (.c rd), c, some (.dk (kD K)), some (.l []), x, y, z, u, none] ∧ RInv rs n o K [])
    (by
      rintro m ρ ⟨K, S, x, y, z, u, rfl, hI, hS, rfl, hm⟩
      by_cases hs : S = []
      · subst hs
        exact .inl ⟨_, rtest_s .., K, x, y, z, u, rfl, hI⟩
      · obtain ⟨S', here, rfl⟩ := snoc S hs
        have hle := hI.comp.le
        have hb : (!(S' ++ [here]).isEmpty) = true := by simp
        have e1 := rtest_s a (some (.c rd)) c (some (.dk (kD K))) x y z u none (S' ++ [here])
        rw [hb] at e1
        rw [List.length_append, List.length_singleton] at hS hm
        obtain ⟨x', y', z', e⟩ := rturn_s a c x y z u hrd K S' here (by omega) (by omega)
        obtain ⟨h1, h2⟩ := rturn hl hI
        rw [List.length_append, List.length_singleton] at h2
        refine .inr ⟨_, _, _, e1, e, ?_, ⟨_, _, _, x', y', z', rfl, h1, ?_, rfl, ?_⟩⟩
        · rw [List.length_append, List.length_singleton]; exact h2
        · omega
        · omega)
  obtain ⟨ρ', e, K, x, y, z, u, rfl, hI⟩ := hw _ _ ⟨[o], [o], none, none, none, none, rfl, rinv0 h0 h1, by simp; omega, rfl, by simp; omega⟩
  exact ⟨K, x, y, z, u, e, hI⟩
theorem t2 (n : Int) (h : -(2 ^ 62) ≤ n ∧ n < 2 ^ 62) : rng1 [.c (.int n)] = some (rangeD 0 n) := by
  unfold rng1
  simp only [if_pos h]
theorem rng1_s (n : Nat) (h : n ≤ 1000000) : rng1 [.c (.int n)] = some ((upTo n).map .int) := by
  rw [t2 n (by omega), range_ints]
noncomputable def gReached : VL.Env → RS := (seqS (parS [3, 4] [.val (dispE (flatO [((var 2), (kc (.bool true)))])), .val (prim lstF [(.val (var 2))])]) (seqS (whileS (tst (prim (PB neF2) [(.bor 4), (.val (prim lstF []))])) (seqS (asgS 5 (frzE (mutE popM 4 []))) (forS (seqI (var 1)) (tgT 2 (tgsC (tgN 6) (tgsC (tgN 7) tgsN))) (seqS (asgS 8 (frzE (ifE (tst (prim (PB eqF2) [(.bor 6), (.bor 5)])) (var 7) (var 6)))) (ifS (andT (tst (prim (PB inF2) [(.bor 5), (.val (prim tupF [(.val (var 6)), (.val (var 7))]))])) (tst (prim (PB notInF2) [(.bor 8), (.bor 3)]))) (seqS (putS 3 (kc (.bool true)) (var 8)) (dropS (mutE appM 4 [(.val (var 8))]))) skipS))))) (retS (lcE [9] (rngI rng1 [(.val (var 0))]) (tgN 9) (tst (prim (PB inF2) [(.bor 9), (.bor 3)])) (var 9)))))
/-- the houses that one can get to, ascending -/
theorem reached_s {rd : PyData} {rs : List Rd} (hrd : itemsOf rd = some (rs.map rdD)) (n : Nat) (o : Int) (h0 : 0 ≤ o) (h1 : o < n) (hn2 : n ≤ 100) (hr : rs.length ≤ 400) (hl : Lim rs n) :
    ∃ xs : List Int, runD 10 [] gReached [.c (.int n), .c rd, .c (.int o)] = .ok (.l (xs.map fun x => .c (.int x))) [] ∧ xs.Pairwise (· < ·) ∧ ∀ x, x ∈ xs ↔ (0 ≤ x ∧ x < n ∧ Cn rs o x) := by
  obtain ⟨K, x, y, z, u, e, hI⟩ := rwhile hrd n o h0 h1 hn2 hr hl (some (.c (.int n))) (some (.c (.int o)))
  refine ⟨(upTo n).filter fun x => decide (x ∈ K), ?_, ?_, fun x => ?_⟩
  · have e' := e
    simp only [rTest, rTurn, rBody, kD, List.map_cons, List.map_nil] at e'
    have hlc := rlc (some (.c (.int n))) (some (.c rd)) (some (.c (.int o))) (some (.l [])) x y z u K (upTo n)
    simp only [kD] at hlc
    have c1 := rng1_s n (by omega)
    have c2 : ((upTo n).map PyData.int).length ≤ sizeLine := by rw [List.length_map, upTo_len]; exact small_line (by omega)
    have nd : ([Sum.inl o] : List Key).Nodup := by simp
    unfold gReached
    simp! only [e', pairW, nd, c1, c2, hlc, List.map_map, Function.comp_def]
  · refine List.Pairwise.filter _ ?_
    unfold upTo
    rw [List.pairwise_map]
    exact List.pairwise_lt_range.imp fun h => by omega
  · rw [List.mem_filter, mem_upTo, decide_eq_true_eq, rinv_all hI x]
    constructor
    · rintro ⟨⟨a, b⟩, c⟩; exact ⟨a, b, c⟩
    · rintro ⟨a, b, c⟩; exact ⟨⟨a, b⟩, c⟩
/-! ### the deck -/
def deckL (gs : List Int) (m t : Int) : List (Key × W) := [(.inr "great", .l (gs.map fun g => .c (.int g))), (.inr "mixed", .c (.int m)), (.inr "turns", .c (.int t))]
def deckW (gs : List Int) (m t : Int) : W := .dk (deckL gs m t)
def Deck (w : W) : Prop := ∃ (gs : List Int) (m t : Int), gs.length ≤ 900 ∧ w = deckW gs m t
section
variable (gs : List Int) (m t x : Int)
theorem k1 : (Str.ofString "great" = Str.ofString "turns") = False := eq_false (by decide)
theorem k2 : (Str.ofString "great" = Str.ofString "mixed") = False := eq_false (by decide)
theorem k3 : (Str.ofString "mixed" = Str.ofString "turns") = False := eq_false (by decide)
theorem k4 : (Str.ofString "turns" = Str.ofString "mixed") = False := eq_false (by decide)
theorem dk_mixed : lookW (deckL gs m t) (.inr "mixed") = some (.c (.int m)) := by simp [lookW, deckL, List.find?_cons, Sum.inr.injEq, k1, k2, k3, k4]
theorem dk_turns : lookW (deckL gs m t) (.inr "turns") = some (.c (.int t)) := by simp [lookW, deckL, List.find?_cons, Sum.inr.injEq, k1, k2, k3, k4]
theorem dk_pmixed : putW (deckL gs m t) (.inr "mixed") (.c (.int x)) = deckL gs x t := by simp [putW, deckL, Sum.inr.injEq, k1, k2, k3, k4]
theorem dk_pturns : putW (deckL gs m t) (.inr "turns") (.c (.int x)) = deckL gs m x := by simp [putW, deckL, Sum.inr.injEq, k1, k2, k3, k4]
theorem dk_len : (deckL gs m t).length ≤ 1000 := by simp [deckL]
theorem dk_spot : spotW (.dk (deckL gs m t)) (.c (.str "great")) = some 0 := by
  unfold spotW
  simp only [r_keys, Option.bind_some, deckL, List.findIdx?_cons, decide_true, if_true]
theorem dk_list : listAt (.dk (deckL gs m t)) 0 = true := rfl
theorem dk_part : partAt (.dk (deckL gs m t)) 0 = some (.l (gs.map fun g => .c (.int g))) := rfl
theorem dk_app (h : gs.length ≤ 1000) : partM 0 appM (.dk (deckL gs m t)) [.c (.int x)] = some (.dk (deckL (gs ++ [x]) m t), .c .none) := by
  unfold partM
  have e : partsW (.dk (deckL gs m t)) = some [.l (gs.map fun g => .c (.int g)), .c (.int m), .c (.int t)] := rfl
  have f : few (gs.map fun g => W.c (.int g)).length = true := by rw [List.length_map]; exact decide_eq_true h
  rw [e]
  simp only [List.getElem?_cons_zero, r_app, f, if_true, ap_ints]
  rfl
theorem dk_pop (h : gs[gs.length - 1]? = some x) : partM 0 popM (.dk (deckL gs m t)) [] = some (.dk (deckL gs.dropLast m t), .c (.int x)) := by
  unfold partM
  have e : partsW (.dk (deckL gs m t)) = some [.l (gs.map fun g => .c (.int g)), .c (.int m), .c (.int t)] := rfl
  have f : (gs.map fun g => W.c (PyData.int g))[(gs.map fun g => W.c (PyData.int g)).length - 1]? = some (.c (.int x)) := by
    rw [List.length_map, List.getElem?_map, h]
    rfl
  rw [e]
  simp only [List.getElem?_cons_zero, r_pop, f, r_popK, ← List.map_dropLast]
  rfl
theorem ne_ints : neF2 (.l (gs.map fun g => .c (.int g))) (.l []) = some (!gs.isEmpty) := by
  have h0 : SeqAt.shaped (.list []) = true := by decide
  have he : PyData.eqv (.list (gs.map .int)) (.list []) = gs.isEmpty := by cases gs <;> rfl
  unfold neF2 eqF2
  simp only [fz, fz_ints, fzAll, Option.map_some, shaped_ints, h0, he, Bool.and_self, if_true]
end
theorem mulA_r (i j : Int) (h : j.natAbs < 2 ^ 64) : CMulA i j := .inl (.inr h)
theorem mulA_l (i j : Int) (h : i.natAbs < 2 ^ 64) : CMulA i j := .inl (.inl h)
theorem fmod_lt (a m : Int) (h : 0 < m) : 0 ≤ a.fmod m ∧ a.fmod m < m := ⟨Int.fmod_nonneg_of_pos a h, Int.fmod_lt_of_pos a h⟩
noncomputable def gDraw : VL.Env → RS := (seqS (ifS (tst (prim (PB ltF2) [(.bor 1), (.val (kc (.int 2)))])) (retS (kc (.int 0))) skipS) (seqS (ifS (tst (partE (PB neF2) 0 (kc (.str "great")) [(.val (prim lstF []))])) (seqS (asgS 3 (frzE (mutD popM 0 (kc (.str "great")) []))) (seqS (ifS (tst (prim (PB geF2) [(.bor 3), (.bor 1)])) (dropS (mutD appM 0 (kc (.str "great")) [(.val (frzE (prim (P2 fdivF2) [(.bor 3), (.bor 1)])))])) skipS) (retS (prim (P2 modF2) [(.val (prim (P1 intF) [(.bor 3)])), (.bor 1)])))) skipS) (seqS (putS 0 (frzE (prim (P2 addF2) [(.val (prim (P2 ixF2) [(.bor 0), (.val (kc (.str "turns")))])), (.val (kc (.int 1)))])) (kc (.str "turns"))) (seqS (asgS 2 (prim (P2 modF2) [(.val (prim (P1 intF) [(.val (prim (P2 addF2) [(.val (prim (P2 ixF2) [(.bor 0), (.val (kc (.str "mixed")))])), (.val (prim (P2 mulF2) [(.val (kc (.int 2654435761))), (.val (prim (P2 ixF2) [(.bor 0), (.val (kc (.str "turns")))]))]))]))])), (.val (kc (.int 4294967279)))])) (seqS (asgS 2 (prim (P2 modF2) [(.val (prim (P1 intF) [(.val (prim (P2 addF2) [(.val (prim (P2 addF2) [(.val (prim (P2 mulF2) [(.bor 2), (.bor 2)])), (.val (prim (P2 mulF2) [(.val (kc (.int 40692))), (.val (prim (P2 ixF2) [(.bor 0), (.val (kc (.str "turns")))]))]))])), (.val (kc (.int 23)))]))])), (.val (kc (.int 4294967231)))])) (seqS (asgS 2 (prim (P2 modF2) [(.val (prim (P1 intF) [(.val (prim (P2 addF2) [(.val (prim (P2 mulF2) [(.bor 2), (.bor 2)])), (.val (prim (P2 mulF2) [(.val (prim (P2 ixF2) [(.bor 0), (.val (kc (.str "mixed")))])), (.val (kc (.int 11)))]))]))])), (.val (kc (.int 4294967197)))])) (retS (prim (P2 modF2) [(.val (prim (P1 intF) [(.val (prim (P2 fdivF2) [(.bor 2), (.val (kc (.int 64)))]))])), (.bor 1)]))))))))
noncomputable def rDraw : List VL.W → VL.RD := runD 4 [0] gDraw
/-- a number below -/
theorem draw_s {p : W} {m : Int} (h : Deck p) (hm : 0 < m) (hm2 : m < 1073741824) : ∃ r p', 0 ≤ r ∧ r < m ∧ Deck p' ∧ rDraw [p, .c (.int m)] = .ok (.c (.int r)) [p'] := by
  obtain ⟨gs, s, t, hl, rfl⟩ := h
  have h0 : m ≠ 0 := by omega
  by_cases h2 : m < 2
  · have hd : decide (m < 2) = true := decide_eq_true h2
    refine ⟨0, deckW gs s t, by omega, by omega, ⟨gs, s, t, hl, rfl⟩, ?_⟩
    unfold rDraw gDraw deckW
    simp! only [hd]
  · have hd : decide (m < 2) = false := decide_eq_false h2
    have hne := ne_ints gs
    cases hg : gs with
    | nil =>
      subst hg
      have a1 : ∀ i : Int, CMulA 2654435761 i := fun i => mulA_l _ i (by decide)
      have a2 : ∀ i : Int, CMulA 40692 i := fun i => mulA_l _ i (by decide)
      have a3 : ∀ i : Int, CMulA i 11 := fun i => mulA_r i _ (by decide)
      have a4 : ∀ i : Int, CMulA (i.fmod 4294967279) (i.fmod 4294967279) := fun i => mulA_r _ _ (by
        have := fmod_lt i 4294967279 (by decide)
        omega)
      have a5 : ∀ i : Int, CMulA (i.fmod 4294967231) (i.fmod 4294967231) := fun i => mulA_r _ _ (by
        have := fmod_lt i 4294967231 (by decide)
        omega)
      have a6 : ∀ i : Int, CDivA i 64 := fun i => .inl ⟨by decide, by decide⟩
      simp only [List.isEmpty_nil, Bool.not_true, List.map_nil] at hne
      obtain ⟨n1, e1⟩ : ∃ x, x = (s + 2654435761 * (t + 1)).fmod 4294967279 := ⟨_, rfl⟩
      obtain ⟨n2, e2⟩ : ∃ x, x = (n1 * n1 + 40692 * (t + 1) + 23).fmod 4294967231 := ⟨_, rfl⟩
      obtain ⟨n3, e3⟩ : ∃ x, x = (n2 * n2 + s * 11).fmod 4294967197 := ⟨_, rfl⟩
      have b4 : CMulA n1 n1 := e1 ▸ a4 _
      have b5 : CMulA n2 n2 := e2 ▸ a5 _
      have z1 : (4294967279 : Int) ≠ 0 := by decide
      have z2 : (4294967231 : Int) ≠ 0 := by decide
      have z3 : (4294967197 : Int) ≠ 0 := by decide
      refine ⟨(n3.fdiv 64).fmod m, deckW [] s (t + 1), (fmod_lt _ m hm).1, (fmod_lt _ m hm).2, ⟨[], s, t + 1, hl, rfl⟩, ?_⟩
      unfold rDraw gDraw deckW
      simp! only [hd, hne, dk_mixed, dk_turns, dk_pturns, dk_len, dk_spot, dk_part, a1, a2, a3, b4, b5, a6, h0, z1, z2, z3, ← e1, ← e2, ← e3]
    | cons g r =>
      obtain ⟨c, hc⟩ : ∃ c, gs[gs.length - 1]? = some c := by
        rw [hg]
        exact ⟨_, List.getElem?_eq_getElem (by simp)⟩
      rw [← hg]
      have hne' : neF2 (.l (gs.map fun g => .c (.int g))) (.l []) = some true := by rw [hne, hg]; rfl
      have hdv : CDivA c m := .inl ⟨by omega, by omega⟩
      have hld : gs.dropLast.length = gs.length - 1 := List.length_dropLast
      have hpop := dk_pop gs s t c hc
      have hap := dk_app gs.dropLast s t (c.fdiv m) (by omega)
      have hl' : gs.length = r.length + 1 := by rw [hg]; rfl
      by_cases hcm : m ≤ c
      · have hd2 : decide (m ≤ c) = true := decide_eq_true hcm
        refine ⟨c.fmod m, deckW (gs.dropLast ++ [c.fdiv m]) s t, (fmod_lt c m hm).1, (fmod_lt c m hm).2, ⟨_, s, t, by rw [List.length_append, hld, List.length_singleton]; omega, rfl⟩, ?_⟩
        unfold rDraw gDraw deckW
        simp! only [hd, hne', dk_spot, dk_part, dk_list, hpop, hap, hdv, hd2, h0]
      · have hd2 : decide (m ≤ c) = false := decide_eq_false hcm
        refine ⟨c.fmod m, deckW gs.dropLast s t, (fmod_lt c m hm).1, (fmod_lt c m hm).2, ⟨_, s, t, by omega, rfl⟩, ?_⟩
        unfold rDraw gDraw deckW
        simp! only [hd, hne', dk_spot, dk_part, dk_list, hpop, hdv, hd2, h0]
/-! ### sorted roads -/
def rle (p q : Int × Int) : Bool := decide (p.1 < q.1 ∨ (p.1 = q.1 ∧ p.2 ≤ q.2))
theorem dle_rd (p q : Int × Int) : PySem.W.dataLe false (fun d : PyData => d) (rdD p) (rdD q) = rle p q :=
  congrFun (congrFun (PySem.W.dataLe_ii (β := Int × Int) (fun p => p.1) (fun p => p.2)) p) q
theorem sortD_rd (rs : List (Int × Int)) : sortD (rs.map rdD) = (rs.mergeSort rle).map rdD := by
  unfold sortD
  exact (List.map_mergeSort fun a _ b _ => (dle_rd a b).symm).symm
theorem rle_trans (a b c : Int × Int) : rle a b = true → rle b c = true → rle a c = true := by
  unfold rle
  simp only [decide_eq_true_eq]
  omega
theorem rle_total (a b : Int × Int) : (rle a b || rle b a) = true := by
  unfold rle
  simp only [Bool.or_eq_true, decide_eq_true_eq]
  omega
theorem lay_rds : ∀ rs : List (Int × Int), PyData.canLayAll0 (rs.map rdD) = true ∧ PyData.depthAll (rs.map rdD) ≤ 1
  | [] => ⟨rfl, by decide⟩
  | r :: rs => by
    obtain ⟨h1, h2⟩ := lay_rds rs
    constructor
    · rw [List.map_cons, PyData.canLayAll0, h1]; rfl
    · rw [List.map_cons, PyData.depthAll]
      have : (rdD r).depth = 1 := rfl
      omega
theorem sorted_ok_rds (rs : List (Int × Int)) : sortOk (rs.map rdD) = true := by
  obtain ⟨h1, h2⟩ := lay_rds rs
  unfold sortOk
  have h3 : ((rs.map rdD).all fun d => (rs.map rdD).all fun e => PySem.W.alike d e) = true := by
    simp only [List.all_eq_true, List.mem_map]
    rintro _ ⟨p, _, rfl⟩ _ ⟨q, _, rfl⟩
    rfl
  have h4 : ((rs.map rdD).all fun d => match d with
    | .tuple (_ :: _) => true
    | _ => false) = true := by
    simp only [List.all_eq_true, List.mem_map]
    rintro _ ⟨p, _, rfl⟩
    rfl
  have h5 : PyData.depthAll (rs.map rdD) ≤ 64 := by omega
  simp only [Bool.and_eq_true, Bool.or_eq_true, decide_eq_true_eq]
  exact ⟨⟨⟨h3, .inl h4⟩, h1⟩, h5⟩
theorem tupleF_l (ds : List PyData) : tupleF (.l (ds.map .c)) = some (.c (.tuple ds)) := by
  show (sitems (.l (ds.map W.c))).map (fun ds => W.c (.tuple ds)) = _
  unfold sitems
  rw [lit_l]
  rfl
theorem sortF_l (rs : List (Int × Int)) (h : rs.length ≤ 1000) : sortF (.l ((rs.map rdD).map .c)) = some (.l (((rs.mergeSort rle).map rdD).map .c)) := by
  have hz : (rs.map rdD).length ≤ sizeLine := by rw [List.length_map]; exact small_line h
  unfold sortF
  have e : sitems (.l ((rs.map rdD).map W.c)) = some (rs.map rdD) := by
    unfold sitems
    rw [lit_l]
  rw [e]
  simp only [sorted_ok_rds, hz, and_self, if_true, sortD_rd]
/-! ### a drawn town -/
def townD (n : Nat) (rs : List Rd) : PyData := .tuple [.int n, .tuple (rs.map rdD)]
theorem tree_lc (a b x3 x4 x5 x6 x7 : Option W) : ∀ (hs : List Nat) (p : W), Deck p → (∀ h ∈ hs, 1 ≤ h ∧ h ≤ 100) → ∃ (qs : List Rd) (p' : W), Deck p' ∧ qs.map (·.2) = hs.map (fun h : Nat => (h : Int)) ∧ (∀ q ∈ qs, 0 ≤ q.1 ∧ q.1 < q.2) ∧
    lcLoop [8] (tgN 8) yesT (prim tupF [(.val (frzE (callE (rDraw) [(.bor 0), (.val (var 8))]))), (.val (var 8))]) (hs.map fun h : Nat => .int (h : Int)) [some p, a, b, x3, x4, x5, x6, x7, none] = .ok (qs.map rdD) [some p', a, b, x3, x4, x5, x6, x7, none]
  | [], p, hp, _ => ⟨[], p, hp, rfl, by simp, rfl⟩
  | h :: hs, p, hp, hh => by
    have h1 := hh h (by simp)
    obtain ⟨r, p1, hr0, hr1, hp1, e⟩ := draw_s (m := (h : Int)) hp (by omega) (by omega)
    obtain ⟨qs, p', hp', hl, hq, ih⟩ := tree_lc a b x3 x4 x5 x6 x7 hs p1 hp1 fun k hk => hh k (by simp [hk])
    refine ⟨(r, (h : Int)) :: qs, p', hp', by simp [hl], ?_, ?_⟩
    · intro q hq'
      rcases List.mem_cons.1 hq' with rfl | hq'
      · exact ⟨hr0, hr1⟩
      · exact hq q hq'
    · simp! only [e, ih, rdD]
noncomputable def moreBody : VL.Env → RS := (seqS (asgS 6 (frzE (callE (rDraw) [(.bor 0), (.val (var 3))]))) (seqS (asgS 7 (prim (P2 modF2) [(.val (prim (P1 intF) [(.val (prim (P2 addF2) [(.val (prim (P2 addF2) [(.bor 6), (.val (kc (.int 1)))])), (.val (callE (rDraw) [(.bor 0), (.val (frzE (prim (P2 subF2) [(.bor 3), (.val (kc (.int 1)))])))]))]))])), (.bor 3)])) (dropS (mutE appM 4 [(.val (prim tupF [(.val (frzE (prim (P2 min2F) [(.bor 6), (.bor 7)]))), (.val (frzE (prim (P2 max2F) [(.bor 6), (.bor 7)])))]))]))))
theorem min2_i (i j : Int) : min2F (.c (.int i)) (.c (.int j)) = some (.c (.int (if j < i then j else i))) := rfl
theorem max2_i (i j : Int) : max2F (.c (.int i)) (.c (.int j)) = some (.c (.int (if j > i then j else i))) := rfl
theorem ap_rds (rs : List Rd) (x y : Int) : ((rs.map rdD).map W.c) ++ [W.c (.tuple [.int x, .int y])] = ((rs ++ [(x, y)]).map rdD).map W.c := by simp [rdD]
theorem wrap (n r s : Int) (h0 : 0 ≤ r) (h1 : r < n) (h2 : 0 ≤ s) (h3 : s < n - 1) : 0 ≤ (r + 1 + s).fmod n ∧ (r + 1 + s).fmod n < n ∧ (r + 1 + s).fmod n ≠ r := by
  rw [Int.fmod_eq_emod_of_nonneg _ (by omega)]
  by_cases h : r + 1 + s < n
  · rw [Int.emod_eq_of_lt (by omega) h]
    omega
  · have e : (r + 1 + s) % n = r + 1 + s - n := by
      rw [← Int.sub_emod_right, Int.emod_eq_of_lt (by omega) (by omega)]
    rw [e]
    omega
theorem more_lp (a x2 x8 : Option W) (n : Nat) (hn : 2 ≤ n) (hn2 : n ≤ 100) : ∀ (ds : List PyData) (rs : List Rd) (p : W) (x5 x6 x7 : Option W), Deck p → rs.length + ds.length ≤ 900 → ∃ (qs : List Rd) (p' : W) (y5 y6 y7 : Option W), Deck p' ∧ qs.length = ds.length ∧ (∀ q ∈ qs, 0 ≤ q.1 ∧ q.1 < q.2 ∧ q.2 < n) ∧
    loopS (tgN 5) moreBody ds [some p, a, x2, some (.c (.int n)), some (.l ((rs.map rdD).map .c)), x5, x6, x7, x8] = .nx [some p', a, x2, some (.c (.int n)), some (.l (((rs ++ qs).map rdD).map .c)), y5, y6, y7, x8]
  | [], rs, p, x5, x6, x7, hp, _ => ⟨[], p, x5, x6, x7, hp, by simp, by simp, by rw [List.append_nil]; rfl⟩
  | d :: ds, rs, p, x5, x6, x7, hp, hl => by
    rw [List.length_cons] at hl
    obtain ⟨r, p1, hr0, hr1, hp1, e1⟩ := draw_s (m := (n : Int)) hp (by omega) (by omega)
    obtain ⟨s, p2, hs0, hs1, hp2, e2⟩ := draw_s (m := (n : Int) - 1) hp1 (by omega) (by omega)
    have hz : ((rs.map rdD).map W.c).length ≤ 1000 := by simp; omega
    have hn0 : (n : Int) ≠ 0 := by omega
    obtain ⟨b, hb⟩ : ∃ b, b = (r + 1 + s).fmod n := ⟨_, rfl⟩
    obtain ⟨w1, w2, w3⟩ := wrap n r s hr0 hr1 hs0 hs1
    rw [← hb] at w1 w2 w3
    obtain ⟨qs, p', y5, y6, y7, hp', hq1, hq2, ih⟩ := more_lp a x2 x8 n hn hn2 ds (rs ++ [(if b < r then b else r, if b > r then b else r)]) p2 (some (.c d)) (some (.c (.int r))) (some (.c (.int b))) hp2 (by rw [List.length_append, List.length_singleton]; omega)
    refine ⟨(if b < r then b else r, if b > r then b else r) :: qs, p', y5, y6, y7, hp', by simp; omega, ?_, ?_⟩
    · intro q hq
      rcases List.mem_cons.1 hq with rfl | hq
      · show 0 ≤ (if b < r then b else r) ∧ (if b < r then b else r) < (if b > r then b else r) ∧ (if b > r then b else r) < (n : Int)
        split <;> split <;> omega
      · exact hq2 q hq
    · have ea : rs ++ (if b < r then b else r, if b > r then b else r) :: qs = (rs ++ [(if b < r then b else r, if b > r then b else r)]) ++ qs := by simp
      rw [ea, ← ih]
      conv => lhs; unfold moreBody
      simp! only [e1, e2, hn0, ← hb, hz, min2_i, max2_i, ap_rds]
      rfl
theorem tree_all {rs : List Rd} {n : Nat} (h : ∀ k : Int, 1 ≤ k → k < n → ∃ q ∈ rs, q.2 = k ∧ 0 ≤ q.1 ∧ q.1 < q.2) : ∀ x : Int, 0 ≤ x → x < n → Cn rs 0 x := by
  have main : ∀ m : Nat, (m : Int) < n → Cn rs 0 m := by
    intro m
    induction m using Nat.strongRecOn with
    | ind m ih =>
      intro hm
      rcases Nat.eq_zero_or_pos m with rfl | hp
      · exact .refl _
      · obtain ⟨⟨a, b⟩, hq, rfl, h0, h1⟩ := h m (by omega) hm
        simp only at h0 h1
        obtain ⟨k, rfl⟩ : ∃ k : Nat, a = k := ⟨a.toNat, by omega⟩
        exact .right hq (ih k (by omega) (by omega))
  intro x h0 h1
  obtain ⟨k, rfl⟩ : ∃ k : Nat, x = k := ⟨x.toNat, by omega⟩
  exact main k h1
theorem range1 (n : Nat) : rangeD 1 (n : Int) = (List.range' 1 (n - 1)).map fun h : Nat => .int (h : Int) := by
  unfold rangeD
  rw [List.range'_eq_map_range, List.map_map]
  have : ((n : Int) - 1).toNat = n - 1 := by omega
  rw [this]
  apply List.map_congr_left
  intro i _
  simp
/-- joined towns -/
structure TownOk (n : Nat) (rs : List Rd) : Prop where
  pos : 1 ≤ n
  top : n ≤ 100
  roads : rs.length ≤ 200
  ends : ∀ a b, (a, b) ∈ rs → 0 ≤ a ∧ a < b ∧ b < n
  sorted : rs.Pairwise fun a b => rle a b = true
  joined : ∀ x : Int, 0 ≤ x → x < n → Cn rs 0 x
theorem TownOk.lim {n : Nat} {rs : List Rd} (h : TownOk n rs) : Lim rs n := fun a b m => by
  have := h.ends a b m
  omega
noncomputable def gTown : VL.Env → RS := (seqS (asgS 3 (frzE (prim (P2 addF2) [(.val (kc (.int 1))), (.val (callE (rDraw) [(.bor 0), (.val (var 1))]))]))) (seqS (asgS 4 (lcE [8] (rngI rng2 [(.val (kc (.int 1))), (.val (var 3))]) (tgN 8) yesT (prim tupF [(.val (frzE (callE (rDraw) [(.bor 0), (.val (var 8))]))), (.val (var 8))]))) (seqS (forS (rngI rng1 [(.val (frzE (ifE (tst (prim (PB gtF2) [(.bor 3), (.val (kc (.int 1)))])) (callE (rDraw) [(.bor 0), (.val (frzE (prim (P2 addF2) [(.bor 2), (.val (kc (.int 1)))])))]) (kc (.int 0)))))]) (tgN 5) (seqS (asgS 6 (frzE (callE (rDraw) [(.bor 0), (.val (var 3))]))) (seqS (asgS 7 (prim (P2 modF2) [(.val (prim (P1 intF) [(.val (prim (P2 addF2) [(.val (prim (P2 addF2) [(.bor 6), (.val (kc (.int 1)))])), (.val (callE (rDraw) [(.bor 0), (.val (frzE (prim (P2 subF2) [(.bor 3), (.val (kc (.int 1)))])))]))]))])), (.bor 3)])) (dropS (mutE appM 4 [(.val (prim tupF [(.val (frzE (prim (P2 min2F) [(.bor 6), (.bor 7)]))), (.val (frzE (prim (P2 max2F) [(.bor 6), (.bor 7)])))]))]))))) (retS (prim tupF [(.val (var 3)), (.val (frzE (prim (P1 tupleF) [(.val (prim (P1 sortF) [(.bor 4)]))])))])))))
theorem law_town_s {p : W} (hp : Deck p) (most : Nat) (hm1 : 1 ≤ most) (hm2 : most ≤ 50) (more : Nat) (hm3 : more ≤ 50) : ∃ (n : Nat) (rs : List Rd) (p' : W), Deck p' ∧ n ≤ most ∧ rs.length < n + more ∧ TownOk n rs ∧
    runD 9 [0] gTown [p, .c (.int most), .c (.int more)] = .ok (.c (townD n rs)) [p'] := by
  obtain ⟨r, p1, hr0, hr1, hp1, e1⟩ := draw_s (m := (most : Int)) hp (by omega) (by omega)
  obtain ⟨k, rfl⟩ : ∃ k : Nat, r = k := ⟨r.toNat, by omega⟩
  have hn : (1 : Int) + (k : Int) = ((k + 1 : Nat) : Int) := by omega
  have hrg : rng2 [.c (.int 1), .c (.int (1 + (k : Int)))] = some ((List.range' 1 k).map fun h : Nat => .int (h : Int)) := by
    rw [rng2_i 1 _ (by omega) (by omega) (by omega) (by omega), hn, range1]
    rfl
  obtain ⟨qs, p2, hp2, hq1, hq2, e2⟩ := tree_lc (some (.c (.int most))) (some (.c (.int more))) (some (.c (.int (1 + (k : Int))))) none none none none (List.range' 1 k) p1 hp1 (by
    intro h hh
    rw [List.mem_range'_1] at hh
    omega)
  have hz : ((List.range' 1 k).map fun h : Nat => PyData.int (h : Int)).length ≤ sizeLine := by
    rw [List.length_map, List.length_range']
    exact small_line (by omega)
  have hql : qs.length = k := by
    have := congrArg List.length hq1
    simpa using this
  have done : ∀ (mr : List Rd), mr.length ≤ more → (∀ q ∈ mr, 0 ≤ q.1 ∧ q.1 < q.2 ∧ q.2 < (k + 1 : Nat)) →
      ((qs ++ mr).mergeSort rle).length < (k + 1) + more ∧ TownOk (k + 1) ((qs ++ mr).mergeSort rle) := by
    intro mr hml hm
    have hL : ((qs ++ mr).mergeSort rle).length < (k + 1) + more := by
      rw [List.length_mergeSort, List.length_append]
      omega
    refine ⟨hL, ⟨by omega, by omega, by omega, ?_, List.pairwise_mergeSort rle_trans rle_total _, ?_⟩⟩
    · intro a b hab
      rw [List.mem_mergeSort] at hab
      rcases List.mem_append.1 hab with h | h
      · have h1 := hq2 _ h
        have h2 : (b : Int) ∈ qs.map (·.2) := List.mem_map.2 ⟨(a, b), h, rfl⟩
        rw [hq1] at h2
        obtain ⟨i, hi, rfl⟩ := List.mem_map.1 h2
        rw [List.mem_range'_1] at hi
        simp only at h1
        omega
      · exact hm _ h
    · intro x h1 h2
      have hq := tree_all (rs := qs) (n := k + 1) fun x h1 h2 => by
        obtain ⟨i, rfl⟩ : ∃ i : Nat, x = i := ⟨x.toNat, by omega⟩
        have : (i : Int) ∈ (List.range' 1 k).map (fun h : Nat => (h : Int)) := List.mem_map.2 ⟨i, by rw [List.mem_range'_1]; omega, rfl⟩
        rw [← hq1] at this
        obtain ⟨q, hq, e⟩ := List.mem_map.1 this
        have := hq2 q hq
        exact ⟨q, hq, e, this.1, this.2⟩
      exact (hq x h1 h2).mono fun r hr => by rw [List.mem_mergeSort]; exact List.mem_append.2 (.inl hr)
  by_cases hk : 0 < k
  · obtain ⟨t, p3, ht0, ht1, hp3, e3⟩ := draw_s (m := (more : Int) + 1) hp2 (by omega) (by omega)
    obtain ⟨t, rfl⟩ : ∃ t' : Nat, t = t' := ⟨t.toNat, by omega⟩
    obtain ⟨mr, p', y5, y6, y7, hp', hml, hm, e4⟩ := more_lp (some (.c (.int most))) (some (.c (.int more))) none (k + 1) (by omega) (by omega) ((upTo t).map .int) qs p3 none none none hp3 (by rw [List.length_map, upTo_len]; omega)
    rw [List.length_map, upTo_len] at hml
    obtain ⟨d1, d2⟩ := done mr (by omega) hm
    have e4' := e4
    rw [← hn] at e4'
    unfold moreBody at e4'
    have hrg1 : rng1 [.c (.int t)] = some ((upTo t).map .int) := rng1_s t (by omega)
    have hg : decide ((1 : Int) < 1 + (k : Int)) = true := decide_eq_true (by omega)
    have hs := sortF_l (qs ++ mr) (by rw [List.length_append]; omega)
    refine ⟨k + 1, (qs ++ mr).mergeSort rle, p', hp', by omega, d1, d2, ?_⟩
    have hn' : ((k + 1 : Nat) : Int) = 1 + (k : Int) := by omega
    unfold townD
    rw [hn']
    unfold gTown
    simp! only [e1, hrg, hz, e2, hg, e3, hrg1, e4', hs, tupleF_l]
  · have hk0 : k = 0 := by omega
    subst hk0
    obtain ⟨d1, d2⟩ := done [] (by simp) (by simp)
    rw [List.append_nil] at d1 d2
    have hrg1 : rng1 [.c (.int 0)] = some ([] : List PyData) := rng1_s 0 (by omega)
    have hg : decide ((1 : Int) < 1 + ((0 : Nat) : Int)) = false := by decide
    have hs := sortF_l qs (by omega)
    refine ⟨0 + 1, qs.mergeSort rle, p2, hp2, by omega, d1, d2, ?_⟩
    have hn' : ((0 + 1 : Nat) : Int) = 1 + ((0 : Nat) : Int) := by omega
    unfold townD
    rw [hn']
    generalize hzero : ((0 : Nat) : Int) = z at *
    unfold gTown
    simp! only [e1, hrg, hz, e2, hg, hrg1, hs, tupleF_l]
/-! ### one of a row, the deck -/
theorem at_in {α : Type} (xs : List α) (r : Int) (h0 : 0 ≤ r) (h1 : r < xs.length) : ∃ x ∈ xs, atI xs r = some x := by
  obtain ⟨k, rfl⟩ : ∃ k : Nat, r = k := ⟨r.toNat, by omega⟩
  rw [at_nat]
  have hk : k < xs.length := by omega
  exact ⟨xs[k], List.getElem_mem hk, List.getElem?_eq_getElem hk⟩
noncomputable def gPick : VL.Env → RS := (retS (prim (P2 ixF2) [(.bor 1), (.val (callE (rDraw) [(.bor 0), (.val (frzE (prim (P1 lenF) [(.bor 1)])))]))]))
theorem pick_s {p : W} (hp : Deck p) (ds : List PyData) (hn : ds ≠ []) (hl : ds.length ≤ 1000) : ∃ d ∈ ds, ∃ p', Deck p' ∧ runD 2 [0] gPick [p, .c (.list ds)] = .ok (.c d) [p'] := by
  have h0 : 0 < ds.length := List.length_pos_iff.mpr hn
  obtain ⟨r, p', hr0, hr1, hp', e⟩ := draw_s (m := ds.length) hp (by omega) (by omega)
  obtain ⟨d, hd, ha⟩ := at_in ds r hr0 hr1
  refine ⟨d, hd, p', hp', ?_⟩
  unfold gPick
  simp! only [e, ha]
noncomputable def deckBody : VL.Env → RS := (seqS (asgS 3 (frzE (prim (P2 addF2) [(.val (prim (P2 mulF2) [(.val (kc (.int 2))), (.val (prim (P1 absF) [(.bor 2)]))])), (.val (prim (P1 intF) [(.val (prim (PB ltF2) [(.bor 2), (.val (kc (.int 0)))]))]))]))) (seqS (ifS (tst (prim (PB geF2) [(.bor 3), (.val (prim (P2 powF2) [(.val (kc (.int 10))), (.val (kc (.int 16)))]))])) (dropS (mutD appM 1 (kc (.str "great")) [(.val (var 3))])) skipS) (putS 1 (frzE (prim (P2 modF2) [(.val (prim (P1 intF) [(.val (prim (P2 addF2) [(.val (prim (P2 addF2) [(.val (prim (P2 mulF2) [(.val (prim (P2 ixF2) [(.bor 1), (.val (kc (.str "mixed")))])), (.val (kc (.int 69621)))])), (.bor 3)])), (.val (kc (.int 29)))]))])), (.val (kc (.int 4294967291)))])) (kc (.str "mixed")))))
noncomputable def gDeck (c : Int) : VL.Env → RS := (seqS (asgS 1 (dispE (flatO [((kc (.str "great")), (prim lstF [])), ((kc (.str "mixed")), (prim (P2 addF2) [(.val (kc (.int c))), (.val (prim (P1 lenF) [(.val (prim sl01 [(.bor 0), .val (kc (.int 63))]))]))])), ((kc (.str "turns")), (kc (.int 0)))]))) (seqS (forS (seqI (prim sl01 [(.bor 0), .val (kc (.int 63))])) (tgN 2) deckBody) (retS (mov 1))))
theorem pow16 : ∃ B : Int, powF2 (.c (.int 10)) (.c (.int 16)) = some (.c (.int B)) := by
  have h : CPow 10 16 := by decide +kernel
  refine ⟨10 ^ (16 : Int).toNat, ?_⟩
  show (if CPow 10 16 then some (W.c (.int (10 ^ (16 : Int).toNat))) else none) = _
  rw [if_pos h]
theorem deck_lp (B : Int) (hB : powF2 (.c (.int 10)) (.c (.int 16)) = some (.c (.int B))) (s : Option W) : ∀ (cs : List Int) (gs : List Int) (m t : Int) (x2 x3 : Option W), gs.length + cs.length ≤ 900 → ∃ (gs' : List Int) (m' : Int) (y2 y3 : Option W), gs'.length ≤ gs.length + cs.length ∧
    loopS (tgN 2) deckBody (cs.map .int) [s, some (deckW gs m t), x2, x3] = .nx [s, some (deckW gs' m' t), y2, y3]
  | [], gs, m, t, x2, x3, h => ⟨gs, m, x2, x3, by simp, rfl⟩
  | c :: cs, gs, m, t, x2, x3, h => by
    rw [List.length_cons] at h
    have hm : CMulA 2 (if c < 0 then -c else c) := mulA_l 2 _ (by decide)
    have ha : absF (.c (.int c)) = some (.c (.int (if c < 0 then -c else c))) := rfl
    obtain ⟨o, ho⟩ : ∃ o, o = 2 * (if c < 0 then -c else c) + (if decide (c < 0) = true then 1 else 0) := ⟨_, rfl⟩
    have hm2 : CMulA m 69621 := mulA_r m _ (by decide)
    have h0 : (4294967291 : Int) ≠ 0 := by decide
    by_cases hc : B ≤ o
    · have hd := decide_eq_true hc
      obtain ⟨gs', m', y2, y3, hl, ih⟩ := deck_lp B hB s cs (gs ++ [o]) ((m * 69621 + o + 29).fmod 4294967291) t (some (.c (.int c))) (some (.c (.int o))) (by rw [List.length_append, List.length_singleton]; omega)
      have hap := dk_app gs m t o (by omega)
      refine ⟨gs', m', y2, y3, by rw [List.length_append, List.length_singleton] at hl; rw [List.length_cons]; omega, ?_⟩
      rw [← ih, List.map_cons]
      unfold deckW
      conv => lhs; unfold deckBody
      simp! only [ha, hm, ← ho, hB, hd, hm2, h0, dk_spot, dk_list, hap, dk_mixed, dk_pmixed, dk_len]
      rfl
    · have hd := decide_eq_false hc
      obtain ⟨gs', m', y2, y3, hl, ih⟩ := deck_lp B hB s cs gs ((m * 69621 + o + 29).fmod 4294967291) t (some (.c (.int c))) (some (.c (.int o))) (by omega)
      refine ⟨gs', m', y2, y3, by rw [List.length_cons]; omega, ?_⟩
      rw [← ih, List.map_cons]
      unfold deckW
      conv => lhs; unfold deckBody
      simp! only [ha, hm, ← ho, hB, hd, hm2, h0, dk_mixed, dk_pmixed, dk_len]
      rfl
theorem deck_nd : ([.inr "great", .inr "mixed", .inr "turns"] : List Key).Nodup := by decide +kernel
theorem law_deck_s (c : Int) (ns : List Int) (hn : ns.length ≤ 63) : ∃ p, Deck p ∧ runD 4 [] (gDeck c) [.ks true (ns.map .int)] = .ok p [] := by
  obtain ⟨B, hB⟩ := pow16
  have hk : sl01 [.ks true (ns.map .int), .c (.int 63)] = some (.l (((ns.take 63).map .int).map .c)) := by
    have := sl01_k (ns.map .int) 63
    rw [← List.map_take] at this
    exact this
  obtain ⟨gs', m', y2, y3, hl, h1⟩ := deck_lp B hB (some (.ks true (ns.map .int))) (ns.take 63) [] (c + (((((ns.take 63).map PyData.int).map W.c).length : Nat) : Int)) 0 none none (by rw [List.length_take, List.length_nil]; omega)
  have nd := deck_nd
  rw [List.length_take, List.length_nil] at hl
  refine ⟨deckW gs' m' 0, ⟨gs', m', 0, by omega, rfl⟩, ?_⟩
  unfold deckW deckL at h1
  rw [List.map_nil] at h1
  unfold gDeck deckW deckL
  simp! only [hk, pairW, nd, h1]
/-! ### the least tree, by what can be got to -/
def nI (T : List Nat) : List Int := T.map fun k : Nat => (k : Int)
def intsW (xs : List Int) : W := .l (xs.map fun x => .c (.int x))
theorem mem_nI {T : List Nat} {k : Nat} : (k : Int) ∈ nI T ↔ k ∈ T := by
  unfold nI
  rw [List.mem_map]
  constructor
  · rintro ⟨i, hi, e⟩
    have : i = k := by omega
    exact this ▸ hi
  · exact fun h => ⟨k, h, rfl⟩
theorem at_rd {rs : List Rd} {k : Nat} (h : k < rs.length) : atI (rs.map rdD) (k : Int) = some (rdD (rdA rs k)) := by
  rw [at_nat, List.getElem?_map, List.getElem?_eq_getElem h]
  unfold rdA
  rw [List.getD_eq_getElem?_getD, List.getElem?_eq_getElem h]
  rfl
theorem ed_len (rs : List Rd) (T : List Nat) : (ed rs T).length = T.length := List.length_map _
theorem rdA_mem {rs : List Rd} {k : Nat} (h : k < rs.length) : rdA rs k ∈ rs := by
  unfold rdA
  rw [List.getD_eq_getElem?_getD, List.getElem?_eq_getElem h]
  exact List.getElem_mem h
theorem ed_lim {rs : List Rd} {n : Nat} (hl : Lim rs n) {T : List Nat} (hT : ∀ k ∈ T, k < rs.length) : Lim (ed rs T) n := by
  intro a b m
  obtain ⟨k, hk, e⟩ := mem_ed.1 m
  exact hl a b (e ▸ rdA_mem (hT k hk))
theorem drop_hd {rs qs : List Rd} {j : Nat} {r : Rd} (h : rs.drop j = r :: qs) : j < rs.length ∧ rdA rs j = r ∧ rs.drop (j + 1) = qs := by
  have hj : j < rs.length := by
    rcases Nat.lt_or_ge j rs.length with h' | h'
    · exact h'
    · rw [List.drop_eq_nil_of_le h'] at h; cases h
  rw [List.drop_eq_getElem_cons hj] at h
  refine ⟨hj, ?_, ?_⟩
  · unfold rdA
    rw [List.getD_eq_getElem?_getD, List.getElem?_eq_getElem hj]
    exact (List.cons.inj h).1
  · exact (List.cons.inj h).2
/-- roads with their places, from a place on -/
def enF (j : Nat) : List Rd → List PyData
  | [] => []
  | r :: rs => .tuple [.int (j : Nat), rdD r] :: enF (j + 1) rs
theorem enF_eq (j : Nat) : ∀ rs : List Rd, ((rs.map rdD).zipIdx j).map (fun p => PyData.tuple [.int (p.2 : Nat), p.1]) = enF j rs := by
  intro rs
  induction rs generalizing j with
  | nil => rfl
  | cons r rs ih => rw [List.map_cons, List.zipIdx_cons, List.map_cons, ih]; rfl
theorem en_town (rs : List Rd) : en1 [.c (.tuple (rs.map rdD))] = some (enF 0 rs) := by
  rw [← enF_eq]
  rfl
theorem tp_lc (n : Nat) (rs : List Rd) (x1 x2 x3 x4 : Option W) : ∀ T : List Nat, (∀ k ∈ T, k < rs.length) → lcLoop [5] (tgN 5) yesT (prim (P2 ixF2) [(.val (prim (P2 ixF2) [(.bor 0), (.val (kc (.int 1)))])), (.bor 5)]) ((nI T).map .int) [some (.c (townD n rs)), x1, x2, x3, x4, none] = .ok ((ed rs T).map rdD) [some (.c (townD n rs)), x1, x2, x3, x4, none]
  | [], _ => rfl
  | k :: T, h => by
    have ih := tp_lc n rs x1 x2 x3 x4 T fun i hi => h i (by simp [hi])
    have ha := at_rd (h k (by simp))
    unfold nI ed at *
    unfold townD at *
    simp! only [ih, ha]
noncomputable def rReached : List VL.W → VL.RD := runD 10 [] gReached
noncomputable def tpBody : VL.Env → RS := (ifS (tst (prim (PB notInF2) [(.bor 4), (.val (callE (rReached) [(.val (frzE (prim (P2 ixF2) [(.bor 0), (.val (kc (.int 0)))]))), (.val (frzE (lcBE [5] 1 (tgN 5) yesT (prim (P2 ixF2) [(.val (prim (P2 ixF2) [(.bor 0), (.val (kc (.int 1)))])), (.bor 5)])))), (.val (var 3))]))])) (dropS (mutE appM 1 [(.val (var 2))])) skipS)
noncomputable def gTreePlaces : VL.Env → RS := (seqS (asgS 1 (prim lstF [])) (seqS (forS (rngI en1 [.val (frzE (prim (P2 ixF2) [(.bor 0), (.val (kc (.int 1)))]))]) (tgT 2 (tgsC (tgN 2) (tgsC (tgT 2 (tgsC (tgN 3) (tgsC (tgN 4) tgsN))) tgsN))) tpBody) (retS (mov 1))))
theorem notin_ints (a : Int) (xs : List Int) : notInF2 (.c (.int a)) (.l (xs.map fun x => .c (.int x))) = some (!decide (a ∈ xs)) := by
  unfold notInF2
  rw [in_ints]
  rfl
theorem gst_in (rs : List Rd) (T : List Nat) (k : Nat) : ∀ i ∈ gst rs T k, i ∈ T ∨ i = k := by
  intro i hi
  unfold gst at hi
  split at hi
  · exact .inl hi
  · rcases List.mem_append.1 hi with h | h
    · exact .inl h
    · exact .inr (by simpa using h)
theorem gst_len (rs : List Rd) (T : List Nat) (k : Nat) : (gst rs T k).length ≤ T.length + 1 := by
  unfold gst
  split
  · omega
  · simp
theorem tp_lp (n : Nat) (rs : List Rd) (ok : TownOk n rs) : ∀ (qs : List Rd) (j : Nat) (T : List Nat) (x2 x3 x4 : Option W), rs.drop j = qs → (∀ k ∈ T, k < j) → T.length ≤ j → ∃ y2 y3 y4 : Option W,
    loopS (tgT 2 (tgsC (tgN 2) (tgsC (tgT 2 (tgsC (tgN 3) (tgsC (tgN 4) tgsN))) tgsN))) tpBody (enF j qs) [some (.c (townD n rs)), some (intsW (nI T)), x2, x3, x4, none] = .nx [some (.c (townD n rs)), some (intsW (nI ((List.range' j qs.length).foldl (gst rs) T))), y2, y3, y4, none]
  | [], j, T, x2, x3, x4, _, _, _ => ⟨x2, x3, x4, rfl⟩
  | (a, b) :: qs, j, T, x2, x3, x4, h, hT, hTl => by
    obtain ⟨hj, hr, hd⟩ := drop_hd h
    have hT' : ∀ k ∈ T, k < rs.length := fun k hk => Nat.lt_trans (hT k hk) hj
    have hab := ok.ends a b (hr ▸ rdA_mem hj)
    obtain ⟨xs, e1, _, hx⟩ := reached_s (rd := .list ((ed rs T).map rdD)) rfl n a hab.1 (by omega) ok.top (by rw [ed_len]; have := ok.roads; omega) (ed_lim ok.lim hT')
    have e1 : rReached [.c (.int n), .c (.list ((ed rs T).map rdD)), .c (.int a)] = .ok (.l (xs.map fun x => .c (.int x))) [] := e1
    obtain ⟨y2, y3, y4, ih⟩ := tp_lp n rs ok qs (j + 1) (gst rs T j) (some (.c (.int j))) (some (.c (.int a))) (some (.c (.int b))) hd
      (fun k hk => by rcases gst_in rs T j k hk with hk | rfl; have := hT k hk; omega; omega)
      (by have := gst_len rs T j; omega)
    refine ⟨y2, y3, y4, ?_⟩
    rw [List.length_cons, List.range'_succ, List.foldl_cons, ← ih]
    have hlc := tp_lc n rs none (some (.c (.int j))) (some (.c (.int a))) (some (.c (.int b))) T hT'
    have hz : ((nI T).map PyData.int).length ≤ sizeLine := by
      rw [List.length_map]; unfold nI; rw [List.length_map]; exact small_line (by have := ok.roads; omega)
    have hz2 : ((nI T).map fun x => W.c (PyData.int x)).length ≤ 1000 := by
      rw [List.length_map]; unfold nI; rw [List.length_map]; have := ok.roads; omega
    have hci := colds_ints (nI T)
    have hmm : ((nI T).map PyData.int).map W.c = (nI T).map fun x => W.c (.int x) := by simp
    by_cases hc : Cn (ed rs T) a b
    · have hm : b ∈ xs := (hx b).2 ⟨by omega, hab.2.2, hc⟩
      have hdm := decide_eq_true hm
      have hg : gst rs T j = T := by unfold gst; rw [hr]; exact if_pos hc
      rw [hg]
      unfold townD intsW at *
      conv => lhs; unfold tpBody enF
      conv => lhs; arg 3; arg 1; rw [show rdD (a, b) = .tuple [.int a, .int b] from rfl]
      simp! only [hci, hlc, hz, hmm, e1, notin_ints, hdm]
      rfl
    · have hm : ¬ b ∈ xs := fun m => hc ((hx b).1 m).2.2
      have hdm := decide_eq_false hm
      have hg : gst rs T j = T ++ [j] := by unfold gst; rw [hr]; exact if_neg hc
      have hn : nI (T ++ [j]) = nI T ++ [(j : Int)] := by unfold nI; rw [List.map_append]; rfl
      rw [hg, hn]
      unfold townD intsW at *
      conv => lhs; unfold tpBody enF
      conv => lhs; arg 3; arg 1; rw [show rdD (a, b) = .tuple [.int a, .int b] from rfl]
      simp! only [hci, hlc, hz, hmm, e1, notin_ints, hdm, hz2, ap_ints]
      rfl
theorem tree_places_s {n : Nat} {rs : List Rd} (ok : TownOk n rs) : runD 6 [] gTreePlaces [.c (townD n rs)] = .ok (intsW (nI (tree rs))) [] := by
  obtain ⟨y2, y3, y4, e⟩ := tp_lp n rs ok rs 0 [] none none none rfl (by simp) (by simp)
  unfold tree
  rw [List.range_eq_range']
  unfold townD intsW at *
  have e0 : (nI []).map (fun x => W.c (PyData.int x)) = [] := rfl
  rw [e0] at e
  unfold gTreePlaces
  simp! only [en_town, e]
/-! ### the least tree, by labels of the houses -/
def lab (L : List Int) (x : Int) : Int := L.getD x.toNat 0
def LInv (rs : List Rd) (T : List Nat) (n : Nat) (L : List Int) : Prop := L.length = n ∧ ∀ x y : Int, 0 ≤ x → x < n → 0 ≤ y → y < n → (lab L x = lab L y ↔ Cn (ed rs T) x y)
theorem at_lab {L : List Int} {x : Int} (h0 : 0 ≤ x) (h1 : x < L.length) : atI (L.map PyData.int) x = some (.int (lab L x)) := by
  obtain ⟨k, rfl⟩ : ∃ k : Nat, x = k := ⟨x.toNat, by omega⟩
  have hk : k < L.length := by omega
  rw [at_nat, List.getElem?_map, List.getElem?_eq_getElem hk]
  unfold lab
  rw [List.getD_eq_getElem?_getD, Int.toNat_natCast, List.getElem?_eq_getElem hk]
  rfl
theorem lab_map {L : List Int} (f : Int → Int) {x : Int} (h0 : 0 ≤ x) (h1 : x < L.length) : lab (L.map f) x = f (lab L x) := by
  obtain ⟨k, rfl⟩ : ∃ k : Nat, x = k := ⟨x.toNat, by omega⟩
  have hk : k < L.length := by omega
  unfold lab
  rw [List.getD_eq_getElem?_getD, List.getD_eq_getElem?_getD, Int.toNat_natCast, List.getElem?_map, List.getElem?_eq_getElem hk]
  rfl
theorem cn_nil {x y : Int} (h : Cn [] x y) : x = y := by
  induction h with
  | refl => rfl
  | right m _ _ => cases m
  | left m _ _ => cases m
theorem linv_0 (rs : List Rd) (n : Nat) : LInv rs [] n (upTo n) := by
  refine ⟨upTo_len n, fun x y h1 h2 h3 h4 => ?_⟩
  have lx : ∀ x : Int, 0 ≤ x → x < n → lab (upTo n) x = x := fun x h1 h2 => by
    obtain ⟨k, rfl⟩ : ∃ k : Nat, x = k := ⟨x.toNat, by omega⟩
    have hk : k < n := by omega
    unfold lab upTo
    rw [List.getD_eq_getElem?_getD, Int.toNat_natCast, List.getElem?_map, List.getElem?_range hk]
    rfl
  rw [lx x h1 h2, lx y h3 h4]
  constructor
  · rintro rfl; exact .refl _
  · exact fun h => cn_nil h
theorem cn_snoc {rs : List Rd} {T : List Nat} {k : Nat} {a b : Int} (hk : rdA rs k = (a, b)) (x y : Int) : Cn (ed rs (T ++ [k])) x y ↔ (Cn (ed rs T) x y ∨ (Cn (ed rs T) x a ∧ Cn (ed rs T) b y) ∨ (Cn (ed rs T) x b ∧ Cn (ed rs T) a y)) := by
  have sub : ∀ {x y : Int}, Cn (ed rs T) x y → Cn (ed rs (T ++ [k])) x y := fun c => c.mono fun e he => by
    obtain ⟨i, hi, rfl⟩ := mem_ed.1 he
    exact mem_ed.2 ⟨i, List.mem_append.2 (.inl hi), rfl⟩
  have m : (a, b) ∈ ed rs (T ++ [k]) := mem_ed.2 ⟨k, by simp, hk⟩
  constructor
  · exact Cn.add fun e he => by
      obtain ⟨i, hi, rfl⟩ := mem_ed.1 he
      rcases List.mem_append.1 hi with hi | hi
      · exact .inl (mem_ed.2 ⟨i, hi, rfl⟩)
      · simp at hi; subst hi; exact .inr hk
  · rintro (c | ⟨c1, c2⟩ | ⟨c1, c2⟩)
    · exact sub c
    · exact (Cn.right m (sub c1)).trans (sub c2)
    · exact (Cn.left m (sub c1)).trans (sub c2)
theorem linv_step {rs : List Rd} {T : List Nat} {n k : Nat} {a b : Int} {L : List Int} (h : LInv rs T n L) (hk : rdA rs k = (a, b)) (ha0 : 0 ≤ a) (ha : a < n) (hb0 : 0 ≤ b) (hb : b < n) (hne : lab L a ≠ lab L b) :
    LInv rs (T ++ [k]) n (L.map fun o => if o = lab L b then lab L a else o) := by
  obtain ⟨hl, h⟩ := h
  refine ⟨by rw [List.length_map, hl], fun x y h1 h2 h3 h4 => ?_⟩
  rw [lab_map _ h1 (by omega), lab_map _ h3 (by omega), cn_snoc hk, ← h x y h1 h2 h3 h4, ← h x a h1 h2 ha0 ha, ← h b y hb0 hb h3 h4, ← h x b h1 h2 hb0 hb, ← h a y ha0 ha h3 h4]
  generalize lab L a = la at *
  generalize lab L b = lb at *
  generalize lab L x = lx at *
  generalize lab L y = ly at *
  by_cases e1 : lx = lb <;> by_cases e2 : ly = lb <;> simp only [e1, e2, if_true, if_false, true_and, and_true, false_and, false_or, or_false, true_or, or_true, iff_true, true_iff] <;> (constructor <;> intro hh <;> omega)
theorem tree_home (t x2 x3 x4 x5 : Option W) (gone stay : Int) (L0 : Option W) : ∀ L : List Int, lcLoop [8] (tgN 8) yesT (ifE (tst (prim (PB eqF2) [(.bor 8), (.bor 6)])) (var 7) (var 8)) (L.map .int) [t, L0, x2, x3, x4, x5, some (.c (.int gone)), some (.c (.int stay)), none] = .ok ((L.map fun o => if o = gone then stay else o).map .int) [t, L0, x2, x3, x4, x5, some (.c (.int gone)), some (.c (.int stay)), none]
  | [] => rfl
  | o :: L => by
    have ih := tree_home t x2 x3 x4 x5 gone stay L0 L
    by_cases h : o = gone
    · have hd := decide_eq_true h
      rw [List.map_cons, List.map_cons, List.map_cons, if_pos h]
      simp! only [hd, ih]
    · have hd := decide_eq_false h
      rw [List.map_cons, List.map_cons, List.map_cons, if_neg h]
      simp! only [hd, ih]
noncomputable def ltBody : VL.Env → RS := (ifS (tst (prim (PB neF2) [(.val (prim (P2 ixF2) [(.bor 1), (.bor 4)])), (.val (prim (P2 ixF2) [(.bor 1), (.bor 5)]))])) (seqS (dropS (mutE appM 2 [(.val (var 3))])) (seqS (parS [6, 7] [.val (frzE (prim (P2 ixF2) [(.bor 1), (.bor 5)])), .val (frzE (prim (P2 ixF2) [(.bor 1), (.bor 4)]))]) (asgS 1 (frzE (lcE [8] (seqI (var 1)) (tgN 8) yesT (ifE (tst (prim (PB eqF2) [(.bor 8), (.bor 6)])) (var 7) (var 8))))))) skipS)
noncomputable def gLawTree : VL.Env → RS := (seqS (par2S 1 2 [.val (frzE (prim lrg1 [(.val (prim (P2 ixF2) [(.bor 0), (.val (kc (.int 0)))]))])), .val (prim lstF [])]) (seqS (forS (rngI en1 [.val (frzE (prim (P2 ixF2) [(.bor 0), (.val (kc (.int 1)))]))]) (tgT 2 (tgsC (tgN 3) (tgsC (tgT 2 (tgsC (tgN 4) (tgsC (tgN 5) tgsN))) tgsN))) ltBody) (retS (prim (P1 tupleF) [(.bor 2)]))))
theorem nei (i j : Int) : neF2 (.c (.int i)) (.c (.int j)) = some (!decide (i = j)) := by
  unfold neF2
  rw [eqi]
  rfl
theorem lt_lp (n : Nat) (rs : List Rd) (ok : TownOk n rs) : ∀ (qs : List Rd) (j : Nat) (T : List Nat) (L : List Int) (x3 x4 x5 x6 x7 : Option W), rs.drop j = qs → (∀ k ∈ T, k < j) → T.length ≤ j → LInv rs T n L → (∀ x ∈ [x6, x7], x = none ∨ ∃ d, x = some (.c d)) → ∃ (L' : List Int) (y3 y4 y5 y6 y7 : Option W),
    loopS (tgT 2 (tgsC (tgN 3) (tgsC (tgT 2 (tgsC (tgN 4) (tgsC (tgN 5) tgsN))) tgsN))) ltBody (enF j qs) [some (.c (townD n rs)), some (.c (.list (L.map .int))), some (intsW (nI T)), x3, x4, x5, x6, x7, none] = .nx [some (.c (townD n rs)), some (.c (.list (L'.map .int))), some (intsW (nI ((List.range' j qs.length).foldl (gst rs) T))), y3, y4, y5, y6, y7, none]
  | [], j, T, L, x3, x4, x5, x6, x7, _, _, _, _, _ => ⟨L, x3, x4, x5, x6, x7, rfl⟩
  | (a, b) :: qs, j, T, L, x3, x4, x5, x6, x7, h, hT, hTl, hL, hx67 => by
    obtain ⟨hj, hr, hd⟩ := drop_hd h
    have hab := ok.ends a b (hr ▸ rdA_mem hj)
    have hLl := hL.1
    have a1 := at_lab (L := L) (x := a) hab.1 (by omega)
    have a2 := at_lab (L := L) (x := b) (by omega) (by omega)
    have hz2 : ((nI T).map fun x => W.c (PyData.int x)).length ≤ 1000 := by
      rw [List.length_map]; unfold nI; rw [List.length_map]; have := ok.roads; omega
    have hT2 : ∀ k ∈ gst rs T j, k < j + 1 := fun k hk => by rcases gst_in rs T j k hk with hk | rfl; have := hT k hk; omega; omega
    have hTl2 : (gst rs T j).length ≤ j + 1 := by have := gst_len rs T j; omega
    have hiff := hL.2 a b hab.1 (by omega) (by omega) hab.2.2
    rw [List.length_cons, List.range'_succ, List.foldl_cons]
    by_cases hc : lab L a = lab L b
    · have hg : gst rs T j = T := by unfold gst; rw [hr]; exact if_pos (hiff.1 hc)
      have hdm : (!decide (lab L a = lab L b)) = false := by simp [hc]
      obtain ⟨L', y3, y4, y5, y6, y7, ih⟩ := lt_lp n rs ok qs (j + 1) (gst rs T j) L (some (.c (.int j))) (some (.c (.int a))) (some (.c (.int b))) x6 x7 hd hT2 hTl2 (by rw [hg]; exact hL) hx67
      refine ⟨L', y3, y4, y5, y6, y7, ?_⟩
      rw [← ih, hg]
      unfold townD intsW at *
      conv => lhs; unfold ltBody enF
      conv => lhs; arg 3; arg 1; rw [show rdD (a, b) = .tuple [.int a, .int b] from rfl]
      simp! only [a1, a2, nei, hdm]
      rfl
    · have hg : gst rs T j = T ++ [j] := by unfold gst; rw [hr]; exact if_neg fun c => hc (hiff.2 c)
      have hdm : (!decide (lab L a = lab L b)) = true := by simp [hc]
      have hn : nI (T ++ [j]) = nI T ++ [(j : Int)] := by unfold nI; rw [List.map_append]; rfl
      obtain ⟨L', y3, y4, y5, y6, y7, ih⟩ := lt_lp n rs ok qs (j + 1) (gst rs T j) (L.map fun o => if o = lab L b then lab L a else o) (some (.c (.int j))) (some (.c (.int a))) (some (.c (.int b))) (some (.c (.int (lab L b)))) (some (.c (.int (lab L a)))) hd hT2 hTl2 (by rw [hg]; exact linv_step hL hr hab.1 (by omega) (by omega) hab.2.2 hc) (by simp)
      refine ⟨L', y3, y4, y5, y6, y7, ?_⟩
      have hlc := tree_home (some (.c (townD n rs))) (some (intsW (nI (T ++ [j])))) (some (.c (.int j))) (some (.c (.int a))) (some (.c (.int b))) (lab L b) (lab L a) (some (.c (.list (L.map .int)))) L
      have hz : (L.map PyData.int).length ≤ sizeLine := by rw [List.length_map, hLl]; exact small_line (by have := ok.top; omega)
      rw [← ih, hg]
      unfold townD intsW at *
      rw [hn] at *
      conv => lhs; unfold ltBody enF
      conv => lhs; arg 3; arg 1; rw [show rdD (a, b) = .tuple [.int a, .int b] from rfl]
      simp! only [a1, a2, nei, hdm, hz2, ap_ints, hz, hlc]
      rfl
noncomputable def treeD (rs : List Rd) : PyData := .tuple ((nI (tree rs)).map .int)
theorem law_tree_s {n : Nat} {rs : List Rd} (ok : TownOk n rs) : runD 9 [] gLawTree [.c (townD n rs)] = .ok (.c (treeD rs)) [] := by
  obtain ⟨L', y3, y4, y5, y6, y7, e⟩ := lt_lp n rs ok rs 0 [] (upTo n) none none none none none rfl (by simp) (by simp) (linv_0 rs n) (by simp)
  have h1 : lrg1 [.c (.int n)] = some (.l (((upTo n).map .int).map .c)) := by
    rw [r_lrg1 _ (by have := ok.top; omega) (by have := ok.top; omega), range_ints]
  have ht : tupleF (.l ((nI (tree rs)).map fun x => W.c (.int x))) = some (.c (treeD rs)) := by
    have := tupleF_l ((nI (tree rs)).map .int)
    rw [List.map_map] at this
    exact this
  unfold tree at *
  rw [List.range_eq_range'] at *
  unfold townD intsW at *
  have e0 : (nI []).map (fun x => W.c (PyData.int x)) = [] := rfl
  rw [e0] at e
  unfold gLawTree
  simp! only [h1, en_town, e, ht]
/-! ### flows on the least tree -/
theorem len_sub {α : Type} [DecidableEq α] : ∀ {l m : List α}, l.Nodup → (∀ x ∈ l, x ∈ m) → l.length ≤ m.length
  | [], _, _, _ => Nat.zero_le _
  | x :: l, m, h, hs => by
    have hx : x ∈ m := hs x (by simp)
    have ih := len_sub (l := l) (m := m.erase x) (List.nodup_cons.1 h).2 fun y hy => (List.mem_erase_of_ne (fun e => (List.nodup_cons.1 h).1 (by rw [← e]; exact hy))).2 (hs y (by simp [hy]))
    rw [List.length_erase_of_mem hx] at ih
    have : 0 < m.length := List.length_pos_of_mem hx
    rw [List.length_cons]
    omega
theorem ixN_s {l k : Nat} (h : k < l) : ixN l (k : Int) = some k := by
  unfold ixN
  simp only [show (0 : Int) ≤ (k : Int) from by omega, show (k : Int) < (l : Int) from by omega, and_self, if_true, Int.toNat_natCast]
theorem mul_zl (k : Nat) (h : k ≤ 1000) : mulF2 (.l [.c (.int 0)]) (.c (.int k)) = some (intsW (List.replicate k 0)) := by
  have e : litems (.l [.c (.int 0)]) = some [PyData.int 0] := rfl
  have h1 : -(2 ^ 63) ≤ (k : Int) ∧ (k : Int) < 2 ^ 63 ∧ [PyData.int 0].length * (k : Int).toNat ≤ sizeLine := by
    refine ⟨by omega, by omega, small_line ?_⟩
    rw [List.length_singleton, Int.toNat_natCast]
    omega
  have e2 : ∀ m : Nat, ((List.replicate m [PyData.int 0]).flatten.map W.c) = (List.replicate m (0 : Int)).map fun x => W.c (.int x) := fun m => by
    induction m with
    | zero => rfl
    | succ m ih => rw [List.replicate_succ, List.replicate_succ, List.flatten_cons, List.map_append, ih]; rfl
  show (match litems (.l [.c (.int 0)]) with
    | some ds => if -(2 ^ 63) ≤ (k : Int) ∧ (k : Int) < 2 ^ 63 ∧ ds.length * (k : Int).toNat ≤ sizeLine then some (W.l ((List.replicate (k : Int).toNat ds).flatten.map .c)) else none
    | none => none) = _
  rw [e]
  simp only []
  rw [if_pos h1, Int.toNat_natCast, e2]
  rfl
theorem intsD_i : ∀ xs : List Int, intsD (xs.map .int) = some xs
  | [] => rfl
  | x :: xs => by
    rw [List.map_cons, intsD, intsD_i xs]
    rfl
theorem sum_i (xs : List Int) : sumG (xs.map .int) = some (.int xs.sum) := by
  unfold sumG
  rw [intsD_i]
  rfl
noncomputable def gMoney : VL.Env → RS := (retS (walkE sumG (var 0)))
theorem money_s (ps : List Int) : runD 1 [] gMoney [.c (.tuple (ps.map .int))] = .ok (.c (.int ps.sum)) [] := by
  unfold gMoney
  simp! only [sum_i]
theorem rest_lc (n : Nat) (rs : List Rd) (x1 x3 x4 x5 x7 : Option W) (k : Nat) : ∀ T : List Nat, (∀ i ∈ T, i < rs.length) → lcLoop [6] (tgN 6) (tst (prim (PB neF2) [(.bor 6), (.bor 2)])) (prim (P2 ixF2) [(.val (prim (P2 ixF2) [(.bor 0), (.val (kc (.int 1)))])), (.bor 6)]) ((nI T).map .int) [some (.c (townD n rs)), x1, some (.c (.int k)), x3, x4, x5, none, x7] = .ok ((ed rs (T.filter (· ≠ k))).map rdD) [some (.c (townD n rs)), x1, some (.c (.int k)), x3, x4, x5, none, x7]
  | [], _ => rfl
  | i :: T, h => by
    have ih := rest_lc n rs x1 x3 x4 x5 x7 k T fun i hi => h i (by simp [hi])
    have ha := at_rd (h i (by simp))
    by_cases e : i = k
    · have hd : (!decide ((i : Int) = (k : Int))) = false := by simp [e]
      have hf : (i :: T).filter (· ≠ k) = T.filter (· ≠ k) := by simp [e]
      rw [hf]
      unfold nI ed at *
      unfold townD at *
      rw [List.map_cons, List.map_cons]
      simp! only [ih, ha, nei, hd]
    · have hd : (!decide ((i : Int) = (k : Int))) = true := by
        have : ¬ (i : Int) = (k : Int) := by omega
        simp [this]
      have hf : (i :: T).filter (· ≠ k) = i :: T.filter (· ≠ k) := by simp [e]
      rw [hf]
      unfold nI ed at *
      unfold townD at *
      rw [List.map_cons, List.map_cons]
      simp! only [ih, ha, nei, hd]
theorem purse_lc (ps : List Int) (t x2 x3 x4 x5 x6 : Option W) : ∀ xs : List Int, (∀ x ∈ xs, 0 ≤ x ∧ x < ps.length) → lcLoop [7] (tgN 7) yesT (prim (P2 ixF2) [(.bor 1), (.bor 7)]) (xs.map .int) [t, some (.c (.tuple (ps.map .int))), x2, x3, x4, x5, x6, none] = .ok ((xs.map (lab ps)).map .int) [t, some (.c (.tuple (ps.map .int))), x2, x3, x4, x5, x6, none]
  | [], _ => rfl
  | x :: xs, h => by
    have ih := purse_lc ps t x2 x3 x4 x5 x6 xs fun y hy => h y (by simp [hy])
    have ha := at_lab (L := ps) (h x (by simp)).1 (h x (by simp)).2
    rw [List.map_cons, List.map_cons, List.map_cons]
    simp! only [ih, ha]
/-- a flow where places count, nought elsewhere -/
def fm (f : List Int) (P : List Nat) : List Int := (List.range f.length).map fun i => if i ∈ P then f.getD i 0 else 0
theorem fm_nil (f : List Int) : fm f [] = List.replicate f.length 0 := by
  unfold fm
  apply List.ext_getElem
  · simp
  · intro i h1 h2; simp
theorem fm_len (f : List Int) (P : List Nat) : (fm f P).length = f.length := by unfold fm; simp
theorem fm_set (f : List Int) (P : List Nat) (k : Nat) (hk : k < f.length) : (fm f P).set k (f.getD k 0) = fm f (P ++ [k]) := by
  unfold fm
  apply List.ext_getElem
  · simp
  · intro i h1 h2
    rw [List.getElem_set]
    by_cases e : k = i
    · subst e; simp
    · have e' : ¬ i = k := fun z => e z.symm
      simp [e, e']
theorem fm_all (f : List Int) (P : List Nat) (h : ∀ i, i < f.length → i ∉ P → f.getD i 0 = 0) : fm f P = f := by
  unfold fm
  apply List.ext_getElem
  · simp
  · intro i h1 h2
    rw [List.getElem_map, List.getElem_range]
    by_cases e : i ∈ P
    · rw [if_pos e, List.getD_eq_getElem?_getD, List.getElem?_eq_getElem h2]; rfl
    · have := h i h2 e
      rw [if_neg e, ← this, List.getD_eq_getElem?_getD, List.getElem?_eq_getElem h2]; rfl
theorem intsW_set (xs : List Int) (k : Nat) (x : Int) : (xs.map fun x => W.c (PyData.int x)).set k (.c (.int x)) = (xs.set k x).map fun x => W.c (PyData.int x) := by rw [List.map_set]
noncomputable def ffBody : VL.Env → RS := (seqS (asgS 5 (frzE (lcE [6] (seqI (var 4)) (tgN 6) (tst (prim (PB neF2) [(.bor 6), (.bor 2)])) (prim (P2 ixF2) [(.val (prim (P2 ixF2) [(.bor 0), (.val (kc (.int 1)))])), (.bor 6)])))) (putS 3 (frzE (walkE sumG (lcE [7] (seqI (callE (rReached) [(.val (frzE (prim (P2 ixF2) [(.bor 0), (.val (kc (.int 0)))]))), (.val (var 5)), (.val (frzE (prim (P2 ixF2) [(.val (prim (P2 ixF2) [(.val (prim (P2 ixF2) [(.bor 0), (.val (kc (.int 1)))])), (.bor 2)])), (.val (kc (.int 1)))])))])) (tgN 7) yesT (prim (P2 ixF2) [(.bor 1), (.bor 7)])))) (var 2)))
noncomputable def rMoney : List VL.W → VL.RD := runD 1 [] gMoney
noncomputable def rTreePlaces : List VL.W → VL.RD := runD 6 [] gTreePlaces
noncomputable def gFlowFor : VL.Env → RS := (seqS (ifS (tst (prim (PB neF2) [(.val (callE (rMoney) [(.val (var 1))])), (.val (kc (.int 0)))])) (raiseS "Unfit") skipS) (seqS (par2S 3 4 [.val (prim (P2 mulF2) [(.val (prim lstF [(.val (kc (.int 0)))])), (.val (prim (P1 lenF) [(.val (prim (P2 ixF2) [(.bor 0), (.val (kc (.int 1)))]))]))]), .val (frzE (callE (rTreePlaces) [(.val (var 0))]))]) (seqS (forS (seqI (var 4)) (tgN 2) ffBody) (retS (prim (P1 tupleF) [(.bor 3)])))))
/-- flows on the least tree -/
structure OnTree (rs : List Rd) (n : Nat) (f ps : List Int) : Prop where
  len : f.length = rs.length
  off : ∀ i, i < rs.length → i ∉ tree rs → f.getD i 0 = 0
  ends : ∀ v : Int, 0 ≤ v → v < n → endsAt rs f v = lab ps v
theorem ff_lp {n : Nat} {rs : List Rd} (ok : TownOk n rs) {f ps : List Int} (hps : ps.length = n) (hf : OnTree rs n f ps) : ∀ (Q P : List Nat) (x2 x5 : Option W), tree rs = P ++ Q → ∃ y2 y5 : Option W,
    loopS (tgN 2) ffBody ((nI Q).map .int) [some (.c (townD n rs)), some (.c (.tuple (ps.map .int))), x2, some (intsW (fm f P)), some (.c (.list ((nI (tree rs)).map .int))), x5, none, none] = .nx [some (.c (townD n rs)), some (.c (.tuple (ps.map .int))), y2, some (intsW (fm f (P ++ Q))), some (.c (.list ((nI (tree rs)).map .int))), y5, none, none]
  | [], P, x2, x5, _ => ⟨x2, x5, by rw [List.append_nil]; rfl⟩
  | k :: Q, P, x2, x5, h => by
    have hF := tree_fst rs
    have hkT : k ∈ tree rs := by rw [h]; simp
    have hk : k < rs.length := hF.lt k hkT
    have hT' : ∀ i ∈ (tree rs).filter (· ≠ k), i < rs.length := fun i hi => hF.lt i (List.mem_filter.1 hi).1
    have hL := ed_lim ok.lim hT'
    obtain ⟨a, b, hab⟩ : ∃ a b, rdA rs k = (a, b) := ⟨_, _, rfl⟩
    have hb := ok.ends a b (hab ▸ rdA_mem hk)
    have hTl : (tree rs).length ≤ rs.length := by
      have h1 : (tree rs).Nodup := hF.asc.imp fun h => Nat.ne_of_lt h
      have h2 := len_sub h1 (m := List.range rs.length) fun i hi => List.mem_range.2 (hF.lt i hi)
      rwa [List.length_range] at h2
    obtain ⟨xs, e1, hasc, hx⟩ := reached_s (rd := .list ((ed rs ((tree rs).filter (· ≠ k))).map rdD)) rfl n b (by omega) hb.2.2 ok.top (by
      rw [ed_len]
      have := List.length_filter_le (fun i => decide (i ≠ k)) (tree rs)
      have := ok.roads
      omega) hL
    have e1 : rReached [.c (.int n), .c (.list ((ed rs ((tree rs).filter (· ≠ k))).map rdD)), .c (.int b)] = .ok (.l (xs.map fun x => .c (.int x))) [] := e1
    have hsum : (xs.map (lab ps)).sum = f.getD k 0 := by
      have tf := tree_flow hF hf.len hf.off hkT hk (S := xs) (hasc.imp fun h => Int.ne_of_lt h) (fun v hv => by
        rw [hab]; exact ((hx v).1 hv).2.2) (by rw [hab]; exact (hx b).2 ⟨by omega, hb.2.2, .refl _⟩) (fun i hi hne => by
          have hil := hF.lt i hi
          obtain ⟨c, d, hcd⟩ : ∃ c d, rdA rs i = (c, d) := ⟨_, _, rfl⟩
          have hc := ok.ends c d (hcd ▸ rdA_mem hil)
          have m : (c, d) ∈ ed rs ((tree rs).filter (· ≠ k)) := mem_ed.2 ⟨i, List.mem_filter.2 ⟨hi, by simpa using hne⟩, hcd⟩
          rw [hcd, hx, hx]
          exact ⟨fun ⟨_, _, z⟩ => ⟨by omega, by omega, .right m z⟩, fun ⟨_, _, z⟩ => ⟨by omega, by omega, .left m z⟩⟩)
      rw [← tf]
      congr 1
      apply List.map_congr_left
      intro v hv
      have := (hx v).1 hv
      exact (hf.ends v this.1 this.2.1).symm
    have hkf : k < f.length := by rw [hf.len]; exact hk
    obtain ⟨y2, y5, ih⟩ := ff_lp ok hps hf Q (P ++ [k]) (some (.c (.int k))) (some (.c (.list ((ed rs ((tree rs).filter (· ≠ k))).map rdD)))) (by rw [h]; simp)
    refine ⟨y2, y5, ?_⟩
    have ea : P ++ k :: Q = (P ++ [k]) ++ Q := by simp
    rw [ea, ← ih, ← fm_set f P k hkf]
    have h1 := rest_lc n rs (some (.c (.tuple (ps.map .int)))) (some (intsW (fm f P))) (some (.c (.list ((nI (tree rs)).map .int)))) x5 none k (tree rs) hF.lt
    have h2 := purse_lc ps (some (.c (townD n rs))) (some (.c (.int k))) (some (intsW (fm f P))) (some (.c (.list ((nI (tree rs)).map .int)))) (some (.c (.list ((ed rs ((tree rs).filter (· ≠ k))).map rdD)))) none xs (fun x hxm => by have := (hx x).1 hxm; omega)
    have z1 : ((nI (tree rs)).map PyData.int).length ≤ sizeLine := by
      rw [List.length_map]; unfold nI; rw [List.length_map]; exact small_line (by have := ok.roads; omega)
    have z2 : (xs.map PyData.int).length ≤ sizeLine := by
      have h1 : xs.Nodup := hasc.imp fun h => Int.ne_of_lt h
      have h2 := len_sub h1 (m := upTo n) fun i hi => by
        rw [mem_upTo]
        have := (hx i).1 hi
        exact ⟨this.1, this.2.1⟩
      rw [upTo_len] at h2
      rw [List.length_map]
      exact small_line (by have := ok.top; omega)
    have ha := at_rd hk
    have hr : rdD (rdA rs k) = .tuple [.int a, .int b] := by rw [hab]; rfl
    have hix := ixN_s (l := ((fm f P).map fun x => W.c (PyData.int x)).length) (k := k) (by rw [List.length_map, fm_len]; exact hkf)
    have hs := sum_i (xs.map (lab ps))
    rw [hsum] at hs
    have hn : (nI (k :: Q)).map PyData.int = .int (k : Int) :: (nI Q).map .int := rfl
    rw [hn]
    unfold townD intsW at *
    conv => lhs; unfold ffBody
    simp! only [h1, h2, z1, z2, fz_ints, e1, ha, hr, hs, hix, intsW_set]
    rfl
theorem flow_for_s {n : Nat} {rs : List Rd} (ok : TownOk n rs) {f ps : List Int} (hps : ps.length = n) (h0 : ps.sum = 0) (hf : OnTree rs n f ps) : runD 8 [] gFlowFor [.c (townD n rs), .c (.tuple (ps.map .int))] = .ok (.c (.tuple (f.map .int))) [] := by
  obtain ⟨y2, y5, e⟩ := ff_lp ok hps hf (tree rs) [] none none rfl
  have e1 : rMoney [.c (.tuple (ps.map .int))] = .ok (.c (.int 0)) [] := by rw [← h0]; exact money_s ps
  have e2 : rTreePlaces [.c (townD n rs)] = .ok (intsW (nI (tree rs))) [] := tree_places_s ok
  have hz := mul_zl (rs.map rdD).length (by rw [List.length_map]; have := ok.roads; omega)
  rw [List.length_map, ← hf.len, ← fm_nil f] at hz
  rw [List.nil_append, fm_all f (tree rs) fun i hi => hf.off i (by rw [← hf.len]; exact hi)] at e
  have ht : tupleF (.l (f.map fun x => W.c (.int x))) = some (.c (.tuple (f.map .int))) := by
    have := tupleF_l (f.map .int)
    rw [List.map_map] at this
    exact this
  have hne : neF2 (.c (.int 0)) (.c (.int 0)) = some false := rfl
  have hlen : (rs.map rdD).length = f.length := by rw [List.length_map, hf.len]
  unfold townD intsW at *
  unfold gFlowFor
  simp! only [e1, hne, e2, fz_ints, hlen, hz, e, ht]
theorem flow_for_x {n : Nat} {rs : List Rd} {ps : List Int} (h0 : ps.sum ≠ 0) : runD 8 [] gFlowFor [.c (townD n rs), .c (.tuple (ps.map .int))] = .exn ⟨"Unfit", []⟩ [] := by
  have e1 : rMoney [.c (.tuple (ps.map .int))] = .ok (.c (.int ps.sum)) [] := money_s ps
  have hne : neF2 (.c (.int ps.sum)) (.c (.int 0)) = some true := by
    rw [nei, decide_eq_false h0]
    rfl
  unfold gFlowFor
  simp! only [e1, hne]
end VG
/-! ways along a tree, house by house (plain mathematics) -/
namespace VG
abbrev Ways := List (Int × List Int)
def keysW (kvs : Ways) : List Int := kvs.map (·.1)
def lookV (kvs : Ways) (v : Int) : List Int := ((kvs.find? fun p => decide (p.1 = v)).map (·.2)).getD []
def wstep (rs : List Rd) (kvs : Ways) (k : Nat) : Ways :=
  if (rdA rs k).1 ∈ keysW kvs ∧ (rdA rs k).2 ∉ keysW kvs then kvs ++ [((rdA rs k).2, (lookV kvs (rdA rs k).1).set k 1)]
  else if (rdA rs k).1 ∉ keysW kvs ∧ (rdA rs k).2 ∈ keysW kvs then kvs ++ [((rdA rs k).1, (lookV kvs (rdA rs k).2).set k (-1))]
  else kvs
def wpass (rs : List Rd) (T : List Nat) (kvs : Ways) : Ways := T.foldl (wstep rs) kvs
def wturns (rs : List Rd) (T : List Nat) : Nat → Ways → Ways
  | 0, kvs => kvs
  | t + 1, kvs => wturns rs T t (wpass rs T kvs)
theorem endsAt_set (v x : Int) : ∀ (rs : List Rd) (f : List Int) (k : Nat), f.length = rs.length → k < rs.length → endsAt rs (f.set k x) v = endsAt rs f v + (if (rdA rs k).2 = v then x - f.getD k 0 else 0) - (if (rdA rs k).1 = v then x - f.getD k 0 else 0)
  | [], _, _, _, h => absurd h (Nat.not_lt_zero _)
  | (a, b) :: rs, [], _, h, _ => by simp at h
  | (a, b) :: rs, y :: f, 0, _, _ => by
    show (if b = v then x else 0) - (if a = v then x else 0) + endsAt rs f v = (if b = v then y else 0) - (if a = v then y else 0) + endsAt rs f v + (if b = v then x - y else 0) - (if a = v then x - y else 0)
    split <;> split <;> omega
  | (a, b) :: rs, y :: f, k + 1, hl, hk => by
    have ih := endsAt_set v x rs f k (by simpa using hl) (by simpa using hk)
    show (if b = v then y else 0) - (if a = v then y else 0) + endsAt rs (f.set k x) v = (if b = v then y else 0) - (if a = v then y else 0) + endsAt rs f v + (if (rdA rs k).2 = v then x - f.getD k 0 else 0) - (if (rdA rs k).1 = v then x - f.getD k 0 else 0)
    rw [ih]
    omega
theorem endsAt_zero (v : Int) : ∀ (rs : List Rd) (m : Nat), endsAt rs (List.replicate m 0) v = 0
  | [], m => by cases m <;> rfl
  | (a, b) :: rs, 0 => rfl
  | (a, b) :: rs, m + 1 => by
    have ih := endsAt_zero v rs m
    show (if b = v then (0 : Int) else 0) - (if a = v then 0 else 0) + endsAt rs (List.replicate m 0) v = 0
    rw [ih]
    split <;> split <;> rfl
structure WInv (rs : List Rd) (T : List Nat) (n : Nat) (s : Int) (kvs : Ways) : Prop where
  nd : (keysW kvs).Nodup
  st : s ∈ keysW kvs
  rng : ∀ w ∈ keysW kvs, 0 ≤ w ∧ w < n
  len : ∀ p ∈ kvs, p.2.length = rs.length
  one : ∀ p ∈ kvs, ∀ x ∈ p.2, x = 0 ∨ x = 1 ∨ x = -1
  sup : ∀ p ∈ kvs, ∀ i, p.2.getD i 0 ≠ 0 → i ∈ T ∧ (rdA rs i).1 ∈ keysW kvs ∧ (rdA rs i).2 ∈ keysW kvs
  ends : ∀ p ∈ kvs, ∀ v, endsAt rs p.2 v = (if v = p.1 then 1 else 0) - (if v = s then 1 else 0)
theorem look_mem {kvs : Ways} {v : Int} (h : v ∈ keysW kvs) : (v, lookV kvs v) ∈ kvs := by
  unfold keysW at h
  unfold lookV
  induction kvs with
  | nil => cases h
  | cons p kvs ih =>
    by_cases e : p.1 = v
    · rw [List.find?_cons, decide_eq_true e]
      subst e
      exact List.mem_cons_self
    · rw [List.find?_cons, decide_eq_false e]
      rw [List.map_cons, List.mem_cons] at h
      rcases h with h | h
      · exact absurd h.symm e
      · exact List.mem_cons_of_mem _ (ih h)
theorem keys_snoc (kvs : Ways) (p : Int × List Int) : keysW (kvs ++ [p]) = keysW kvs ++ [p.1] := by unfold keysW; rw [List.map_append]; rfl
theorem getD_set (f : List Int) (k i : Nat) (x : Int) (h : k < f.length) : (f.set k x).getD i 0 = if k = i then x else f.getD i 0 := by
  rw [List.getD_eq_getElem?_getD, List.getD_eq_getElem?_getD, List.getElem?_set]
  by_cases e : k = i
  · subst e; rw [if_pos rfl, if_pos rfl, if_pos h]; rfl
  · rw [if_neg e, if_neg e]
theorem mem_set' {f : List Int} {k : Nat} {x y : Int} (h : y ∈ f.set k x) : y ∈ f ∨ y = x := List.mem_or_eq_of_mem_set h
/-- one house more -/
theorem winv_add {rs : List Rd} {T : List Nat} {n k : Nat} {s : Int} {kvs : Ways} (hI : WInv rs T n s kvs) (hk : k < rs.length) (hkT : k ∈ T) (u w x : Int) (hu : u ∈ keysW kvs) (hw : w ∉ keysW kvs) (hwr : 0 ≤ w ∧ w < n)
    (hor : ((rdA rs k).1 = u ∧ (rdA rs k).2 = w ∧ x = 1) ∨ ((rdA rs k).1 = w ∧ (rdA rs k).2 = u ∧ x = -1)) : WInv rs T n s (kvs ++ [(w, (lookV kvs u).set k x)]) := by
  have hm := look_mem hu
  have hlen : (lookV kvs u).length = rs.length := hI.len _ hm
  have huw : u ≠ w := fun e => hw (e ▸ hu)
  have hz : (lookV kvs u).getD k 0 = 0 := by
    apply Classical.byContradiction
    intro h
    have := hI.sup _ hm k h
    rcases hor with ⟨h1, h2, _⟩ | ⟨h1, h2, _⟩
    · rw [h2] at this; exact hw this.2.2
    · rw [h1] at this; exact hw this.2.1
  refine ⟨?_, ?_, ?_, ?_, ?_, ?_, ?_⟩
  · rw [keys_snoc, List.nodup_append]
    exact ⟨hI.nd, by simp, fun a ha b hb e => hw (by simp at hb; rw [← hb, ← e]; exact ha)⟩
  · rw [keys_snoc]; exact List.mem_append.2 (.inl hI.st)
  · intro y hy
    rw [keys_snoc] at hy
    rcases List.mem_append.1 hy with hy | hy
    · exact hI.rng y hy
    · simp at hy; subst hy; exact hwr
  · intro p hp
    rcases List.mem_append.1 hp with hp | hp
    · exact hI.len p hp
    · simp at hp; subst hp; show ((lookV kvs u).set k x).length = _; rw [List.length_set]; exact hlen
  · intro p hp y hy
    rcases List.mem_append.1 hp with hp | hp
    · exact hI.one p hp y hy
    · simp at hp; subst hp
      rcases mem_set' hy with hy | rfl
      · exact hI.one _ hm y hy
      · rcases hor with ⟨_, _, h⟩ | ⟨_, _, h⟩ <;> simp [h]
  · intro p hp i hi
    rw [keys_snoc]
    rcases List.mem_append.1 hp with hp | hp
    · have := hI.sup p hp i hi
      exact ⟨this.1, List.mem_append.2 (.inl this.2.1), List.mem_append.2 (.inl this.2.2)⟩
    · simp at hp; subst hp
      have hi : ((lookV kvs u).set k x).getD i 0 ≠ 0 := hi
      rw [getD_set _ _ _ _ (by omega)] at hi
      by_cases e : k = i
      · subst e
        rcases hor with ⟨h1, h2, _⟩ | ⟨h1, h2, _⟩
        · rw [h1, h2]; exact ⟨hkT, List.mem_append.2 (.inl hu), by simp⟩
        · rw [h1, h2]; exact ⟨hkT, by simp, List.mem_append.2 (.inl hu)⟩
      · rw [if_neg e] at hi
        have := hI.sup _ hm i hi
        exact ⟨this.1, List.mem_append.2 (.inl this.2.1), List.mem_append.2 (.inl this.2.2)⟩
  · intro p hp v
    rcases List.mem_append.1 hp with hp | hp
    · exact hI.ends p hp v
    · simp at hp; subst hp
      have he := hI.ends _ hm v
      show endsAt rs ((lookV kvs u).set k x) v = (if v = w then 1 else 0) - (if v = s then 1 else 0)
      rw [endsAt_set v x rs _ k hlen hk, he, hz]
      show (if v = u then 1 else 0) - (if v = s then 1 else 0) + _ - _ = _
      rcases hor with ⟨h1, h2, h3⟩ | ⟨h1, h2, h3⟩ <;> rw [h1, h2, h3] <;> repeat' split
      all_goals omega
theorem winv_step {rs : List Rd} {T : List Nat} {n k : Nat} {s : Int} {kvs : Ways} (hL : ∀ a b, (a, b) ∈ rs → 0 ≤ a ∧ a < n ∧ 0 ≤ b ∧ b < n) (hI : WInv rs T n s kvs) (hk : k < rs.length) (hkT : k ∈ T) : WInv rs T n s (wstep rs kvs k) := by
  have hm : ((rdA rs k).1, (rdA rs k).2) ∈ rs := by
    unfold rdA
    rw [List.getD_eq_getElem?_getD, List.getElem?_eq_getElem hk]
    exact List.getElem_mem hk
  have hab := hL _ _ hm
  unfold wstep
  split
  · rename_i h
    exact winv_add hI hk hkT _ _ _ h.1 h.2 ⟨hab.2.2.1, hab.2.2.2⟩ (.inl ⟨rfl, rfl, rfl⟩)
  · split
    · rename_i h
      exact winv_add hI hk hkT _ _ _ h.2 h.1 ⟨hab.1, hab.2.1⟩ (.inr ⟨rfl, rfl, rfl⟩)
    · exact hI
theorem wstep_mono (rs : List Rd) (kvs : Ways) (k : Nat) : ∃ l, wstep rs kvs k = kvs ++ l ∧ (l = [] → ((rdA rs k).1 ∈ keysW kvs ↔ (rdA rs k).2 ∈ keysW kvs)) := by
  unfold wstep
  split
  · exact ⟨_, rfl, fun h => by cases h⟩
  · rename_i h1
    split
    · exact ⟨_, rfl, fun h => by cases h⟩
    · rename_i h2
      refine ⟨[], by simp, fun _ => ?_⟩
      by_cases a : (rdA rs k).1 ∈ keysW kvs <;> by_cases b : (rdA rs k).2 ∈ keysW kvs <;> simp_all
theorem wpass_mono (rs : List Rd) : ∀ (T : List Nat) (kvs : Ways), ∃ l, wpass rs T kvs = kvs ++ l ∧ (l = [] → ∀ k ∈ T, ((rdA rs k).1 ∈ keysW kvs ↔ (rdA rs k).2 ∈ keysW kvs))
  | [], kvs => ⟨[], by simp [wpass], by simp⟩
  | k :: T, kvs => by
    obtain ⟨l1, h1, c1⟩ := wstep_mono rs kvs k
    obtain ⟨l2, h2, c2⟩ := wpass_mono rs T (wstep rs kvs k)
    refine ⟨l1 ++ l2, ?_, fun e => ?_⟩
    · show wpass rs T (wstep rs kvs k) = _
      rw [h2, h1, List.append_assoc]
    · obtain ⟨rfl, rfl⟩ := List.append_eq_nil_iff.1 e
      rw [List.append_nil] at h1
      rw [h1] at c2
      intro i hi
      rcases List.mem_cons.1 hi with rfl | hi
      · exact c1 rfl
      · exact c2 rfl i hi
theorem wpass_inv {rs : List Rd} {T : List Nat} {n : Nat} {s : Int} (hL : ∀ a b, (a, b) ∈ rs → 0 ≤ a ∧ a < n ∧ 0 ≤ b ∧ b < n) : ∀ (Q : List Nat) (kvs : Ways), WInv rs T n s kvs → (∀ k ∈ Q, k < rs.length ∧ k ∈ T) → WInv rs T n s (wpass rs Q kvs)
  | [], _, h, _ => h
  | k :: Q, kvs, h, hq => wpass_inv hL Q (wstep rs kvs k) (winv_step hL h (hq k (by simp)).1 (hq k (by simp)).2) fun i hi => hq i (by simp [hi])
theorem len_subs {α : Type} [DecidableEq α] : ∀ {l m : List α}, l.Nodup → (∀ x ∈ l, x ∈ m) → l.length ≤ m.length
  | [], _, _, _ => Nat.zero_le _
  | x :: l, m, h, hs => by
    have hx : x ∈ m := hs x (by simp)
    have ih := len_subs (l := l) (m := m.erase x) (List.nodup_cons.1 h).2 fun y hy => (List.mem_erase_of_ne (fun e => (List.nodup_cons.1 h).1 (by rw [← e]; exact hy))).2 (hs y (by simp [hy]))
    rw [List.length_erase_of_mem hx] at ih
    have : 0 < m.length := List.length_pos_of_mem hx
    rw [List.length_cons]
    omega
theorem upTo_n (n : Nat) : (upTo n).length = n := by unfold upTo; simp
theorem in_upTo {n : Nat} {x : Int} : x ∈ upTo n ↔ 0 ≤ x ∧ x < n := by
  unfold upTo
  rw [List.mem_map]
  constructor
  · rintro ⟨i, hi, rfl⟩
    rw [List.mem_range] at hi
    omega
  · rintro ⟨h0, h1⟩
    exact ⟨x.toNat, List.mem_range.2 (by omega), by omega⟩
/-- all houses are known -/
def Full (n : Nat) (kvs : Ways) : Prop := ∀ x : Int, 0 ≤ x → x < n → x ∈ keysW kvs
theorem full_len {rs : List Rd} {T : List Nat} {n : Nat} {s : Int} {kvs : Ways} (hI : WInv rs T n s kvs) (h : n ≤ kvs.length) : Full n kvs := by
  intro x h0 h1
  apply Classical.byContradiction
  intro hx
  have := len_subs (l := x :: keysW kvs) (m := upTo n) (List.nodup_cons.2 ⟨hx, hI.nd⟩) fun y hy => by
    rw [in_upTo]
    rcases List.mem_cons.1 hy with rfl | hy
    · exact ⟨h0, h1⟩
    · exact hI.rng y hy
  rw [upTo_n, List.length_cons] at this
  unfold keysW at this
  rw [List.length_map] at this
  omega
theorem full_closed {rs : List Rd} {T : List Nat} {n : Nat} {s : Int} {kvs : Ways} (hI : WInv rs T n s kvs) (hc : ∀ k ∈ T, ((rdA rs k).1 ∈ keysW kvs ↔ (rdA rs k).2 ∈ keysW kvs)) (hj : ∀ x : Int, 0 ≤ x → x < n → Cn (ed rs T) s x) : Full n kvs := by
  intro x h0 h1
  refine Cn.stay (S := fun v => v ∈ keysW kvs) (fun a b m => ?_) hI.st (hj x h0 h1)
  obtain ⟨k, hk, e⟩ := mem_ed.1 m
  have := hc k hk
  rw [e] at this
  exact this
theorem full_mono {n : Nat} {kvs : Ways} (h : Full n kvs) (l : Ways) : Full n (kvs ++ l) := fun x h0 h1 => by
  have := h x h0 h1
  unfold keysW at *
  rw [List.map_append]
  exact List.mem_append.2 (.inl this)
theorem wturns_ok {rs : List Rd} {T : List Nat} {n : Nat} {s : Int} (hL : ∀ a b, (a, b) ∈ rs → 0 ≤ a ∧ a < n ∧ 0 ≤ b ∧ b < n) (hT : ∀ k ∈ T, k < rs.length) (hj : ∀ x : Int, 0 ≤ x → x < n → Cn (ed rs T) s x) : ∀ (t : Nat) (kvs : Ways), WInv rs T n s kvs → (Full n kvs ∨ n ≤ kvs.length + t) → WInv rs T n s (wturns rs T t kvs) ∧ Full n (wturns rs T t kvs)
  | 0, kvs, hI, h => ⟨hI, h.elim id fun h => full_len hI h⟩
  | t + 1, kvs, hI, h => by
    obtain ⟨l, e, c⟩ := wpass_mono rs T kvs
    have hI' := wpass_inv hL T kvs hI fun k hk => ⟨hT k hk, hk⟩
    refine wturns_ok hL hT hj t (wpass rs T kvs) hI' ?_
    rcases h with h | h
    · left; rw [e]; exact full_mono h l
    · by_cases hl : l = []
      · left
        subst hl
        rw [e, List.append_nil]
        exact full_closed hI (c rfl) hj
      · right
        rw [e, List.length_append]
        have : 0 < l.length := List.length_pos_iff.2 hl
        omega
theorem winv_0 (rs : List Rd) (T : List Nat) (n : Nat) (s : Int) (h0 : 0 ≤ s) (h1 : s < n) : WInv rs T n s [(s, List.replicate rs.length 0)] := by
  refine ⟨by simp [keysW], by simp [keysW], ?_, ?_, ?_, ?_, ?_⟩
  · intro w hw; simp [keysW] at hw; subst hw; exact ⟨h0, h1⟩
  · intro p hp; simp at hp; subst hp; simp
  · intro p hp x hx; simp at hp; subst hp; exact .inl (List.eq_of_mem_replicate hx)
  · intro p hp i hi
    simp at hp; subst hp
    exfalso
    apply hi
    show (List.replicate rs.length (0 : Int)).getD i 0 = 0
    rw [List.getD_eq_getElem?_getD, List.getElem?_replicate]
    split <;> rfl
  · intro p hp v
    simp at hp; subst hp
    show endsAt rs (List.replicate rs.length 0) v = _
    rw [endsAt_zero]
    omega
/-- the way to a house -/
theorem way_ok {rs : List Rd} {T : List Nat} {n : Nat} {s e : Int} (hL : ∀ a b, (a, b) ∈ rs → 0 ≤ a ∧ a < n ∧ 0 ≤ b ∧ b < n) (hT : ∀ k ∈ T, k < rs.length) (hj : ∀ x : Int, 0 ≤ x → x < n → Cn (ed rs T) s x) (hs0 : 0 ≤ s) (hs1 : s < n) (he0 : 0 ≤ e) (he1 : e < n) :
    ∃ f, (e, f) ∈ wturns rs T (n - 1) [(s, List.replicate rs.length 0)] ∧ lookV (wturns rs T (n - 1) [(s, List.replicate rs.length 0)]) e = f ∧ f.length = rs.length ∧ (∀ x ∈ f, x = 0 ∨ x = 1 ∨ x = -1) ∧ (∀ i, f.getD i 0 ≠ 0 → i ∈ T) ∧ ∀ v, endsAt rs f v = (if v = e then 1 else 0) - (if v = s then 1 else 0) := by
  obtain ⟨hI, hF⟩ := wturns_ok hL hT hj (n - 1) [(s, List.replicate rs.length 0)] (winv_0 rs T n s hs0 hs1) (.inr (by simp; omega))
  have hm := look_mem (hF e he0 he1)
  exact ⟨_, hm, rfl, hI.len _ hm, hI.one _ hm, fun i hi => (hI.sup _ hm i hi).1, hI.ends _ hm⟩
end VG
namespace VG
open PySem L2 VL
local macro_rules | `(tactic| simp! only [$ls,*]) => `(tactic| simp (implicitDefEqProofs := false) only [r_mutD, r_mdA, r_mdB, r_mdC, r_mdD, r_mdE, r_mdF, r_mdG, r_partE, r_ptA, r_ptB, r_ptC, r_ptD, r_ptE, r_ptF, r_ptG, r_lcBE, r_lbA, r_lbB, r_lbC, r_raiseS, r_finx, r_finX, r_tryS, r_tryn, r_tryr, r_tryx, r_catc, r_catt, r_catf, r_parP, r_parPK, r_parPC, r_puts0, r_putsc, r_evs0, r_evsv, r_evsK, r_evsL, r_evsR, r_evsr, r_bor, r_rds0, r_rdsc, r_cons, r_rdv, r_rdr, r_join, r_lift, r_nxO, r_primK, r_prim, r_feed, r_p1, r_p2, r_pb, r_kc, r_var, r_varc, r_varl, r_vark, r_varF, r_mov, r_movc, r_movl, r_movk, r_movt, r_movs, r_tst, r_tstK, r_asW, r_asK, r_andT, r_andC, r_orT, r_orC, r_notT, r_notC, r_ifE, r_ifC, r_andE, r_andK1, r_andK0, r_orE, r_orK0, r_orK1, r_notE, r_notK, r_frzE, r_frzW, r_frzK, r_intOf, r_intK, r_intE, r_intL, r_chain2, r_ch1, r_ch2, r_ch3, r_chain3, r_dh1, r_dh2, r_dh3, r_yes, r_take0, r_takev, r_taker, r_takeA, r_takeR, r_ref0, r_refv, r_refr, r_back0, r_backc, r_call, r_callK, r_callA, r_callB, r_callBx, r_callC, r_callX, r_kwE, r_kwK, r_kwA, r_kwB, r_kwC, r_kwCx, r_wsv0, r_wsvc, r_seqI, r_seqK, r_itl, r_itt, r_rngI, r_lcE, r_lcK, r_lcB, r_lc0, r_lcc, r_lcA, r_lcT, r_lcF, r_lcS, r_noX, r_wipe0, r_wipec, r_cold, r_cold0, r_coldc, r_bk0, r_bkc, r_walkE, r_walkF, r_srcl, r_srct, r_srck, r_forS, r_lp0, r_lpc, r_lpN, r_loopK, r_unpS, r_unpK, r_tgN, r_tgT, r_tgTl, r_tgsN, r_tgsC, r_asgS, r_asgK, r_retS, r_retK, r_ifS, r_ifK, r_dropS, r_dropK, r_seqS, r_skipS, r_par2, r_par2K, r_parS, r_parF, r_parK, r_sets0, r_setsc, r_putNew, r_disp, r_dispF, r_dispA, r_dispB, r_flat0, r_flatc, r_mutE, r_mutK, r_mutL, r_mutF, r_mutG, r_mutH, r_app, r_ext, r_extc, r_pop, r_popK, r_putS, r_putD, r_putA, r_putE, r_putB, r_putC, r_setl, r_setL, r_setk, r_setK, r_sett, r_setT, r_finn, r_finr, r_finA, r_pick0, r_pickc, r_pickA, r_tup, r_tupK, r_lst, r_lstK, r_len_l, r_len_cl, r_len_t, r_len_k, r_len_dt, r_len_s, r_len_x, r_isic, r_isil, r_isik, r_ix_t, r_ix_cl, r_ix_l, r_ix_k, r_ixK, r_keyi, r_keys, r_coldW, r_addi, r_addt, r_subi, r_muli, r_modi, r_divi, r_lti, r_lei, r_gti, r_gei, r_negi, r_inti, r_intb, r_cmp, r_isn, r_isnt, r_nfn, r_addcl, r_addll, r_addlc, r_addcc, r_addO, few, eq_self, small_line, colds_map, Int.cast_ofNat_Int, Int.natCast_zero, Int.natCast_one, b_ok, b_exn, b_no, t_ok, t_exn, t_no, sq_nx, sq_rt, sq_exn, sq_no, fz, fzAll, fzKV, keyD, isPl, kindW, kindD, eqi, eqb, neb, Bool.not_true, Bool.not_false, List.all, id, fz_colds, boolsD_map, at_0, at_1, at_2, ty_int_NoneType, ty_int_bool, ty_int_int, ty_int_str, ty_int_list, ty_int_tuple, ty_int_dict, ty_bool_NoneType, ty_bool_bool, ty_bool_int, ty_bool_str, ty_bool_list, ty_bool_tuple, ty_bool_dict, ty_str_NoneType, ty_str_bool, ty_str_int, ty_str_str, ty_str_list, ty_str_tuple, ty_str_dict, ty_tuple_NoneType, ty_tuple_bool, ty_tuple_int, ty_tuple_str, ty_tuple_list, ty_tuple_tuple, ty_tuple_dict, ty_list_NoneType, ty_list_bool, ty_list_int, ty_list_str, ty_list_list, ty_list_tuple, ty_list_dict, ty_dict_NoneType, ty_dict_bool, ty_dict_int, ty_dict_str, ty_dict_list, ty_dict_tuple, ty_dict_dict, colds, List.find?_cons, List.find?_nil, List.any_cons, List.any_nil, decide_true, decide_false, Nat.reduceLeDiff, Int.reduceEq, ne_eq, not_false_eq_true, Bool.or_true, Bool.true_or, Bool.false_or, Bool.or_false, Bool.false_eq_true, allG, anyG, boolsD, List.all_cons, List.all_nil, Bool.and_true, Bool.true_and, Bool.and_false, Bool.false_and, and_self, and_true, true_and, false_and, and_false, takeW, takeL, List.getElem?_cons_zero, List.getElem?_cons_succ, List.set_cons_zero, List.set_cons_succ, List.length_cons, List.length_nil, List.map_cons, List.map_nil, List.cons_append, List.nil_append, List.replicate_succ, List.replicate_zero, Nat.sub_self, Nat.zero_add, Nat.reduceSub, Nat.reduceAdd, if_true, if_false, Option.map_some, Option.map_none, Option.bind_some, List.append_nil, r_runD, $ls,*])
local macro_rules | `(tactic| simp! only [$ls,*] at $h:ident) => `(tactic| simp (implicitDefEqProofs := false) only [r_mutD, r_mdA, r_mdB, r_mdC, r_mdD, r_mdE, r_mdF, r_mdG, r_partE, r_ptA, r_ptB, r_ptC, r_ptD, r_ptE, r_ptF, r_ptG, r_lcBE, r_lbA, r_lbB, r_lbC, r_raiseS, r_finx, r_finX, r_tryS, r_tryn, r_tryr, r_tryx, r_catc, r_catt, r_catf, r_parP, r_parPK, r_parPC, r_puts0, r_putsc, r_evs0, r_evsv, r_evsK, r_evsL, r_evsR, r_evsr, r_bor, r_rds0, r_rdsc, r_cons, r_rdv, r_rdr, r_join, r_lift, r_nxO, r_primK, r_prim, r_feed, r_p1, r_p2, r_pb, r_kc, r_var, r_varc, r_varl, r_vark, r_varF, r_mov, r_movc, r_movl, r_movk, r_movt, r_movs, r_tst, r_tstK, r_asW, r_asK, r_andT, r_andC, r_orT, r_orC, r_notT, r_notC, r_ifE, r_ifC, r_andE, r_andK1, r_andK0, r_orE, r_orK0, r_orK1, r_notE, r_notK, r_frzE, r_frzW, r_frzK, r_intOf, r_intK, r_intE, r_intL, r_chain2, r_ch1, r_ch2, r_ch3, r_chain3, r_dh1, r_dh2, r_dh3, r_yes, r_take0, r_takev, r_taker, r_takeA, r_takeR, r_ref0, r_refv, r_refr, r_back0, r_backc, r_call, r_callK, r_callA, r_callB, r_callBx, r_callC, r_callX, r_kwE, r_kwK, r_kwA, r_kwB, r_kwC, r_kwCx, r_wsv0, r_wsvc, r_seqI, r_seqK, r_itl, r_itt, r_rngI, r_lcE, r_lcK, r_lcB, r_lc0, r_lcc, r_lcA, r_lcT, r_lcF, r_lcS, r_noX, r_wipe0, r_wipec, r_cold, r_cold0, r_coldc, r_bk0, r_bkc, r_walkE, r_walkF, r_srcl, r_srct, r_srck, r_forS, r_lp0, r_lpc, r_lpN, r_loopK, r_unpS, r_unpK, r_tgN, r_tgT, r_tgTl, r_tgsN, r_tgsC, r_asgS, r_asgK, r_retS, r_retK, r_ifS, r_ifK, r_dropS, r_dropK, r_seqS, r_skipS, r_par2, r_par2K, r_parS, r_parF, r_parK, r_sets0, r_setsc, r_putNew, r_disp, r_dispF, r_dispA, r_dispB, r_flat0, r_flatc, r_mutE, r_mutK, r_mutL, r_mutF, r_mutG, r_mutH, r_app, r_ext, r_extc, r_pop, r_popK, r_putS, r_putD, r_putA, r_putE, r_putB, r_putC, r_setl, r_setL, r_setk, r_setK, r_sett, r_setT, r_finn, r_finr, r_finA, r_pick0, r_pickc, r_pickA, r_tup, r_tupK, r_lst, r_lstK, r_len_l, r_len_cl, r_len_t, r_len_k, r_len_dt, r_len_s, r_len_x, r_isic, r_isil, r_isik, r_ix_t, r_ix_cl, r_ix_l, r_ix_k, r_ixK, r_keyi, r_keys, r_coldW, r_addi, r_addt, r_subi, r_muli, r_modi, r_divi, r_lti, r_lei, r_gti, r_gei, r_negi, r_inti, r_intb, r_cmp, r_isn, r_isnt, r_nfn, r_addcl, r_addll, r_addlc, r_addcc, r_addO, few, eq_self, small_line, colds_map, Int.cast_ofNat_Int, Int.natCast_zero, Int.natCast_one, b_ok, b_exn, b_no, t_ok, t_exn, t_no, sq_nx, sq_rt, sq_exn, sq_no, fz, fzAll, fzKV, keyD, isPl, kindW, kindD, eqi, eqb, neb, Bool.not_true, Bool.not_false, List.all, id, fz_colds, boolsD_map, at_0, at_1, at_2, ty_int_NoneType, ty_int_bool, ty_int_int, ty_int_str, ty_int_list, ty_int_tuple, ty_int_dict, ty_bool_NoneType, ty_bool_bool, ty_bool_int, ty_bool_str, ty_bool_list, ty_bool_tuple, ty_bool_dict, ty_str_NoneType, ty_str_bool, ty_str_int, ty_str_str, ty_str_list, ty_str_tuple, ty_str_dict, ty_tuple_NoneType, ty_tuple_bool, ty_tuple_int, ty_tuple_str, ty_tuple_list, ty_tuple_tuple, ty_tuple_dict, ty_list_NoneType, ty_list_bool, ty_list_int, ty_list_str, ty_list_list, ty_list_tuple, ty_list_dict, ty_dict_NoneType, ty_dict_bool, ty_dict_int, ty_dict_str, ty_dict_list, ty_dict_tuple, ty_dict_dict, colds, List.find?_cons, List.find?_nil, List.any_cons, List.any_nil, decide_true, decide_false, Nat.reduceLeDiff, Int.reduceEq, ne_eq, not_false_eq_true, Bool.or_true, Bool.true_or, Bool.false_or, Bool.or_false, Bool.false_eq_true, allG, anyG, boolsD, List.all_cons, List.all_nil, Bool.and_true, Bool.true_and, Bool.and_false, Bool.false_and, and_self, and_true, true_and, false_and, and_false, takeW, takeL, List.getElem?_cons_zero, List.getElem?_cons_succ, List.set_cons_zero, List.set_cons_succ, List.length_cons, List.length_nil, List.map_cons, List.map_nil, List.cons_append, List.nil_append, List.replicate_succ, List.replicate_zero, Nat.sub_self, Nat.zero_add, Nat.reduceSub, Nat.reduceAdd, if_true, if_false, Option.map_some, Option.map_none, Option.bind_some, List.append_nil, r_runD, $ls,*] at $h:ident)
/-! ### the law's own way along the tree -/
def wayL (kvs : Ways) : List (Key × W) := kvs.map fun p => (.inl p.1, .c (.tuple (p.2.map .int)))
theorem look_way (kvs : Ways) (v : Int) : lookW (wayL kvs) (.inl v) = if v ∈ keysW kvs then some (.c (.tuple ((lookV kvs v).map .int))) else none := by
  unfold lookW wayL lookV keysW
  induction kvs with
  | nil => rfl
  | cons p kvs ih =>
    by_cases e : p.1 = v
    · have d1 : decide ((Sum.inl p.1 : Key) = Sum.inl v) = true := by simp [e]
      have d2 : decide (p.1 = v) = true := by simp [e]
      rw [List.map_cons, List.find?_cons, d1, List.find?_cons, d2]
      simp [e]
    · have e' : ¬ v = p.1 := fun z => e z.symm
      have d1 : decide ((Sum.inl p.1 : Key) = Sum.inl v) = false := by simp [e]
      have d2 : decide (p.1 = v) = false := by simp [e]
      rw [List.map_cons, List.find?_cons, d1, List.find?_cons, d2]
      simp only [ih, List.map_cons, List.mem_cons, e', false_or]
theorem in_way (kvs : Ways) (v : Int) : inF2 (.c (.int v)) (.dk (wayL kvs)) = some (decide (v ∈ keysW kvs)) := by
  unfold inF2
  simp only [keyOf, Option.map_some, look_way]
  by_cases h : v ∈ keysW kvs <;> simp [h]
theorem put_way (kvs : Ways) (w : Int) (f : List Int) (h : w ∉ keysW kvs) : putW (wayL kvs) (.inl w) (.c (.tuple (f.map .int))) = wayL (kvs ++ [(w, f)]) := by
  unfold putW wayL
  have : ((kvs.map fun p => ((.inl p.1 : Key), W.c (PyData.tuple (p.2.map .int)))).any fun kv => decide (kv.1 = .inl w)) = false := by
    rw [List.any_eq_false]
    intro x hx
    obtain ⟨p, hp, rfl⟩ := List.mem_map.1 hx
    have : p.1 ≠ w := fun e => h (List.mem_map.2 ⟨p, hp, e⟩)
    simp [this]
  rw [this]
  simp
theorem cut_set (f : List Int) (k : Nat) (x : Int) (h : k < f.length) : (f.map PyData.int).take k ++ [.int x] ++ (f.map PyData.int).drop (k + 1) = (f.set k x).map .int := by
  rw [List.map_set, List.set_eq_take_append_cons_drop, if_pos (by rw [List.length_map]; exact h)]
  simp
noncomputable def lwBody : VL.Env → RS := (seqS (unpS (tgT 2 (tgsC (tgN 7) (tgsC (tgN 8) tgsN))) (prim (P2 ixF2) [(.val (prim (P2 ixF2) [(.bor 0), (.val (kc (.int 1)))])), (.bor 6)])) (ifS (tst (prim (PB neF2) [(.val (prim (PB inF2) [(.bor 7), (.bor 4)])), (.val (prim (PB inF2) [(.bor 8), (.bor 4)]))])) (seqS (unpS (tgT 2 (tgsC (tgN 9) (tgsC (tgN 10) tgsN))) (ifE (tst (prim (PB inF2) [(.bor 7), (.bor 4)])) (prim tupF [(.val (var 7)), (.val (kc (.int 1)))]) (prim tupF [(.val (var 8)), (.val (prim (P1 negF) [(.val (kc (.int 1)))]))]))) (putS 4 (frzE (prim (P2 addF2) [(.val (prim (P2 addF2) [(.val (prim sl01 [(.val (prim (P2 ixF2) [(.bor 4), (.bor 9)])), .val (var 6)])), (.val (prim tupF [(.val (var 10))]))])), (.val (prim sl10 [(.val (prim (P2 ixF2) [(.bor 4), (.bor 9)])), .val (prim (P2 addF2) [(.bor 6), (.val (kc (.int 1)))])]))])) (prim (P2 subF2) [(.val (prim (P2 addF2) [(.bor 7), (.bor 8)])), (.bor 9)]))) skipS))
noncomputable def gLawWay : VL.Env → RS := (seqS (asgS 4 (dispE (flatO [((var 2), (prim (P2 mulF2) [(.val (prim tupF [(.val (kc (.int 0)))])), (.val (prim (P1 lenF) [(.val (prim (P2 ixF2) [(.bor 0), (.val (kc (.int 1)))]))]))]))]))) (seqS (forS (rngI rng1 [(.val (frzE (prim (P2 subF2) [(.val (prim (P2 ixF2) [(.bor 0), (.val (kc (.int 0)))])), (.val (kc (.int 1)))])))]) (tgN 5) (forS (seqI (var 1)) (tgN 6) lwBody)) (retS (prim (P2 ixF2) [(.bor 4), (.bor 3)]))))
/-- one road looked at -/
theorem lw_one {n : Nat} {rs : List Rd} (ok : TownOk n rs) {T : List Nat} {s : Int} {kvs : Ways} (hI : WInv rs T n s kvs) {k : Nat} (hk : k < rs.length) (x1 x2 x3 x5 x7 x8 x9 x10 : Option W) : ∃ y7 y8 y9 y10 : Option W,
    lwBody [some (.c (townD n rs)), x1, x2, x3, some (.dk (wayL kvs)), x5, some (.c (.int k)), x7, x8, x9, x10] = .nx [some (.c (townD n rs)), x1, x2, x3, some (.dk (wayL (wstep rs kvs k))), x5, some (.c (.int k)), y7, y8, y9, y10] := by
  obtain ⟨a, b, hab⟩ : ∃ a b, rdA rs k = (a, b) := ⟨_, _, rfl⟩
  have ha := at_rd hk
  have hr : rdD (rdA rs k) = .tuple [.int a, .int b] := by rw [hab]; rfl
  have hlen : (wayL kvs).length ≤ 1000 := by
    have := len_sub (l := keysW kvs) (m := upTo n) hI.nd fun y hy => by rw [mem_upTo]; exact hI.rng y hy
    unfold keysW at this
    unfold wayL
    rw [List.length_map, upTo_len] at this
    rw [List.length_map]
    have := ok.top
    omega
  have hroads := ok.roads
  by_cases h1 : a ∈ keysW kvs <;> by_cases h2 : b ∈ keysW kvs
  · have d1 := decide_eq_true h1
    have d2 := decide_eq_true h2
    have dn : (!(true == true)) = false := rfl
    have hw : wstep rs kvs k = kvs := by unfold wstep; rw [hab]; simp [h1, h2]
    refine ⟨some (.c (.int a)), some (.c (.int b)), x9, x10, ?_⟩
    rw [hw]
    unfold townD
    unfold lwBody
    simp! only [ha, hr, in_way, d1, d2, dn]
  · have d1 := decide_eq_true h1
    have d2 := decide_eq_false h2
    have hw : wstep rs kvs k = kvs ++ [(b, (lookV kvs a).set k 1)] := by unfold wstep; rw [hab]; simp [h1, h2]
    have hll := hI.len _ (look_mem h1)
    have hll : (lookV kvs a).length = rs.length := hll
    have hlk : lookW (wayL kvs) (.inl a) = some (.c (.tuple ((lookV kvs a).map .int))) := by rw [look_way, if_pos h1]
    have e1 : a + b - a = b := by omega
    have e2 : ((k : Int) + 1) = ((k + 1 : Nat) : Int) := rfl
    have s1 := sl01_t (ds := (lookV kvs a).map .int) (k := k)
    have s2 := sl10_t (ds := (lookV kvs a).map .int) (k := k + 1)
    have z1 : (((lookV kvs a).map PyData.int).take k).length + 1 ≤ sizeLine := small_line (by rw [List.length_take, List.length_map]; omega)
    have z2 : (((lookV kvs a).map PyData.int).take k ++ [PyData.int 1]).length + (((lookV kvs a).map PyData.int).drop (k + 1)).length ≤ sizeLine := small_line (by rw [List.length_append, List.length_take, List.length_drop, List.length_map, List.length_singleton]; omega)
    have hc := cut_set (lookV kvs a) k 1 (by omega)
    have hp := put_way kvs b ((lookV kvs a).set k 1) h2
    have dn : (!(true == false)) = true := rfl
    refine ⟨some (.c (.int a)), some (.c (.int b)), some (.c (.int a)), some (.c (.int 1)), ?_⟩
    rw [hw, ← hp]
    unfold townD
    unfold lwBody
    simp! only [ha, hr, in_way, d1, d2, dn, hlk, e1, e2, s1, s2, z1, z2, hc, hlen]
  · have d1 := decide_eq_false h1
    have d2 := decide_eq_true h2
    have hw : wstep rs kvs k = kvs ++ [(a, (lookV kvs b).set k (-1))] := by unfold wstep; rw [hab]; simp [h1, h2]
    have hll := hI.len _ (look_mem h2)
    have hll : (lookV kvs b).length = rs.length := hll
    have hlk : lookW (wayL kvs) (.inl b) = some (.c (.tuple ((lookV kvs b).map .int))) := by rw [look_way, if_pos h2]
    have e1 : a + b - b = a := by omega
    have e2 : ((k : Int) + 1) = ((k + 1 : Nat) : Int) := rfl
    have s1 := sl01_t (ds := (lookV kvs b).map .int) (k := k)
    have s2 := sl10_t (ds := (lookV kvs b).map .int) (k := k + 1)
    have z1 : (((lookV kvs b).map PyData.int).take k).length + 1 ≤ sizeLine := small_line (by rw [List.length_take, List.length_map]; omega)
    have z2 : (((lookV kvs b).map PyData.int).take k ++ [PyData.int (-1)]).length + (((lookV kvs b).map PyData.int).drop (k + 1)).length ≤ sizeLine := small_line (by rw [List.length_append, List.length_take, List.length_drop, List.length_map, List.length_singleton]; omega)
    have hc := cut_set (lookV kvs b) k (-1) (by omega)
    have hp := put_way kvs a ((lookV kvs b).set k (-1)) h1
    have dn : (!(false == true)) = true := rfl
    refine ⟨some (.c (.int a)), some (.c (.int b)), some (.c (.int b)), some (.c (.int (-1))), ?_⟩
    rw [hw, ← hp]
    unfold townD
    unfold lwBody
    simp! only [ha, hr, in_way, d1, d2, dn, hlk, e1, e2, s1, s2, z1, z2, hc, hlen]
  · have d1 := decide_eq_false h1
    have d2 := decide_eq_false h2
    have dn : (!(false == false)) = false := rfl
    have hw : wstep rs kvs k = kvs := by unfold wstep; rw [hab]; simp [h1, h2]
    refine ⟨some (.c (.int a)), some (.c (.int b)), x9, x10, ?_⟩
    rw [hw]
    unfold townD
    unfold lwBody
    simp! only [ha, hr, in_way, d1, d2, dn]
theorem lw_in {n : Nat} {rs : List Rd} (ok : TownOk n rs) {T : List Nat} (hT : ∀ k ∈ T, k < rs.length) {s : Int} (x1 x2 x3 x5 : Option W) : ∀ (Q : List Nat) (kvs : Ways) (x6 x7 x8 x9 x10 : Option W), (∀ k ∈ Q, k ∈ T) → WInv rs T n s kvs → ∃ y6 y7 y8 y9 y10 : Option W,
    loopS (tgN 6) lwBody ((nI Q).map .int) [some (.c (townD n rs)), x1, x2, x3, some (.dk (wayL kvs)), x5, x6, x7, x8, x9, x10] = .nx [some (.c (townD n rs)), x1, x2, x3, some (.dk (wayL (wpass rs Q kvs))), x5, y6, y7, y8, y9, y10]
  | [], kvs, x6, x7, x8, x9, x10, _, _ => ⟨x6, x7, x8, x9, x10, rfl⟩
  | k :: Q, kvs, x6, x7, x8, x9, x10, hQ, hI => by
    have hkT := hQ k (by simp)
    obtain ⟨y7, y8, y9, y10, e⟩ := lw_one ok hI (hT k hkT) x1 x2 x3 x5 x7 x8 x9 x10
    obtain ⟨z6, z7, z8, z9, z10, ih⟩ := lw_in ok hT x1 x2 x3 x5 Q (wstep rs kvs k) (some (.c (.int k))) y7 y8 y9 y10 (fun i hi => hQ i (by simp [hi])) (winv_step ok.lim hI (hT k hkT) hkT)
    refine ⟨z6, z7, z8, z9, z10, ?_⟩
    have hn : (nI (k :: Q)).map PyData.int = .int (k : Int) :: (nI Q).map .int := rfl
    have hw : wpass rs (k :: Q) kvs = wpass rs Q (wstep rs kvs k) := rfl
    rw [hn, hw, ← ih]
    simp! only [e]
noncomputable def lwTurn : VL.Env → RS := (forS (seqI (var 1)) (tgN 6) lwBody)
theorem lw_out {n : Nat} {rs : List Rd} (ok : TownOk n rs) {T : List Nat} (hT : ∀ k ∈ T, k < rs.length) {s : Int} (x2 x3 : Option W) : ∀ (ts : List PyData) (kvs : Ways) (x5 x6 x7 x8 x9 x10 : Option W), WInv rs T n s kvs → ∃ y5 y6 y7 y8 y9 y10 : Option W,
    loopS (tgN 5) lwTurn ts [some (.c (townD n rs)), some (.c (.tuple ((nI T).map .int))), x2, x3, some (.dk (wayL kvs)), x5, x6, x7, x8, x9, x10] = .nx [some (.c (townD n rs)), some (.c (.tuple ((nI T).map .int))), x2, x3, some (.dk (wayL (wturns rs T ts.length kvs))), y5, y6, y7, y8, y9, y10]
  | [], kvs, x5, x6, x7, x8, x9, x10, _ => ⟨x5, x6, x7, x8, x9, x10, rfl⟩
  | d :: ts, kvs, x5, x6, x7, x8, x9, x10, hI => by
    obtain ⟨y6, y7, y8, y9, y10, e⟩ := lw_in ok hT (some (.c (.tuple ((nI T).map .int)))) x2 x3 (some (.c d)) T kvs x6 x7 x8 x9 x10 (fun _ h => h) hI
    obtain ⟨z5, z6, z7, z8, z9, z10, ih⟩ := lw_out ok hT x2 x3 ts (wpass rs T kvs) (some (.c d)) y6 y7 y8 y9 y10 (wpass_inv ok.lim T kvs hI fun k hk => ⟨hT k hk, hk⟩)
    refine ⟨z5, z6, z7, z8, z9, z10, ?_⟩
    have hw : wturns rs T (d :: ts).length kvs = wturns rs T ts.length (wpass rs T kvs) := rfl
    rw [hw, ← ih]
    conv => lhs; unfold lwTurn
    simp! only [e]
    rfl
/-- the way from a house to a house -/
noncomputable def wayF (rs : List Rd) (n : Nat) (s e : Int) : List Int := lookV (wturns rs (tree rs) (n - 1) [(s, List.replicate rs.length 0)]) e
structure IsWay (rs : List Rd) (n : Nat) (s e : Int) (f : List Int) : Prop where
  len : f.length = rs.length
  one : ∀ x ∈ f, x = 0 ∨ x = 1 ∨ x = -1
  sup : ∀ i, f.getD i 0 ≠ 0 → i ∈ tree rs
  ends : ∀ v, endsAt rs f v = (if v = e then 1 else 0) - (if v = s then 1 else 0)
theorem law_way_s {n : Nat} {rs : List Rd} (ok : TownOk n rs) (s e : Int) (hs0 : 0 ≤ s) (hs1 : s < n) (he0 : 0 ≤ e) (he1 : e < n) : IsWay rs n s e (wayF rs n s e) ∧
    runD 11 [] gLawWay [.c (townD n rs), .c (treeD rs), .c (.int s), .c (.int e)] = .ok (.c (.tuple ((wayF rs n s e).map .int))) [] := by
  have hF := tree_fst rs
  have hj : ∀ x : Int, 0 ≤ x → x < n → Cn (ed rs (tree rs)) s x := fun x h0 h1 => hF.all (((ok.joined s hs0 hs1).symm).trans (ok.joined x h0 h1))
  obtain ⟨f, h1, h2, h3, h4, h5, h6⟩ := way_ok ok.lim hF.lt hj hs0 hs1 he0 he1
  obtain ⟨y5, y6, y7, y8, y9, y10, el⟩ := lw_out ok hF.lt (some (.c (.int s))) (some (.c (.int e))) ((upTo (n - 1)).map .int) [(s, List.replicate rs.length 0)] none none none none none none (winv_0 rs (tree rs) n s hs0 hs1)
  rw [List.length_map, upTo_len] at el
  have hpos := ok.pos
  have htop := ok.top
  have hroads := ok.roads
  have hm := mul_t (ds := [.int 0]) (rs.length : Nat) (by omega) (by omega) (by simp)
  have hrep : ∀ m : Nat, (List.replicate m [PyData.int 0]).flatten = (List.replicate m (0 : Int)).map .int := fun m => by
    induction m with
    | zero => rfl
    | succ m ih => rw [List.replicate_succ, List.replicate_succ, List.flatten_cons, ih]; rfl
  rw [Int.toNat_natCast, hrep] at hm
  have hrl : (rs.map rdD).length = rs.length := List.length_map _
  have hn1 : (n : Int) - 1 = ((n - 1 : Nat) : Int) := by omega
  have hrg : rng1 [.c (.int ((n - 1 : Nat) : Int))] = some ((upTo (n - 1)).map .int) := rng1_s (n - 1) (by omega)
  have nd : ([.inl s] : List Key).Nodup := by simp
  have hlk : lookW (wayL (wturns rs (tree rs) (n - 1) [(s, List.replicate rs.length 0)])) (.inl e) = some (.c (.tuple (f.map .int))) := by
    have hk : e ∈ keysW (wturns rs (tree rs) (n - 1) [(s, List.replicate rs.length 0)]) := List.mem_map.2 ⟨_, h1, rfl⟩
    rw [look_way, if_pos hk, h2]
  have hw : wayF rs n s e = f := h2
  rw [hw]
  refine ⟨⟨h3, h4, h5, h6⟩, ?_⟩
  have e0 : wayL [(s, List.replicate rs.length 0)] = [(.inl s, .c (.tuple ((List.replicate rs.length (0 : Int)).map .int)))] := rfl
  rw [e0] at el
  unfold lwTurn at el
  unfold townD at *
  unfold treeD
  unfold gLawWay
  simp! only [hrl, hm, pairW, nd, hn1, hrg, el, hlk]
/-! ### rings -/
noncomputable def ringF (rs : List Rd) (n : Nat) (k : Nat) : List Int := (wayF rs n (rdA rs k).2 (rdA rs k).1).set k 1
def tupI (f : List Int) : PyData := .tuple (f.map .int)
structure IsRing (rs : List Rd) (k : Nat) (f : List Int) : Prop where
  len : f.length = rs.length
  one : ∀ x ∈ f, x = 0 ∨ x = 1 ∨ x = -1
  off : ∀ i, i < rs.length → i ∉ tree rs → f.getD i 0 = if i = k then 1 else 0
  ends : ∀ v, endsAt rs f v = 0
theorem way_s {n : Nat} {rs : List Rd} (ok : TownOk n rs) {k : Nat} (hk : k < rs.length) : IsWay rs n (rdA rs k).2 (rdA rs k).1 (wayF rs n (rdA rs k).2 (rdA rs k).1) := by
  have h := ok.ends (rdA rs k).1 (rdA rs k).2 (rdA_mem hk)
  exact (law_way_s ok _ _ (by omega) h.2.2 h.1 (by omega)).1
theorem ring_s {n : Nat} {rs : List Rd} (ok : TownOk n rs) {k : Nat} (hk : k < rs.length) (hT : k ∉ tree rs) : IsRing rs k (ringF rs n k) := by
  have hw := way_s ok hk
  have hl := hw.len
  have z : ∀ i, i ∉ tree rs → (wayF rs n (rdA rs k).2 (rdA rs k).1).getD i 0 = 0 := fun i hi => by
    apply Classical.byContradiction
    exact fun h => hi (hw.sup i h)
  have hab := ok.ends (rdA rs k).1 (rdA rs k).2 (rdA_mem hk)
  refine ⟨by unfold ringF; rw [List.length_set]; exact hl, fun x hx => ?_, fun i hi hn => ?_, fun v => ?_⟩
  · rcases mem_set' hx with h | h
    · exact hw.one x h
    · exact .inr (.inl h)
  · unfold ringF
    rw [getD_set _ _ _ _ (by omega)]
    by_cases e : k = i
    · subst e; simp
    · rw [if_neg e, if_neg fun h => e h.symm, z i hn]
  · unfold ringF
    rw [endsAt_set v 1 rs _ k hl hk, hw.ends v, z k hT]
    repeat' split
    all_goals omega
theorem sh_tints (gs : List Int) : SeqAt.shaped (.tuple (gs.map .int)) = true := by
  unfold SeqAt.shaped
  simp only [PyData.canLay0, (lay_ints gs).1, PyData.depth, (lay_ints gs).2]
  decide
theorem notin_ci (a : Int) (xs : List Int) : notInF2 (.c (.int a)) (.c (.list (xs.map .int))) = some (!decide (a ∈ xs)) := by
  unfold notInF2 inF2
  simp only [inSeq, fz, sh_int, shaped_ints, Bool.and_self, if_true, any_ints, Option.map_some]
theorem notin_ct (a : Int) (xs : List Int) : notInF2 (.c (.int a)) (.c (.tuple (xs.map .int))) = some (!decide (a ∈ xs)) := by
  unfold notInF2 inF2
  simp only [inSeq, fz, sh_int, sh_tints, Bool.and_self, if_true, any_ints, Option.map_some]
/-- the rings of the roads off the tree, from a place on -/
noncomputable def ringsF (rs : List Rd) (n : Nat) (ks : List Nat) : List (List Int) := (ks.filter fun k => decide (k ∉ tree rs)).map (ringF rs n)
def tupsW (R : List (List Int)) : W := .l (R.map fun f => .c (tupI f))
theorem rings_cons (rs : List Rd) (n j : Nat) (ks : List Nat) : ringsF rs n (j :: ks) = if j ∈ tree rs then ringsF rs n ks else ringF rs n j :: ringsF rs n ks := by
  unfold ringsF
  by_cases h : j ∈ tree rs <;> simp [h]
noncomputable def rLawTree : List VL.W → VL.RD := runD 9 [] gLawTree
noncomputable def rLawWay : List VL.W → VL.RD := runD 11 [] gLawWay
noncomputable def lbBody : VL.Env → RS := (ifS (tst (prim (PB notInF2) [(.bor 3), (.bor 1)])) (seqS (asgS 6 (frzE (callE (rLawWay) [(.val (var 0)), (.val (var 1)), (.val (var 5)), (.val (var 4))]))) (dropS (mutE appM 2 [(.val (frzE (prim (P2 addF2) [(.val (prim (P2 addF2) [(.val (prim sl01 [(.bor 6), .val (var 3)])), (.val (prim tupF [(.val (kc (.int 1)))]))])), (.val (prim sl10 [(.bor 6), .val (prim (P2 addF2) [(.bor 3), (.val (kc (.int 1)))])]))])))]))) skipS)
noncomputable def gLawBase : VL.Env → RS := (seqS (par2S 1 2 [.val (frzE (callE (rLawTree) [(.val (var 0))])), .val (prim lstF [])]) (seqS (forS (rngI en1 [.val (frzE (prim (P2 ixF2) [(.bor 0), (.val (kc (.int 1)))]))]) (tgT 2 (tgsC (tgN 3) (tgsC (tgT 2 (tgsC (tgN 4) (tgsC (tgN 5) tgsN))) tgsN))) lbBody) (retS (prim (P1 tupleF) [(.bor 2)]))))
theorem lb_lp {n : Nat} {rs : List Rd} (ok : TownOk n rs) : ∀ (qs : List Rd) (j : Nat) (R : List (List Int)) (x3 x4 x5 x6 : Option W), rs.drop j = qs → R.length ≤ j → ∃ y3 y4 y5 y6 : Option W,
    loopS (tgT 2 (tgsC (tgN 3) (tgsC (tgT 2 (tgsC (tgN 4) (tgsC (tgN 5) tgsN))) tgsN))) lbBody (enF j qs) [some (.c (townD n rs)), some (.c (treeD rs)), some (tupsW R), x3, x4, x5, x6] = .nx [some (.c (townD n rs)), some (.c (treeD rs)), some (tupsW (R ++ ringsF rs n (List.range' j qs.length))), y3, y4, y5, y6]
  | [], j, R, x3, x4, x5, x6, _, _ => ⟨x3, x4, x5, x6, by show _ = RS.nx [_, _, some (tupsW (R ++ [])), _, _, _, _]; rw [List.append_nil]; rfl⟩
  | (a, b) :: qs, j, R, x3, x4, x5, x6, h, hR => by
    obtain ⟨hj, hr, hd⟩ := drop_hd h
    have hab := ok.ends a b (hr ▸ rdA_mem hj)
    have hroads := ok.roads
    rw [List.length_cons, List.range'_succ, rings_cons]
    by_cases hT : j ∈ tree rs
    · have hdm : (!decide ((j : Int) ∈ nI (tree rs))) = false := by rw [decide_eq_true (mem_nI.2 hT)]; rfl
      obtain ⟨y3, y4, y5, y6, ih⟩ := lb_lp ok qs (j + 1) R (some (.c (.int j))) (some (.c (.int a))) (some (.c (.int b))) x6 hd (by omega)
      refine ⟨y3, y4, y5, y6, ?_⟩
      rw [if_pos hT, ← ih]
      unfold townD treeD tupsW at *
      conv => lhs; unfold lbBody enF
      conv => lhs; arg 3; arg 1; rw [show rdD (a, b) = .tuple [.int a, .int b] from rfl]
      simp! only [notin_ct, hdm]
      rfl
    · have hdm : (!decide ((j : Int) ∈ nI (tree rs))) = true := by rw [decide_eq_false fun m => hT (mem_nI.1 m)]; rfl
      obtain ⟨hw, e1⟩ := law_way_s ok b a (by omega) hab.2.2 hab.1 (by omega)
      have e1 : rLawWay [.c (townD n rs), .c (treeD rs), .c (.int b), .c (.int a)] = .ok (.c (.tuple ((wayF rs n b a).map .int))) [] := e1
      have hrf : ringF rs n j = (wayF rs n b a).set j 1 := by unfold ringF; rw [hr]
      have hll := hw.len
      obtain ⟨y3, y4, y5, y6, ih⟩ := lb_lp ok qs (j + 1) (R ++ [ringF rs n j]) (some (.c (.int j))) (some (.c (.int a))) (some (.c (.int b))) (some (.c (.tuple ((wayF rs n b a).map .int)))) hd (by rw [List.length_append, List.length_singleton]; omega)
      have e2 : ((j : Int) + 1) = ((j + 1 : Nat) : Int) := rfl
      have s1 := sl01_t (ds := (wayF rs n b a).map .int) (k := j)
      have s2 := sl10_t (ds := (wayF rs n b a).map .int) (k := j + 1)
      have z1 : (((wayF rs n b a).map PyData.int).take j).length + 1 ≤ sizeLine := small_line (by rw [List.length_take, List.length_map]; omega)
      have z2 : (((wayF rs n b a).map PyData.int).take j ++ [PyData.int 1]).length + (((wayF rs n b a).map PyData.int).drop (j + 1)).length ≤ sizeLine := small_line (by rw [List.length_append, List.length_take, List.length_drop, List.length_map, List.length_singleton]; omega)
      have hc := cut_set (wayF rs n b a) j 1 (by omega)
      rw [← hrf] at hc
      have z3 : (R.map fun f => W.c (tupI f)).length ≤ 1000 := by rw [List.length_map]; omega
      have hap : (R.map fun f => W.c (tupI f)) ++ [W.c (.tuple ((ringF rs n j).map .int))] = (R ++ [ringF rs n j]).map fun f => W.c (tupI f) := by rw [List.map_append]; rfl
      refine ⟨y3, y4, y5, y6, ?_⟩
      have ea : R ++ ringF rs n j :: ringsF rs n (List.range' (j + 1) qs.length) = (R ++ [ringF rs n j]) ++ ringsF rs n (List.range' (j + 1) qs.length) := by simp
      rw [if_neg hT, ea, ← ih]
      unfold townD treeD tupsW at *
      conv => lhs; unfold lbBody enF
      conv => lhs; arg 3; arg 1; rw [show rdD (a, b) = .tuple [.int a, .int b] from rfl]
      simp! only [notin_ct, hdm, e1, e2, s1, s2, z1, z2, hc, z3, hap]
      rfl
def tupT (R : List (List Int)) : PyData := .tuple (R.map tupI)
noncomputable def rings (rs : List Rd) (n : Nat) : List (List Int) := ringsF rs n (List.range rs.length)
theorem tuple_tups (R : List (List Int)) : tupleF (.l (R.map fun f => .c (tupI f))) = some (.c (tupT R)) := by
  have := tupleF_l (R.map tupI)
  rw [List.map_map] at this
  exact this
theorem law_base_s {n : Nat} {rs : List Rd} (ok : TownOk n rs) : runD 7 [] gLawBase [.c (townD n rs)] = .ok (.c (tupT (rings rs n))) [] := by
  obtain ⟨y3, y4, y5, y6, e⟩ := lb_lp ok rs 0 [] none none none none rfl (by simp)
  have e1 : rLawTree [.c (townD n rs)] = .ok (.c (treeD rs)) [] := law_tree_s ok
  have ht := tuple_tups (rings rs n)
  unfold rings at *
  rw [List.range_eq_range'] at *
  rw [List.nil_append] at e
  unfold townD tupsW at *
  rw [List.map_nil] at e
  unfold gLawBase
  simp! only [e1, en_town, e, ht]
/-! ### the program's own rings -/
theorem upTo_lab {n : Nat} {x : Int} (h0 : 0 ≤ x) (h1 : x < n) : lab (upTo n) x = x := by
  obtain ⟨k, rfl⟩ : ∃ k : Nat, x = k := ⟨x.toNat, by omega⟩
  have hk : k < n := by omega
  unfold lab upTo
  rw [List.getD_eq_getElem?_getD, Int.toNat_natCast, List.getElem?_map, List.getElem?_range hk]
  rfl
def twoP (n : Nat) (a b : Int) : List Int := (upTo n).map fun u => (if a = u then 1 else 0) - (if b = u then 1 else 0)
theorem twoP_len (n : Nat) (a b : Int) : (twoP n a b).length = n := by unfold twoP; rw [List.length_map, upTo_len]
theorem upTo_nd (n : Nat) : (upTo n).Nodup := by
  unfold upTo
  refine List.Pairwise.map _ ?_ (List.nodup_range (n := n))
  intro a b h e
  exact h (by omega)
theorem twoP_sum (n : Nat) (a b : Int) (ha0 : 0 ≤ a) (ha : a < n) (hb0 : 0 ≤ b) (hb : b < n) : (twoP n a b).sum = 0 := by
  unfold twoP
  rw [sum_sub', sum_pt 1 a (upTo n) (upTo_nd n), sum_pt 1 b (upTo n) (upTo_nd n), if_pos ((mem_upTo).2 ⟨ha0, ha⟩), if_pos ((mem_upTo).2 ⟨hb0, hb⟩)]
  rfl
theorem two_lc (a b : Int) (t x1 x2 x3 x6 x7 x9 x10 : Option W) : ∀ us : List Int, lcLoop [8] (tgN 8) yesT (prim (P2 subF2) [(.val (prim (P1 intF) [(.val (prim (PB eqF2) [(.bor 8), (.bor 4)]))])), (.val (prim (P1 intF) [(.val (prim (PB eqF2) [(.bor 8), (.bor 5)]))]))]) (us.map .int) [t, x1, x2, x3, some (.c (.int a)), some (.c (.int b)), x6, x7, none, x9, x10] = .ok ((us.map fun u => (if a = u then (1 : Int) else 0) - (if b = u then 1 else 0)).map .int) [t, x1, x2, x3, some (.c (.int a)), some (.c (.int b)), x6, x7, none, x9, x10]
  | [] => rfl
  | u :: us => by
    have ih := two_lc a b t x1 x2 x3 x6 x7 x9 x10 us
    have h1 : (if decide (u = a) = true then (1 : Int) else 0) = if a = u then 1 else 0 := by
      by_cases e : u = a
      · subst e; simp
      · have e' : ¬ a = u := fun z => e z.symm
        simp [e, e']
    have h2 : (if decide (u = b) = true then (1 : Int) else 0) = if b = u then 1 else 0 := by
      by_cases e : u = b
      · subst e; simp
      · have e' : ¬ b = u := fun z => e z.symm
        simp [e, e']
    rw [List.map_cons, List.map_cons, List.map_cons]
    simp! only [ih, h1, h2]
/-- numbers with their places -/
def enN (j : Nat) : List Int → List PyData
  | [] => []
  | x :: xs => .tuple [.int (j : Nat), .int x] :: enN (j + 1) xs
theorem enN_eq (j : Nat) : ∀ xs : List Int, ((xs.map PyData.int).zipIdx j).map (fun p => PyData.tuple [.int (p.2 : Nat), p.1]) = enN j xs := by
  intro xs
  induction xs generalizing j with
  | nil => rfl
  | cons x xs ih => rw [List.map_cons, List.zipIdx_cons, List.map_cons, ih]; rfl
theorem en_nums (xs : List Int) : en1 [.c (.tuple (xs.map .int))] = some (enN 0 xs) := by
  rw [← enN_eq]
  rfl
theorem enN_len (j : Nat) : ∀ xs : List Int, (enN j xs).length = xs.length := by
  intro xs
  induction xs generalizing j with
  | nil => rfl
  | cons x xs ih => rw [enN, List.length_cons, ih, List.length_cons]
def setFrom (k : Nat) (j : Nat) : List Int → List Int
  | [] => []
  | x :: xs => (if j = k then 1 else x) :: setFrom k (j + 1) xs
theorem setFrom_past (k : Nat) : ∀ (xs : List Int) (j : Nat), k < j → setFrom k j xs = xs
  | [], _, _ => rfl
  | x :: xs, j, h => by
    rw [setFrom, if_neg (by omega), setFrom_past k xs (j + 1) (by omega)]
theorem setFrom_eq (k : Nat) : ∀ (xs : List Int) (j : Nat), j ≤ k → setFrom k j xs = xs.set (k - j) 1
  | [], _, _ => rfl
  | x :: xs, j, h => by
    by_cases e : j = k
    · subst e
      rw [setFrom, if_pos rfl, setFrom_past j xs (j + 1) (by omega), Nat.sub_self]
      rfl
    · have e2 : k - j = (k - (j + 1)) + 1 := by omega
      rw [setFrom, if_neg e, setFrom_eq k xs (j + 1) (by omega), e2]
      rfl
theorem one_lc (k : Nat) (t x1 x2 x4 x5 x6 x7 x8 : Option W) : ∀ (xs : List Int) (j : Nat), lcLoop [9, 10] (tgT 2 (tgsC (tgN 9) (tgsC (tgN 10) tgsN))) yesT (ifE (tst (prim (PB eqF2) [(.bor 9), (.bor 3)])) (kc (.int 1)) (var 10)) (enN j xs) [t, x1, x2, some (.c (.int k)), x4, x5, x6, x7, x8, none, none] = .ok ((setFrom k j xs).map .int) [t, x1, x2, some (.c (.int k)), x4, x5, x6, x7, x8, none, none]
  | [], _ => rfl
  | x :: xs, j => by
    have ih := one_lc k t x1 x2 x4 x5 x6 x7 x8 xs (j + 1)
    by_cases e : j = k
    · have hd : decide ((j : Int) = (k : Int)) = true := decide_eq_true (by omega)
      rw [setFrom, if_pos e, enN, List.map_cons]
      simp! only [ih, hd]
    · have hd : decide ((j : Int) = (k : Int)) = false := decide_eq_false (by omega)
      rw [setFrom, if_neg e, enN, List.map_cons]
      simp! only [ih, hd]
noncomputable def rFlowFor : List VL.W → VL.RD := runD 8 [] gFlowFor
noncomputable def brBody : VL.Env → RS := (ifS (tst (prim (PB notInF2) [(.bor 3), (.bor 1)])) (seqS (asgS 6 (frzE (lcE [8] (rngI rng1 [(.val (frzE (prim (P2 ixF2) [(.bor 0), (.val (kc (.int 0)))])))]) (tgN 8) yesT (prim (P2 subF2) [(.val (prim (P1 intF) [(.val (prim (PB eqF2) [(.bor 8), (.bor 4)]))])), (.val (prim (P1 intF) [(.val (prim (PB eqF2) [(.bor 8), (.bor 5)]))]))])))) (seqS (asgS 7 (frzE (callE (rFlowFor) [(.val (var 0)), (.val (frzE (prim (P1 tupleF) [(.bor 6)])))]))) (dropS (mutE appM 2 [(.val (frzE (prim (P1 tupleF) [(.val (lcE [9, 10] (rngI en1 [.val (frzE (var 7))]) (tgT 2 (tgsC (tgN 9) (tgsC (tgN 10) tgsN))) yesT (ifE (tst (prim (PB eqF2) [(.bor 9), (.bor 3)])) (kc (.int 1)) (var 10))))])))])))) skipS)
noncomputable def gBaseRings : VL.Env → RS := (seqS (par2S 1 2 [.val (frzE (callE (rTreePlaces) [(.val (var 0))])), .val (prim lstF [])]) (seqS (forS (rngI en1 [.val (frzE (prim (P2 ixF2) [(.bor 0), (.val (kc (.int 1)))]))]) (tgT 2 (tgsC (tgN 3) (tgsC (tgT 2 (tgsC (tgN 4) (tgsC (tgN 5) tgsN))) tgsN))) brBody) (retS (prim (P1 tupleF) [(.bor 2)]))))
theorem tuple_ints (xs : List Int) : tupleF (.l ((xs.map PyData.int).map .c)) = some (.c (.tuple (xs.map .int))) := tupleF_l (xs.map .int)
theorem tuple_cints (xs : List Int) : tupleF (.c (.list (xs.map PyData.int))) = some (.c (.tuple (xs.map .int))) := rfl
theorem br_lp {n : Nat} {rs : List Rd} (ok : TownOk n rs) : ∀ (qs : List Rd) (j : Nat) (R : List (List Int)) (x3 x4 x5 x6 x7 : Option W), rs.drop j = qs → R.length ≤ j → ∃ y3 y4 y5 y6 y7 : Option W,
    loopS (tgT 2 (tgsC (tgN 3) (tgsC (tgT 2 (tgsC (tgN 4) (tgsC (tgN 5) tgsN))) tgsN))) brBody (enF j qs) [some (.c (townD n rs)), some (.c (.list ((nI (tree rs)).map .int))), some (tupsW R), x3, x4, x5, x6, x7, none, none, none] = .nx [some (.c (townD n rs)), some (.c (.list ((nI (tree rs)).map .int))), some (tupsW (R ++ ringsF rs n (List.range' j qs.length))), y3, y4, y5, y6, y7, none, none, none]
  | [], j, R, x3, x4, x5, x6, x7, _, _ => ⟨x3, x4, x5, x6, x7, by show _ = RS.nx [_, _, some (tupsW (R ++ [])), _, _, _, _, _, _, _, _]; rw [List.append_nil]; rfl⟩
  | (a, b) :: qs, j, R, x3, x4, x5, x6, x7, h, hR => by
    obtain ⟨hj, hr, hd⟩ := drop_hd h
    have hab := ok.ends a b (hr ▸ rdA_mem hj)
    have hroads := ok.roads
    have htop := ok.top
    rw [List.length_cons, List.range'_succ, rings_cons]
    by_cases hT : j ∈ tree rs
    · have hdm : (!decide ((j : Int) ∈ nI (tree rs))) = false := by rw [decide_eq_true (mem_nI.2 hT)]; rfl
      obtain ⟨y3, y4, y5, y6, y7, ih⟩ := br_lp ok qs (j + 1) R (some (.c (.int j))) (some (.c (.int a))) (some (.c (.int b))) x6 x7 hd (by omega)
      refine ⟨y3, y4, y5, y6, y7, ?_⟩
      rw [if_pos hT, ← ih]
      unfold townD tupsW at *
      conv => lhs; unfold brBody enF
      conv => lhs; arg 3; arg 1; rw [show rdD (a, b) = .tuple [.int a, .int b] from rfl]
      simp! only [notin_ci, hdm]
      rfl
    · have hdm : (!decide ((j : Int) ∈ nI (tree rs))) = true := by rw [decide_eq_false fun m => hT (mem_nI.1 m)]; rfl
      have hw := (law_way_s ok b a (by omega) hab.2.2 hab.1 (by omega)).1
      have hrf : ringF rs n j = (wayF rs n b a).set j 1 := by unfold ringF; rw [hr]
      have hll := hw.len
      have hOn : OnTree rs n (wayF rs n b a) (twoP n a b) := ⟨hw.len, fun i hi hn => by
          apply Classical.byContradiction
          exact fun h => hn (hw.sup i h), fun v h0 h1 => by
          rw [hw.ends v]
          unfold twoP
          rw [lab_map _ h0 (by rw [upTo_len]; exact h1), upTo_lab h0 h1]
          repeat' split
          all_goals omega⟩
      have e1 : rFlowFor [.c (townD n rs), .c (.tuple ((twoP n a b).map .int))] = .ok (.c (.tuple ((wayF rs n b a).map .int))) [] := flow_for_s ok (twoP_len n a b) (twoP_sum n a b hab.1 (by omega) (by omega) hab.2.2) hOn
      obtain ⟨y3, y4, y5, y6, y7, ih⟩ := br_lp ok qs (j + 1) (R ++ [ringF rs n j]) (some (.c (.int j))) (some (.c (.int a))) (some (.c (.int b))) (some (.c (.list ((twoP n a b).map .int)))) (some (.c (.tuple ((wayF rs n b a).map .int)))) hd (by rw [List.length_append, List.length_singleton]; omega)
      have h1 := two_lc a b (some (.c (townD n rs))) (some (.c (.list ((nI (tree rs)).map .int)))) (some (tupsW R)) (some (.c (.int j))) x6 x7 none none (upTo n)
      have h1' : ((upTo n).map fun u => (if a = u then (1 : Int) else 0) - (if b = u then 1 else 0)) = twoP n a b := rfl
      rw [h1'] at h1
      have hrg : rng1 [.c (.int n)] = some ((upTo n).map .int) := rng1_s n (by omega)
      have z1 : ((upTo n).map PyData.int).length ≤ sizeLine := by rw [List.length_map, upTo_len]; exact small_line (by omega)
      have h2 := one_lc j (some (.c (townD n rs))) (some (.c (.list ((nI (tree rs)).map .int)))) none (some (.c (.int a))) (some (.c (.int b))) (some (.c (.list ((twoP n a b).map .int)))) (some (.c (.tuple ((wayF rs n b a).map .int)))) none (wayF rs n b a) 0
      rw [setFrom_eq j _ 0 (by omega), Nat.sub_zero, ← hrf] at h2
      have h3 := one_lc j (some (.c (townD n rs))) (some (.c (.list ((nI (tree rs)).map .int)))) (some (tupsW R)) (some (.c (.int a))) (some (.c (.int b))) (some (.c (.list ((twoP n a b).map .int)))) (some (.c (.tuple ((wayF rs n b a).map .int)))) none (wayF rs n b a) 0
      rw [setFrom_eq j _ 0 (by omega), Nat.sub_zero, ← hrf] at h3
      have z2 : (enN 0 (wayF rs n b a)).length ≤ sizeLine := by rw [enN_len]; exact small_line (by omega)
      have z3 : (R.map fun f => W.c (tupI f)).length ≤ 1000 := by rw [List.length_map]; omega
      have hap : (R.map fun f => W.c (tupI f)) ++ [W.c (.tuple ((ringF rs n j).map .int))] = (R ++ [ringF rs n j]).map fun f => W.c (tupI f) := by rw [List.map_append]; rfl
      refine ⟨y3, y4, y5, y6, y7, ?_⟩
      have ea : R ++ ringF rs n j :: ringsF rs n (List.range' (j + 1) qs.length) = (R ++ [ringF rs n j]) ++ ringsF rs n (List.range' (j + 1) qs.length) := by simp
      rw [if_neg hT, ea, ← ih]
      unfold townD tupsW at *
      conv => lhs; unfold brBody enF
      conv => lhs; arg 3; arg 1; rw [show rdD (a, b) = .tuple [.int a, .int b] from rfl]
      simp! only [notin_ci, hdm, hrg, z1, h1, tuple_cints, tuple_ints, e1, en_nums, h2, h3, z2, z3, hap]
      rfl
theorem base_rings_s {n : Nat} {rs : List Rd} (ok : TownOk n rs) : runD 11 [] gBaseRings [.c (townD n rs)] = .ok (.c (tupT (rings rs n))) [] := by
  obtain ⟨y3, y4, y5, y6, y7, e⟩ := br_lp ok rs 0 [] none none none none none rfl (by simp)
  have e1 : rTreePlaces [.c (townD n rs)] = .ok (intsW (nI (tree rs))) [] := tree_places_s ok
  have ht := tuple_tups (rings rs n)
  unfold rings at *
  rw [List.range_eq_range'] at *
  rw [List.nil_append] at e
  unfold townD tupsW intsW at *
  rw [List.map_nil] at e
  unfold gBaseRings
  simp! only [e1, fz_ints, en_town, e, ht]
noncomputable def gBaseTree : VL.Env → RS := (retS (prim (P1 tupleF) [(.val (callE (rTreePlaces) [(.val (var 0))]))]))
theorem base_tree_s {n : Nat} {rs : List Rd} (ok : TownOk n rs) : runD 1 [] gBaseTree [.c (townD n rs)] = .ok (.c (treeD rs)) [] := by
  have e1 : rTreePlaces [.c (townD n rs)] = .ok (intsW (nI (tree rs))) [] := tree_places_s ok
  have ht : tupleF (intsW (nI (tree rs))) = some (.c (treeD rs)) := by
    have := tupleF_l ((nI (tree rs)).map .int)
    rw [List.map_map] at this
    exact this
  unfold gBaseTree
  simp! only [e1, ht]
/-! ### ends, cuts, sums, products -/
def zR : List Rd → List Int → List PyData
  | r :: rs, x :: f => .tuple [rdD r, .int x] :: zR rs f
  | _, _ => []
theorem z2_R : ∀ (rs : List Rd) (f : List Int), zipD2 (rs.map rdD) (f.map .int) = zR rs f
  | [], _ => rfl
  | _ :: _, [] => rfl
  | r :: rs, x :: f => by
    have ih := z2_R rs f
    unfold zipD2 at *
    rw [List.map_cons, List.map_cons, List.zip_cons_cons, List.map_cons, ih]
    rfl
theorem z2_town (rs : List Rd) (f : List Int) : z2 [.c (.tuple (rs.map rdD)), .c (.tuple (f.map .int))] = some (zR rs f) := by
  rw [← z2_R]
  rfl
def zI : List Int → List Int → List PyData
  | x :: xs, y :: ys => .tuple [.int x, .int y] :: zI xs ys
  | _, _ => []
theorem z2_I : ∀ (xs ys : List Int), zipD2 (xs.map .int) (ys.map .int) = zI xs ys
  | [], _ => rfl
  | _ :: _, [] => rfl
  | r :: rs, x :: f => by
    have ih := z2_I rs f
    unfold zipD2 at *
    rw [List.map_cons, List.map_cons, List.zip_cons_cons, List.map_cons, ih]
    rfl
theorem z2_tt (xs ys : List Int) : z2 [.c (.tuple (xs.map .int)), .c (.tuple (ys.map .int))] = some (zI xs ys) := by
  rw [← z2_I]
  rfl
theorem z2_lt (xs ys : List Int) : z2 [.c (.list (xs.map .int)), .c (.tuple (ys.map .int))] = some (zI xs ys) := by
  rw [← z2_I]
  rfl
theorem zI_len : ∀ (xs ys : List Int), (zI xs ys).length ≤ xs.length
  | [], _ => Nat.zero_le _
  | _ :: _, [] => Nat.zero_le _
  | x :: xs, y :: ys => by
    have := zI_len xs ys
    simp only [zI, List.length_cons]
    omega
theorem ix_ints (L : List Int) (a : Int) (h0 : 0 ≤ a) (h1 : a < L.length) : ixF2 (.l (L.map fun x => .c (.int x))) (.c (.int a)) = some (.c (.int (lab L a))) := by
  obtain ⟨k, rfl⟩ : ∃ k : Nat, a = k := ⟨a.toNat, by omega⟩
  have hk : k < L.length := by omega
  rw [r_ix_l, at_nat, List.getElem?_map, List.getElem?_eq_getElem hk]
  unfold lab
  rw [List.getD_eq_getElem?_getD, Int.toNat_natCast, List.getElem?_eq_getElem hk]
  rfl
theorem lab_set (L : List Int) (k : Nat) (x v : Int) (hk : k < L.length) (h0 : 0 ≤ v) : lab (L.set k x) v = if v = k then x else lab L v := by
  unfold lab
  rw [getD_set _ _ _ _ hk]
  by_cases e : v = k
  · rw [if_pos e, if_pos (by omega)]
  · rw [if_neg e, if_neg (by omega)]
theorem lab_ext {L M : List Int} {n : Nat} (h1 : L.length = n) (h2 : M.length = n) (h : ∀ v : Int, 0 ≤ v → v < n → lab L v = lab M v) : L = M := by
  apply List.ext_getElem (by omega)
  intro i hi hj
  have := h (i : Int) (by omega) (by omega)
  unfold lab at this
  rw [List.getD_eq_getElem?_getD, List.getD_eq_getElem?_getD, Int.toNat_natCast, List.getElem?_eq_getElem hi, List.getElem?_eq_getElem hj] at this
  exact this
noncomputable def enBody : VL.Env → RS := (seqS (putS 2 (frzE (prim (P2 subF2) [(.val (prim (P2 ixF2) [(.bor 2), (.bor 4)])), (.bor 3)])) (var 4)) (putS 2 (frzE (prim (P2 addF2) [(.val (prim (P2 ixF2) [(.bor 2), (.bor 5)])), (.bor 3)])) (var 5)))
noncomputable def gEnds : VL.Env → RS := (seqS (asgS 2 (prim (P2 mulF2) [(.val (prim lstF [(.val (kc (.int 0)))])), (.val (prim (P2 ixF2) [(.bor 0), (.val (kc (.int 0)))]))])) (seqS (forS (rngI z2 [.val (frzE (prim (P2 ixF2) [(.bor 0), (.val (kc (.int 1)))])), .val (frzE (var 1))]) (tgT 2 (tgsC (tgT 2 (tgsC (tgN 4) (tgsC (tgN 5) tgsN))) (tgsC (tgN 3) tgsN))) enBody) (retS (prim (P1 tupleF) [(.bor 2)]))))
theorem en_lp (n : Nat) (t x1 : Option W) : ∀ (qs : List Rd) (f L : List Int) (x3 x4 x5 : Option W), (∀ a b, (a, b) ∈ qs → 0 ≤ a ∧ a < b ∧ b < n) → L.length = n → ∃ (L' : List Int) (y3 y4 y5 : Option W), L'.length = n ∧ (∀ v : Int, 0 ≤ v → v < n → lab L' v = lab L v + endsAt qs f v) ∧
    loopS (tgT 2 (tgsC (tgT 2 (tgsC (tgN 4) (tgsC (tgN 5) tgsN))) (tgsC (tgN 3) tgsN))) enBody (zR qs f) [t, x1, some (intsW L), x3, x4, x5] = .nx [t, x1, some (intsW L'), y3, y4, y5]
  | [], f, L, x3, x4, x5, _, hL => ⟨L, x3, x4, x5, hL, fun v _ _ => by cases f <;> exact (Int.add_zero _).symm, rfl⟩
  | (a, b) :: qs, [], L, x3, x4, x5, _, hL => ⟨L, x3, x4, x5, hL, fun v _ _ => (Int.add_zero _).symm, rfl⟩
  | (a, b) :: qs, x :: f, L, x3, x4, x5, hq, hL => by
    have hab := hq a b (by simp)
    obtain ⟨i, rfl⟩ : ∃ i : Nat, a = i := ⟨a.toNat, by omega⟩
    obtain ⟨j, rfl⟩ : ∃ j : Nat, b = j := ⟨b.toNat, by omega⟩
    have l1 : (L.set i (lab L i - x)).length = n := by rw [List.length_set]; exact hL
    obtain ⟨L', y3, y4, y5, h1, h2, ih⟩ := en_lp n t x1 qs f ((L.set i (lab L i - x)).set j (lab (L.set i (lab L i - x)) j + x)) (some (.c (.int x))) (some (.c (.int i))) (some (.c (.int j))) (fun c d m => hq c d (by simp [m])) (by rw [List.length_set]; exact l1)
    refine ⟨L', y3, y4, y5, h1, fun v h0 hv => ?_, ?_⟩
    · rw [h2 v h0 hv, lab_set _ j _ v (by omega) h0, lab_set L i _ j (by omega) (by omega), lab_set L i _ v (by omega) h0]
      show _ = lab L v + ((if (j : Int) = v then x else 0) - (if (i : Int) = v then x else 0) + endsAt qs f v)
      by_cases e1 : v = (j : Int)
      · subst e1
        have e2 : ¬ (j : Int) = (i : Int) := by omega
        have e3 : ¬ (i : Int) = (j : Int) := by omega
        simp only [e2, e3, if_true, if_false]
        omega
      · have e1' : ¬ (j : Int) = v := fun e => e1 e.symm
        by_cases e2 : v = (i : Int)
        · subst e2
          simp only [e1, e1', if_true, if_false]
          omega
        · have e2' : ¬ (i : Int) = v := fun e => e2 e.symm
          simp only [e1, e1', e2, e2', if_false]
          omega
    · rw [← ih]
      have a1 := ix_ints L i (by omega) (by omega)
      have a2 := ix_ints (L.set i (lab L i - x)) j (by omega) (by omega)
      have i1 := ixN_s (l := (L.map fun x => W.c (PyData.int x)).length) (k := i) (by rw [List.length_map]; omega)
      have i2 := ixN_s (l := ((L.set i (lab L i - x)).map fun x => W.c (PyData.int x)).length) (k := j) (by rw [List.length_map]; omega)
      unfold intsW at *
      conv => lhs; unfold enBody zR rdD
      simp! only [a1, i1, intsW_set, a2, i2]
      rfl
def endsL (n : Nat) (rs : List Rd) (f : List Int) : List Int := (upTo n).map (endsAt rs f)
theorem ends_s {n : Nat} {rs : List Rd} (ok : TownOk n rs) (f : List Int) : runD 6 [] gEnds [.c (townD n rs), .c (tupI f)] = .ok (.c (tupI (endsL n rs f))) [] := by
  have htop := ok.top
  have hroads := ok.roads
  obtain ⟨L', y3, y4, y5, h1, h2, e⟩ := en_lp n (some (.c (townD n rs))) (some (.c (tupI f))) rs f (List.replicate n 0) none none none ok.ends (List.length_replicate)
  have hL : L' = endsL n rs f := lab_ext h1 (by unfold endsL; rw [List.length_map, upTo_len]) fun v h0 hv => by
    rw [h2 v h0 hv]
    unfold endsL
    rw [lab_map _ h0 (by rw [upTo_len]; exact hv), upTo_lab h0 hv]
    have : lab (List.replicate n 0) v = 0 := by
      unfold lab
      rw [List.getD_eq_getElem?_getD, List.getElem?_replicate]
      split <;> rfl
    omega
  rw [hL] at e
  have hz := mul_zl n (by omega)
  have ht : tupleF (.l ((endsL n rs f).map fun x => W.c (.int x))) = some (.c (.tuple ((endsL n rs f).map .int))) := by
    have := tupleF_l ((endsL n rs f).map .int)
    rw [List.map_map] at this
    exact this
  unfold townD tupI intsW at *
  unfold gEnds
  simp! only [hz, z2_town, e, ht]
def cutL (rs : List Rd) (ps : List Int) : List Int := rs.map fun r => lab ps r.1 - lab ps r.2
noncomputable def gCutFlow : VL.Env → RS := (retS (prim (P1 tupleF) [(.val (lcE [2, 3] (seqI (prim (P2 ixF2) [(.bor 0), (.val (kc (.int 1)))])) (tgT 2 (tgsC (tgN 2) (tgsC (tgN 3) tgsN))) yesT (prim (P2 subF2) [(.val (prim (P2 ixF2) [(.bor 1), (.bor 2)])), (.val (prim (P2 ixF2) [(.bor 1), (.bor 3)]))])))]))
theorem cut_lc (ps : List Int) (t : Option W) : ∀ qs : List Rd, (∀ a b, (a, b) ∈ qs → 0 ≤ a ∧ a < ps.length ∧ 0 ≤ b ∧ b < ps.length) → lcLoop [2, 3] (tgT 2 (tgsC (tgN 2) (tgsC (tgN 3) tgsN))) yesT (prim (P2 subF2) [(.val (prim (P2 ixF2) [(.bor 1), (.bor 2)])), (.val (prim (P2 ixF2) [(.bor 1), (.bor 3)]))]) (qs.map rdD) [t, some (.c (tupI ps)), none, none] = .ok ((cutL qs ps).map .int) [t, some (.c (tupI ps)), none, none]
  | [], _ => rfl
  | (a, b) :: qs, h => by
    have ih := cut_lc ps t qs fun c d m => h c d (by simp [m])
    have hab := h a b (by simp)
    have h1 := at_lab (L := ps) hab.1 hab.2.1
    have h2 := at_lab (L := ps) hab.2.2.1 hab.2.2.2
    have e : cutL ((a, b) :: qs) ps = (lab ps a - lab ps b) :: cutL qs ps := rfl
    rw [e]
    unfold tupI at *
    rw [List.map_cons, show rdD (a, b) = .tuple [.int a, .int b] from rfl, List.map_cons]
    simp! only [ih, h1, h2]
theorem cut_flow_s {n : Nat} {rs : List Rd} (ok : TownOk n rs) (ps : List Int) (hp : ps.length = n) : runD 4 [] gCutFlow [.c (townD n rs), .c (tupI ps)] = .ok (.c (tupI (cutL rs ps))) [] := by
  have h := cut_lc ps (some (.c (townD n rs))) rs fun a b m => by have := ok.ends a b m; omega
  have hz : (rs.map rdD).length ≤ sizeLine := by rw [List.length_map]; exact small_line (by have := ok.roads; omega)
  unfold townD tupI at *
  unfold gCutFlow
  simp! only [h, hz, tuple_ints]
/-! ### sums of flows, products -/
def addC (c : Int) (xs ys : List Int) : List Int := List.zipWith (fun x y => x + c * y) xs ys
def sumF (m : Nat) (acc : List Int) : List (List Int) → List Int → List Int
  | f :: R, c :: ns => sumF m (addC c acc f) R ns
  | _, _ => acc
def zF : List (List Int) → List Int → List PyData
  | f :: R, c :: ns => .tuple [tupI f, .int c] :: zF R ns
  | _, _ => []
theorem z2_F : ∀ (R : List (List Int)) (ns : List Int), zipD2 (R.map tupI) (ns.map .int) = zF R ns
  | [], _ => rfl
  | _ :: _, [] => rfl
  | r :: rs, x :: f => by
    have ih := z2_F rs f
    unfold zipD2 at *
    rw [List.map_cons, List.map_cons, List.zip_cons_cons, List.map_cons, ih]
    rfl
theorem z2_flows (R : List (List Int)) (ns : List Int) : z2 [.c (tupT R), .c (tupI ns)] = some (zF R ns) := by
  rw [← z2_F]
  rfl
theorem add_lc (c : Int) (hc : c.natAbs < 2 ^ 64) (x0 x1 x2 x3 x4 : Option W) : ∀ (xs ys : List Int), lcLoop [6, 7] (tgT 2 (tgsC (tgN 6) (tgsC (tgN 7) tgsN))) yesT (prim (P2 addF2) [(.bor 6), (.val (prim (P2 mulF2) [(.bor 5), (.bor 7)]))]) (zI xs ys) [x0, x1, x2, x3, x4, some (.c (.int c)), none, none] = .ok ((addC c xs ys).map .int) [x0, x1, x2, x3, x4, some (.c (.int c)), none, none]
  | [], _ => rfl
  | _ :: _, [] => rfl
  | x :: xs, y :: ys => by
    have ih := add_lc c hc x0 x1 x2 x3 x4 xs ys
    have hm : CMulA c y := mulA_l c y hc
    have e : addC c (x :: xs) (y :: ys) = (x + c * y) :: addC c xs ys := rfl
    rw [e, List.map_cons, zI]
    simp! only [ih, hm]
noncomputable def suBody : VL.Env → RS := (asgS 3 (frzE (lcE [6, 7] (rngI z2 [.val (frzE (var 3)), .val (frzE (var 4))]) (tgT 2 (tgsC (tgN 6) (tgsC (tgN 7) tgsN))) yesT (prim (P2 addF2) [(.bor 6), (.val (prim (P2 mulF2) [(.bor 5), (.bor 7)]))]))))
noncomputable def gLawSum : VL.Env → RS := (seqS (asgS 3 (frzE (prim (P2 mulF2) [(.val (prim lstF [(.val (kc (.int 0)))])), (.bor 2)]))) (seqS (forS (rngI z2 [.val (frzE (var 0)), .val (frzE (var 1))]) (tgT 2 (tgsC (tgN 4) (tgsC (tgN 5) tgsN))) suBody) (retS (prim (P1 tupleF) [(.bor 3)]))))
theorem addC_len (c : Int) (xs ys : List Int) (h : ys.length = xs.length) : (addC c xs ys).length = xs.length := by unfold addC; rw [List.length_zipWith]; omega
theorem su_lp (m : Nat) (hm : m ≤ 1000) (x0 x1 x2 : Option W) : ∀ (R : List (List Int)) (ns acc : List Int) (x4 x5 : Option W), acc.length = m → (∀ f ∈ R, f.length = m) → (∀ c ∈ ns, c.natAbs < 2 ^ 64) → ∃ y4 y5 : Option W,
    loopS (tgT 2 (tgsC (tgN 4) (tgsC (tgN 5) tgsN))) suBody (zF R ns) [x0, x1, x2, some (.c (.list (acc.map .int))), x4, x5, none, none] = .nx [x0, x1, x2, some (.c (.list ((sumF m acc R ns).map .int))), y4, y5, none, none]
  | [], ns, acc, x4, x5, _, _, _ => ⟨x4, x5, by cases ns <;> rfl⟩
  | _ :: _, [], acc, x4, x5, _, _, _ => ⟨x4, x5, rfl⟩
  | f :: R, c :: ns, acc, x4, x5, ha, hR, hn => by
    have hfl := hR f (by simp)
    obtain ⟨y4, y5, ih⟩ := su_lp m hm x0 x1 x2 R ns (addC c acc f) (some (.c (tupI f))) (some (.c (.int c))) (by rw [addC_len c acc f (by omega)]; exact ha) (fun g hg => hR g (by simp [hg])) (fun d hd => hn d (by simp [hd]))
    refine ⟨y4, y5, ?_⟩
    have hl := add_lc c (hn c (by simp)) x0 x1 x2 (some (.c (.list (acc.map .int)))) (some (.c (tupI f))) acc f
    have z1 : (zI acc f).length ≤ sizeLine := small_line (by have := zI_len acc f; omega)
    have hz := z2_lt acc f
    have es : sumF m acc (f :: R) (c :: ns) = sumF m (addC c acc f) R ns := rfl
    rw [es, ← ih]
    unfold tupI at *
    conv => lhs; unfold suBody zF
    unfold tupI
    simp! only [hl, z1, hz]
    rfl
theorem law_sum_s (m : Nat) (hm : m ≤ 1000) (R : List (List Int)) (ns : List Int) (hR : ∀ f ∈ R, f.length = m) (hn : ∀ c ∈ ns, c.natAbs < 2 ^ 64) : runD 8 [] gLawSum [.c (tupT R), .c (tupI ns), .c (.int m)] = .ok (.c (tupI (sumF m (List.replicate m 0) R ns))) [] := by
  obtain ⟨y4, y5, e⟩ := su_lp m hm (some (.c (tupT R))) (some (.c (tupI ns))) (some (.c (.int m))) R ns (List.replicate m 0) none none (List.length_replicate) hR hn
  have hz := mul_zl m hm
  have h2 := z2_flows R ns
  unfold intsW at hz
  unfold tupT tupI at *
  unfold gLawSum
  simp! only [hz, fz_ints, h2, e, tuple_cints]
def dotL (xs ys : List Int) : Int := (List.zipWith (fun x y => x * y) xs ys).sum
noncomputable def gProduct : VL.Env → RS := (retS (walkE sumG (lcE [2, 3] (rngI z2 [.val (frzE (var 0)), .val (frzE (var 1))]) (tgT 2 (tgsC (tgN 2) (tgsC (tgN 3) tgsN))) yesT (prim (P2 mulF2) [(.bor 2), (.bor 3)]))))
theorem dot_lc (x0 x1 : Option W) : ∀ (xs ys : List Int), (∀ x ∈ xs, x.natAbs < 2 ^ 64) → lcLoop [2, 3] (tgT 2 (tgsC (tgN 2) (tgsC (tgN 3) tgsN))) yesT (prim (P2 mulF2) [(.bor 2), (.bor 3)]) (zI xs ys) [x0, x1, none, none] = .ok ((List.zipWith (fun x y => x * y) xs ys).map .int) [x0, x1, none, none]
  | [], _, _ => rfl
  | _ :: _, [], _ => rfl
  | x :: xs, y :: ys, h => by
    have ih := dot_lc x0 x1 xs ys fun z hz => h z (by simp [hz])
    have hm : CMulA x y := mulA_l x y (h x (by simp))
    rw [List.zipWith_cons_cons, List.map_cons, zI]
    simp! only [ih, hm]
theorem product_s (xs ys : List Int) (hl : xs.length ≤ 1000) (h : ∀ x ∈ xs, x.natAbs < 2 ^ 64) : runD 4 [] gProduct [.c (tupI xs), .c (tupI ys)] = .ok (.c (.int (dotL xs ys))) [] := by
  have h1 := dot_lc (some (.c (tupI xs))) (some (.c (tupI ys))) xs ys h
  have hz : (zI xs ys).length ≤ sizeLine := small_line (by have := zI_len xs ys; omega)
  unfold tupI dotL at *
  unfold gProduct
  simp! only [z2_tt, hz, h1, sum_i]
def matL (R : List (List Int)) : List (List Int) := R.map fun f => R.map fun g => dotL f g
noncomputable def rProduct : List VL.W → VL.RD := runD 4 [] gProduct
noncomputable def rBaseRings : List VL.W → VL.RD := runD 11 [] gBaseRings
noncomputable def gRingMatrix : VL.Env → RS := (seqS (asgS 1 (frzE (callE (rBaseRings) [(.val (var 0))]))) (retS (prim (P1 tupleF) [(.val (lcE [2] (seqI (var 1)) (tgN 2) yesT (prim (P1 tupleF) [(.val (lcE [3] (seqI (var 1)) (tgN 3) yesT (callE (rProduct) [(.val (var 2)), (.val (var 3))])))])))])))
theorem row_lc (x0 x1 : Option W) (f : List Int) (hl : f.length ≤ 1000) (hf : ∀ x ∈ f, x.natAbs < 2 ^ 64) : ∀ R : List (List Int), lcLoop [3] (tgN 3) yesT (callE (rProduct) [(.val (var 2)), (.val (var 3))]) (R.map tupI) [x0, x1, some (.c (tupI f)), none] = .ok ((R.map fun g => dotL f g).map .int) [x0, x1, some (.c (tupI f)), none]
  | [] => rfl
  | g :: R => by
    have ih := row_lc x0 x1 f hl hf R
    have e : rProduct [.c (tupI f), .c (tupI g)] = .ok (.c (.int (dotL f g))) [] := product_s f g hl hf
    rw [List.map_cons, List.map_cons, List.map_cons]
    simp! only [e, ih]
theorem rows_lc (x0 : Option W) (R0 : List (List Int)) (hz : R0.length ≤ 1000) : ∀ R : List (List Int), (∀ f ∈ R, f.length ≤ 1000 ∧ ∀ x ∈ f, x.natAbs < 2 ^ 64) → lcLoop [2] (tgN 2) yesT (prim (P1 tupleF) [(.val (lcE [3] (seqI (var 1)) (tgN 3) yesT (callE (rProduct) [(.val (var 2)), (.val (var 3))])))]) (R.map tupI) [x0, some (.c (tupT R0)), none, none] = .ok ((R.map fun f => R0.map fun g => dotL f g).map tupI) [x0, some (.c (tupT R0)), none, none]
  | [], _ => rfl
  | f :: R, h => by
    have ih := rows_lc x0 R0 hz R fun g hg => h g (by simp [hg])
    have h1 := row_lc x0 (some (.c (tupT R0))) f (h f (by simp)).1 (h f (by simp)).2 R0
    have z1 : (R0.map tupI).length ≤ sizeLine := by rw [List.length_map]; exact small_line hz
    have ht := tuple_ints (R0.map fun g => dotL f g)
    have et : PyData.tuple ((R0.map fun g => dotL f g).map .int) = tupI (R0.map fun g => dotL f g) := rfl
    rw [et] at ht
    rw [List.map_cons, List.map_cons, List.map_cons]
    unfold tupT at *
    simp! only [h1, z1, ht, ih]
theorem tuple_cT (R : List (List Int)) : tupleF (.l ((R.map tupI).map .c)) = some (.c (tupT R)) := tupleF_l (R.map tupI)
theorem ring_matrix_s {n : Nat} {rs : List Rd} (ok : TownOk n rs) (hl : (rings rs n).length ≤ 1000) (h : ∀ f ∈ rings rs n, f.length ≤ 1000 ∧ ∀ x ∈ f, x.natAbs < 2 ^ 64) : runD 4 [] gRingMatrix [.c (townD n rs)] = .ok (.c (tupT (matL (rings rs n)))) [] := by
  have e1 : rBaseRings [.c (townD n rs)] = .ok (.c (tupT (rings rs n))) [] := base_rings_s ok
  have h1 := rows_lc (some (.c (townD n rs))) (rings rs n) hl (rings rs n) h
  have z1 : ((rings rs n).map tupI).length ≤ sizeLine := by rw [List.length_map]; exact small_line hl
  have ht := tuple_cT (matL (rings rs n))
  unfold matL at *
  unfold tupT at *
  unfold gRingMatrix
  simp! only [e1, h1, z1, ht]
noncomputable def lpBody : VL.Env → RS := (dropS (mutE appM 1 [(.val (frzE (prim (P1 tupleF) [(.val (lcE [3] (seqI (var 0)) (tgN 3) yesT (walkE sumG (lcE [4, 5] (rngI z2 [.val (frzE (var 2)), .val (frzE (var 3))]) (tgT 2 (tgsC (tgN 4) (tgsC (tgN 5) tgsN))) yesT (prim (P2 mulF2) [(.bor 4), (.bor 5)])))))])))]))
noncomputable def gLawProducts : VL.Env → RS := (seqS (asgS 1 (prim lstF [])) (seqS (forS (seqI (var 0)) (tgN 2) lpBody) (retS (prim (P1 tupleF) [(.bor 1)]))))
theorem dot2_lc (x0 x1 x2 x3 : Option W) : ∀ (xs ys : List Int), (∀ x ∈ xs, x.natAbs < 2 ^ 64) → lcLoop [4, 5] (tgT 2 (tgsC (tgN 4) (tgsC (tgN 5) tgsN))) yesT (prim (P2 mulF2) [(.bor 4), (.bor 5)]) (zI xs ys) [x0, x1, x2, x3, none, none] = .ok ((List.zipWith (fun x y => x * y) xs ys).map .int) [x0, x1, x2, x3, none, none]
  | [], _, _ => rfl
  | _ :: _, [], _ => rfl
  | x :: xs, y :: ys, h => by
    have ih := dot2_lc x0 x1 x2 x3 xs ys fun z hz => h z (by simp [hz])
    have hm : CMulA x y := mulA_l x y (h x (by simp))
    rw [List.zipWith_cons_cons, List.map_cons, zI]
    simp! only [ih, hm]
theorem lrow_lc (x0 x1 : Option W) (f : List Int) (hl : f.length ≤ 1000) (hf : ∀ x ∈ f, x.natAbs < 2 ^ 64) : ∀ R : List (List Int), lcLoop [3] (tgN 3) yesT (walkE sumG (lcE [4, 5] (rngI z2 [.val (frzE (var 2)), .val (frzE (var 3))]) (tgT 2 (tgsC (tgN 4) (tgsC (tgN 5) tgsN))) yesT (prim (P2 mulF2) [(.bor 4), (.bor 5)]))) (R.map tupI) [x0, x1, some (.c (tupI f)), none, none, none] = .ok ((R.map fun g => dotL f g).map .int) [x0, x1, some (.c (tupI f)), none, none, none]
  | [] => rfl
  | g :: R => by
    have ih := lrow_lc x0 x1 f hl hf R
    have h1 := dot2_lc x0 x1 (some (.c (tupI f))) (some (.c (tupI g))) f g hf
    have hz : (zI f g).length ≤ sizeLine := small_line (by have := zI_len f g; omega)
    unfold dotL tupI at *
    rw [List.map_cons, List.map_cons, List.map_cons]
    simp! only [z2_tt, hz, h1, sum_i, ih]
theorem lrows_lp (R0 : List (List Int)) (hz : R0.length ≤ 900) : ∀ (R S : List (List Int)) (x2 : Option W), (∀ f ∈ R, f.length ≤ 1000 ∧ ∀ x ∈ f, x.natAbs < 2 ^ 64) → S.length + R.length ≤ 900 → ∃ y2 : Option W,
    loopS (tgN 2) lpBody (R.map tupI) [some (.c (tupT R0)), some (tupsW S), x2, none, none, none] = .nx [some (.c (tupT R0)), some (tupsW (S ++ R.map fun f => R0.map fun g => dotL f g)), y2, none, none, none]
  | [], S, x2, _, _ => ⟨x2, by rw [List.map_nil, List.map_nil, List.append_nil]; rfl⟩
  | f :: R, S, x2, h, hl => by
    rw [List.length_cons] at hl
    obtain ⟨y2, ih⟩ := lrows_lp R0 hz R (S ++ [R0.map fun g => dotL f g]) (some (.c (tupI f))) (fun g hg => h g (by simp [hg])) (by rw [List.length_append, List.length_singleton]; omega)
    refine ⟨y2, ?_⟩
    have h1 := lrow_lc (some (.c (tupT R0))) (some (tupsW S)) f (h f (by simp)).1 (h f (by simp)).2 R0
    have h2 := lrow_lc (some (.c (tupT R0))) none f (h f (by simp)).1 (h f (by simp)).2 R0
    have z1 : (R0.map tupI).length ≤ sizeLine := by rw [List.length_map]; exact small_line (by omega)
    have ht := tuple_ints (R0.map fun g => dotL f g)
    have z3 : (S.map fun f => W.c (tupI f)).length ≤ 1000 := by rw [List.length_map]; omega
    have hap : (S.map fun f => W.c (tupI f)) ++ [W.c (.tuple ((R0.map fun g => dotL f g).map .int))] = (S ++ [R0.map fun g => dotL f g]).map fun f => W.c (tupI f) := by rw [List.map_append]; rfl
    have ea : S ++ (f :: R).map (fun f => R0.map fun g => dotL f g) = (S ++ [R0.map fun g => dotL f g]) ++ R.map fun f => R0.map fun g => dotL f g := by simp
    rw [ea, ← ih, List.map_cons]
    unfold tupT tupsW at *
    conv => lhs; unfold lpBody
    simp! only [h1, h2, z1, ht, z3, hap]
    rfl
theorem law_products_s (R : List (List Int)) (hz : R.length ≤ 900) (h : ∀ f ∈ R, f.length ≤ 1000 ∧ ∀ x ∈ f, x.natAbs < 2 ^ 64) : runD 6 [] gLawProducts [.c (tupT R)] = .ok (.c (tupT (matL R))) [] := by
  obtain ⟨y2, e⟩ := lrows_lp R hz R [] none h (by simpa using hz)
  have ht := tuple_tups (matL R)
  unfold matL at *
  rw [List.nil_append] at e
  unfold tupT tupsW at *
  rw [List.map_nil] at e
  unfold gLawProducts
  simp! only [e, ht]
/-! ### plain facts -/
theorem endsAt_add (c v : Int) : ∀ (rs : List Rd) (f g : List Int), f.length = rs.length → g.length = rs.length → endsAt rs (addC c f g) v = endsAt rs f v + c * endsAt rs g v
  | [], f, g, _, _ => by cases f <;> cases g <;> exact (by show (0 : Int) = 0 + c * 0; omega)
  | (a, b) :: rs, [], _, h, _ => by simp at h
  | (a, b) :: rs, _ :: _, [], _, h => by simp at h
  | (a, b) :: rs, x :: f, y :: g, h1, h2 => by
    have ih := endsAt_add c v rs f g (by simpa using h1) (by simpa using h2)
    show (if b = v then x + c * y else 0) - (if a = v then x + c * y else 0) + endsAt rs (addC c f g) v = ((if b = v then x else 0) - (if a = v then x else 0) + endsAt rs f v) + c * ((if b = v then y else 0) - (if a = v then y else 0) + endsAt rs g v)
    rw [ih, Int.mul_add, Int.mul_sub]
    by_cases e1 : b = v <;> by_cases e2 : a = v <;> simp only [e1, e2, if_true, if_false, Int.mul_zero] <;> omega
theorem getD_add (c : Int) (i : Nat) (f g : List Int) (h1 : i < f.length) (h2 : g.length = f.length) : (addC c f g).getD i 0 = f.getD i 0 + c * g.getD i 0 := by
  unfold addC
  rw [List.getD_eq_getElem?_getD, List.getD_eq_getElem?_getD, List.getD_eq_getElem?_getD, List.getElem?_zipWith, List.getElem?_eq_getElem h1, List.getElem?_eq_getElem (by omega)]
  rfl
theorem sumF_ends (rs : List Rd) : ∀ (R : List (List Int)) (ns acc : List Int), acc.length = rs.length → (∀ f ∈ R, f.length = rs.length ∧ ∀ v, endsAt rs f v = 0) → (∀ v, endsAt rs acc v = 0) → (sumF rs.length acc R ns).length = rs.length ∧ ∀ v, endsAt rs (sumF rs.length acc R ns) v = 0
  | [], ns, acc, h1, _, h3 => by
    have : sumF rs.length acc [] ns = acc := by cases ns <;> rfl
    rw [this]; exact ⟨h1, h3⟩
  | _ :: _, [], acc, h1, _, h3 => ⟨h1, h3⟩
  | f :: R, c :: ns, acc, h1, h2, h3 => by
    have hf := h2 f (by simp)
    refine sumF_ends rs R ns (addC c acc f) (by rw [addC_len c acc f (by omega)]; exact h1) (fun g hg => h2 g (by simp [hg])) fun v => ?_
    rw [endsAt_add c v rs acc f h1 hf.1, h3 v, hf.2 v]
    omega
/-- what the numbers give at a place -/
def giveAt (i : Nat) : List Nat → List Int → Int
  | k :: ks, c :: ns => (if i = k then c else 0) + giveAt i ks ns
  | _, _ => 0
theorem sumF_off (rs : List Rd) (n : Nat) (i : Nat) (hi : i < rs.length) (hT : i ∉ tree rs) : ∀ (ks : List Nat) (ns acc : List Int), acc.length = rs.length → (∀ k ∈ ks, IsRing rs k (ringF rs n k)) → (sumF rs.length acc (ks.map (ringF rs n)) ns).getD i 0 = acc.getD i 0 + giveAt i ks ns
  | [], ns, acc, _, _ => by
    have e1 : sumF rs.length acc [] ns = acc := by cases ns <;> rfl
    have e2 : giveAt i [] ns = 0 := by cases ns <;> rfl
    rw [List.map_nil, e1, e2]; omega
  | _ :: _, [], acc, _, _ => by
    show acc.getD i 0 = acc.getD i 0 + 0
    omega
  | k :: ks, c :: ns, acc, ha, h => by
    have hr := h k (by simp)
    have hl := hr.len
    have ih := sumF_off rs n i hi hT ks ns (addC c acc (ringF rs n k)) (by rw [addC_len c acc _ (by omega)]; exact ha) fun j hj => h j (by simp [hj])
    show (sumF rs.length (addC c acc (ringF rs n k)) (ks.map (ringF rs n)) ns).getD i 0 = acc.getD i 0 + ((if i = k then c else 0) + giveAt i ks ns)
    rw [ih, getD_add c i acc _ (by omega) (by omega), hr.off i hi hT]
    by_cases e : i = k
    · rw [if_pos e, if_pos e]; omega
    · rw [if_neg e, if_neg e]; omega
theorem give_nil (i : Nat) : ∀ (ks : List Nat) (ns : List Int), i ∉ ks → giveAt i ks ns = 0
  | [], ns, _ => by cases ns <;> rfl
  | _ :: _, [], _ => rfl
  | k :: ks, c :: ns, h => by
    have ih := give_nil i ks ns fun m => h (by simp [m])
    have e : ¬ i = k := fun e => h (by simp [e])
    show (if i = k then c else 0) + giveAt i ks ns = 0
    rw [ih, if_neg e]; rfl
theorem give_all : ∀ (ks : List Nat) (ns : List Int), ks.Nodup → ks.length = ns.length → ks.map (fun i => giveAt i ks ns) = ns
  | [], [], _, _ => rfl
  | [], _ :: _, _, h => by simp at h
  | _ :: _, [], _, h => by simp at h
  | k :: ks, c :: ns, h, hl => by
    obtain ⟨h1, h2⟩ := List.nodup_cons.1 h
    have ih := give_all ks ns h2 (by simpa using hl)
    rw [List.map_cons]
    congr 1
    · show (if k = k then c else 0) + giveAt k ks ns = c
      rw [if_pos rfl, give_nil k ks ns h1]; omega
    · conv => rhs; rw [← ih]
      apply List.map_congr_left
      intro i hi
      have e : ¬ i = k := fun e => h1 (e ▸ hi)
      show (if i = k then c else 0) + giveAt i ks ns = _
      rw [if_neg e]; omega
theorem sum_zero' (f : Int → Int) : ∀ S : List Int, (∀ u ∈ S, f u = 0) → (S.map f).sum = 0
  | [], _ => rfl
  | u :: S, h => by
    rw [List.map_cons, List.sum_cons, h u (by simp), sum_zero' f S fun v hv => h v (by simp [hv])]; rfl
theorem cut_dot (ps : List Int) (S : List Int) (hS : S.Nodup) : ∀ (rs : List Rd) (f : List Int), (∀ a b, (a, b) ∈ rs → a ∈ S ∧ b ∈ S) → (S.map fun v => lab ps v * endsAt rs f v).sum = - dotL (cutL rs ps) f
  | [], f, _ => by
    rw [sum_zero' _ S fun u _ => by show lab ps u * endsAt [] f u = 0; have : endsAt [] f u = 0 := (by cases f <;> rfl); rw [this, Int.mul_zero]]
    show (0 : Int) = - dotL [] f
    rfl
  | (a, b) :: rs, [], _ => by
    rw [sum_zero' _ S fun u _ => by show lab ps u * 0 = 0; exact Int.mul_zero _]
    rfl
  | (a, b) :: rs, x :: f, h => by
    have ih := cut_dot ps S hS rs f fun c d m => h c d (by simp [m])
    have hab := h a b (by simp)
    have e : (fun v => lab ps v * endsAt ((a, b) :: rs) (x :: f) v) = fun v => ((if b = v then lab ps b * x else 0) - (if a = v then lab ps a * x else 0)) + lab ps v * endsAt rs f v := by
      funext v
      show lab ps v * ((if b = v then x else 0) - (if a = v then x else 0) + endsAt rs f v) = _
      rw [Int.mul_add, Int.mul_sub]
      congr 2
      · by_cases e : b = v
        · subst e; simp
        · simp [e]
      · by_cases e : a = v
        · subst e; simp
        · simp [e]
    rw [e, sum_add', sum_sub', sum_pt _ b S hS, sum_pt _ a S hS, if_pos hab.1, if_pos hab.2, ih]
    show lab ps b * x - lab ps a * x + -dotL (cutL rs ps) f = - ((lab ps a - lab ps b) * x + dotL (cutL rs ps) f)
    rw [Int.sub_mul]
    omega
theorem cut_nought {n : Nat} {rs : List Rd} (ok : TownOk n rs) (ps f : List Int) (h : ∀ v, endsAt rs f v = 0) : dotL (cutL rs ps) f = 0 := by
  have h1 := cut_dot ps (upTo n) (upTo_nd n) rs f fun a b m => by
    have := ok.ends a b m
    exact ⟨mem_upTo.2 ⟨by omega, by omega⟩, mem_upTo.2 ⟨by omega, by omega⟩⟩
  rw [sum_zero' _ (upTo n) fun u _ => by show lab ps u * endsAt rs f u = 0; rw [h u, Int.mul_zero]] at h1
  omega
theorem ends_nought (n : Nat) (rs : List Rd) (f : List Int) (h : ∀ v, endsAt rs f v = 0) : endsL n rs f = List.replicate n 0 := by
  unfold endsL
  apply List.ext_getElem
  · rw [List.length_map, upTo_len, List.length_replicate]
  · intro i h1 h2
    rw [List.getElem_map, List.getElem_replicate]
    exact h _
noncomputable def offs (rs : List Rd) : List Nat := (List.range rs.length).filter fun k => decide (k ∉ tree rs)
theorem rings_eq (rs : List Rd) (n : Nat) : rings rs n = (offs rs).map (ringF rs n) := rfl
theorem offs_mem {rs : List Rd} {k : Nat} : k ∈ offs rs ↔ k < rs.length ∧ k ∉ tree rs := by
  unfold offs
  rw [List.mem_filter, List.mem_range, decide_eq_true_eq]
theorem offs_nd (rs : List Rd) : (offs rs).Nodup := (List.nodup_range).filter _
theorem offs_len (rs : List Rd) : (offs rs).length ≤ rs.length := by
  have := List.length_filter_le (fun k => decide (k ∉ tree rs)) (List.range rs.length)
  rwa [List.length_range] at this
theorem rings_ok {n : Nat} {rs : List Rd} (ok : TownOk n rs) : ∀ f ∈ rings rs n, f.length = rs.length ∧ (∀ x ∈ f, x = 0 ∨ x = 1 ∨ x = -1) ∧ ∀ v, endsAt rs f v = 0 := by
  intro f hf
  rw [rings_eq] at hf
  obtain ⟨k, hk, rfl⟩ := List.mem_map.1 hf
  obtain ⟨h1, h2⟩ := offs_mem.1 hk
  have := ring_s ok h1 h2
  exact ⟨this.len, this.one, this.ends⟩
theorem sum_offs {n : Nat} {rs : List Rd} (ok : TownOk n rs) (ns : List Int) (hl : ns.length = (offs rs).length) : (offs rs).map (fun k => (sumF rs.length (List.replicate rs.length 0) (rings rs n) ns).getD k 0) = ns := by
  have e : (offs rs).map (fun k => (sumF rs.length (List.replicate rs.length 0) (rings rs n) ns).getD k 0) = (offs rs).map fun k => giveAt k (offs rs) ns := by
    apply List.map_congr_left
    intro k hk
    obtain ⟨h1, h2⟩ := offs_mem.1 hk
    rw [rings_eq, sumF_off rs n k h1 h2 (offs rs) ns (List.replicate rs.length 0) (List.length_replicate) fun j hj => ring_s ok (offs_mem.1 hj).1 (offs_mem.1 hj).2]
    have : (List.replicate rs.length (0 : Int)).getD k 0 = 0 := by
      rw [List.getD_eq_getElem?_getD, List.getElem?_replicate]
      split <;> rfl
    rw [this]; omega
  rw [e]
  exact give_all (offs rs) ns (offs_nd rs) hl.symm
theorem sum_ends0 {n : Nat} {rs : List Rd} (ok : TownOk n rs) (ns : List Int) : (sumF rs.length (List.replicate rs.length 0) (rings rs n) ns).length = rs.length ∧ ∀ v, endsAt rs (sumF rs.length (List.replicate rs.length 0) (rings rs n) ns) v = 0 :=
  sumF_ends rs (rings rs n) ns _ (List.length_replicate) (fun f hf => ⟨(rings_ok ok f hf).1, (rings_ok ok f hf).2.2⟩) fun v => endsAt_zero v rs rs.length
/-! ### shown texts, sizes -/
theorem repr_c {d : PyData} (h : showOk d = true) : reprF (.c d) = some (.c (.str d.shown)) := by
  unfold reprF
  simp only [fz, h, if_true]
theorem repr_3 {a b c : PyData} (h : showOk (.list [a, b, c]) = true) : reprF (.l [.c a, .c b, .c c]) = some (.c (.str (PyData.list [a, b, c]).shown)) := by
  unfold reprF
  simp only [fz, fzAll, Option.map_some, h, if_true]
theorem neS_same (x : Str) : neS2 (.c (.str x)) (.c (.str x)) = some false := by
  show some (!(x == x)) = some false
  simp
theorem getD0 (v : PyData) : [v].getD 0 PyData.none = v := rfl
theorem eqv_ints : ∀ xs : List Int, PyData.eqvAll (xs.map .int) (xs.map .int) = true
  | [] => rfl
  | x :: xs => by
    rw [List.map_cons, PyData.eqvAll, eqv_ints xs]
    simp [PyData.eqv]
theorem ne_same (xs : List Int) : neF2 (.c (tupI xs)) (.c (tupI xs)) = some false := by
  have he : PyData.eqv (tupI xs) (tupI xs) = true := by
    unfold tupI
    show PyData.eqvAll _ _ = true
    exact eqv_ints xs
  have hs : SeqAt.shaped (tupI xs) = true := sh_tints xs
  have h1 : eqF2 (.c (tupI xs)) (.c (tupI xs)) = some true := by
    unfold eqF2
    simp only [fz, hs, he, Bool.and_self, if_true]
  unfold neF2
  rw [h1]
  rfl
theorem ok_tup {xs : List Int} {m : Nat} (h : ∀ x ∈ xs, x.natAbs < 2 ^ 64) (hl : xs.length ≤ m) : Ok 1 m (tupI xs) := by
  have := oka_of (k := 0) (m := 0) (ds := xs.map PyData.int) fun d hd => by
    obtain ⟨x, hx, rfl⟩ := List.mem_map.1 hd
    exact ok_int x (h x hx)
  exact (this.mono (Nat.le_refl _) (by rw [List.length_map]; omega)).tuple
theorem ok_tups {R : List (List Int)} {m k : Nat} (h : ∀ f ∈ R, f.length ≤ m ∧ ∀ x ∈ f, x.natAbs < 2 ^ 64) (hl : R.length ≤ k) : Ok 2 (k * (m + 1)) (tupT R) := by
  have := oka_of (k := 1) (m := m) (ds := R.map tupI) fun d hd => by
    obtain ⟨f, hf, rfl⟩ := List.mem_map.1 hd
    exact ok_tup (h f hf).2 (h f hf).1
  exact (this.mono (Nat.le_refl _) (by rw [List.length_map]; exact Nat.mul_le_mul_right _ hl)).tuple
theorem ok_rd {r : Rd} (h1 : r.1.natAbs < 2 ^ 64) (h2 : r.2.natAbs < 2 ^ 64) : Ok 1 2 (rdD r) :=
  (oka_cons (ok_int (k := 0) (n := 0) r.1 h1) (oka_cons (ok_int (k := 0) (n := 0) r.2 h2) (oka_nil (n := 0)) (Nat.le_refl _)) (Nat.le_refl _)).tuple
theorem ok_town {n : Nat} {rs : List Rd} (ok : TownOk n rs) : Ok 3 700 (townD n rs) := by
  have htop := ok.top
  have hroads := ok.roads
  have h1 := oka_of (k := 1) (m := 2) (ds := rs.map rdD) fun d hd => by
    obtain ⟨r, hr, rfl⟩ := List.mem_map.1 hd
    have := ok.ends r.1 r.2 hr
    exact ok_rd (by omega) (by omega)
  have h2 : Ok 2 600 (.tuple (rs.map rdD)) := (h1.mono (Nat.le_refl _) (by rw [List.length_map]; omega)).tuple
  exact (oka_cons (n := 0) (ok_int (n : Int) (by omega)) (oka_cons h2 (oka_nil (n := 0)) (Nat.le_refl _)) (by omega)).tuple
theorem ok_tree {n : Nat} {rs : List Rd} (ok : TownOk n rs) : Ok 1 200 (treeD rs) := by
  have hF := tree_fst rs
  have hroads := ok.roads
  have hTl : (tree rs).length ≤ rs.length := by
    have h1 : (tree rs).Nodup := hF.asc.imp fun h => Nat.ne_of_lt h
    have h2 := len_sub h1 (m := List.range rs.length) fun i hi => List.mem_range.2 (hF.lt i hi)
    rwa [List.length_range] at h2
  refine ok_tup (xs := nI (tree rs)) (fun x hx => ?_) (by unfold nI; rw [List.length_map]; omega)
  obtain ⟨k, hk, rfl⟩ := List.mem_map.1 hx
  have := hF.lt k hk
  omega
theorem dot_small : ∀ (f g : List Int), (∀ x ∈ f, x = 0 ∨ x = 1 ∨ x = -1) → (∀ x ∈ g, x = 0 ∨ x = 1 ∨ x = -1) → (dotL f g).natAbs ≤ f.length
  | [], _, _, _ => Nat.zero_le _
  | _ :: _, [], _, _ => Nat.zero_le _
  | x :: f, y :: g, h1, h2 => by
    have ih := dot_small f g (fun z hz => h1 z (by simp [hz])) fun z hz => h2 z (by simp [hz])
    have e : dotL (x :: f) (y :: g) = x * y + dotL f g := by
      unfold dotL
      rw [List.zipWith_cons_cons, List.sum_cons]
    have hxy : (x * y).natAbs ≤ 1 := by
      rcases h1 x (by simp) with rfl | rfl | rfl <;> rcases h2 y (by simp) with rfl | rfl | rfl <;> decide
    rw [e, List.length_cons]
    omega
theorem one_small {x : Int} (h : x = 0 ∨ x = 1 ∨ x = -1) : x.natAbs < 2 ^ 64 := by
  rcases h with rfl | rfl | rfl <;> decide
theorem rings_small {n : Nat} {rs : List Rd} (ok : TownOk n rs) : ∀ f ∈ rings rs n, f.length ≤ 1000 ∧ ∀ x ∈ f, x.natAbs < 2 ^ 64 := fun f hf => by
  have h := rings_ok ok f hf
  have hroads := ok.roads
  exact ⟨by omega, fun x hx => one_small (h.2.1 x hx)⟩
theorem rings_len (rs : List Rd) (n : Nat) : (rings rs n).length ≤ rs.length := by
  rw [rings_eq, List.length_map]
  exact offs_len rs
theorem mat_small {n : Nat} {rs : List Rd} (ok : TownOk n rs) : ∀ f ∈ matL (rings rs n), f.length ≤ rs.length ∧ ∀ x ∈ f, x.natAbs < 2 ^ 64 := by
  intro f hf
  obtain ⟨g, hg, rfl⟩ := List.mem_map.1 hf
  refine ⟨by rw [List.length_map]; exact rings_len rs n, fun x hx => ?_⟩
  obtain ⟨h, hh, rfl⟩ := List.mem_map.1 hx
  have h1 := rings_ok ok g hg
  have h2 := rings_ok ok h hh
  have := dot_small g h h1.2.1 h2.2.1
  have := ok.roads
  omega
/-- what is told of a town's rings is shown -/
theorem ok_told {n : Nat} {rs : List Rd} (ok : TownOk n rs) (hr : rs.length ≤ 40) : showOk (.list [treeD rs, tupT (rings rs n), tupT (matL (rings rs n))]) = true := by
  have h1 := ok_tree ok
  have h2 := ok_tups (R := rings rs n) (m := 40) (k := 40) (fun f hf => ⟨by have := (rings_ok ok f hf).1; omega, (rings_small ok f hf).2⟩) (by have := rings_len rs n; omega)
  have h3 := ok_tups (R := matL (rings rs n)) (m := 40) (k := 40) (fun f hf => ⟨by have := (mat_small ok f hf).1; omega, (mat_small ok f hf).2⟩) (by unfold matL; rw [List.length_map]; have := rings_len rs n; omega)
  have h4 : OkAll 2 4000 [treeD rs, tupT (rings rs n), tupT (matL (rings rs n))] := oka_cons (h1.mono (by decide) (Nat.le_refl _)) (oka_cons h2 (oka_cons h3 (oka_nil (n := 0)) (Nat.le_refl _)) (Nat.le_refl _)) (by decide)
  exact h4.list.showOk (by decide) (by decide)
/-! ### any value, drawn -/
noncomputable def rPick : List VL.W → VL.RD := runD 2 [0] gPick
noncomputable def gAny (rs : List VL.W → VL.RD) : VL.Env → RS := (seqS (asgS 2 (frzE (callE (rDraw) [(.bor 0), (.val (frzE (ifE (tst (prim (PB gtF2) [(.bor 1), (.val (kc (.int 0)))])) (kc (.int 9)) (kc (.int 6)))))]))) (seqS (ifS (tst (prim (PB ltF2) [(.bor 2), (.val (kc (.int 6)))])) (retS (prim (P2 ixF2) [(.val (prim lstF [(.val (kc .none)), (.val (kc (.bool true))), (.val (frzE (callE (rPick) [(.bor 0), (.val (frzE (prim lstF [(.val (kc (.int 0))), (.val (kc (.int 1))), (.val (kc (.int 2))), (.val (kc (.int 3))), (.val (prim (P1 negF) [(.val (kc (.int 1)))])), (.val (frzE (prim (P2 powF2) [(.val (kc (.int 10))), (.val (kc (.int 18)))])))])))]))), (.val (kc (.str ""))), (.val (kc (.str "on"))), (.val (kc (.str "in")))])), (.bor 2)])) skipS) (seqS (asgS 3 (frzE (lcE [4] (rngI rng1 [(.val (frzE (callE (rDraw) [(.bor 0), (.val (kc (.int 4)))])))]) (tgN 4) yesT (callE rs [(.bor 0), (.val (frzE (prim (P2 subF2) [(.bor 1), (.val (kc (.int 1)))])))])))) (retS (ifE (tst (prim (PB ltF2) [(.bor 2), (.val (kc (.int 8)))])) (prim (P1 tupleF) [(.bor 3)]) (var 3))))))
noncomputable def rAny : Nat → List VL.W → VL.RD
  | 0 => fun _ => .stuck
  | d + 1 => runD 5 [0] (gAny (rAny d))
theorem pow18 : ∃ B : Int, B.natAbs < 2 ^ 64 ∧ powF2 (.c (.int 10)) (.c (.int 18)) = some (.c (.int B)) := by
  have h : CPow 10 18 := by decide +kernel
  refine ⟨10 ^ (18 : Int).toNat, by decide +kernel, ?_⟩
  show (if CPow 10 18 then some (W.c (.int (10 ^ (18 : Int).toNat))) else none) = _
  rw [if_pos h]
theorem pow50 : ∃ B : Int, B.natAbs.log2 < 1920 ∧ powF2 (.c (.int 10)) (.c (.int 50)) = some (.c (.int B)) := by
  have h : CPow 10 50 := by decide +kernel
  refine ⟨10 ^ (50 : Int).toNat, by decide +kernel, ?_⟩
  show (if CPow 10 50 then some (W.c (.int (10 ^ (50 : Int).toNat))) else none) = _
  rw [if_pos h]
theorem ok_str {k n : Nat} (x : Str) (h : okB k n (.str x) = true) : Ok k n (.str x) := ok_b h
theorem at_colds (ds : List PyData) (r : Int) (h0 : 0 ≤ r) (h1 : r < ds.length) : ∃ d ∈ ds, atI (ds.map W.c) r = some (.c d) := by
  obtain ⟨k, rfl⟩ : ∃ k : Nat, r = k := ⟨r.toNat, by omega⟩
  have hk : k < ds.length := by omega
  exact ⟨ds[k], List.getElem_mem hk, by rw [at_nat, List.getElem?_map, List.getElem?_eq_getElem hk]; rfl⟩
theorem any_lc {rs : List VL.W → VL.RD} {k m n : Nat} (x2 x3 : Option W) (h : ∀ p, Deck p → ∃ v p', Deck p' ∧ Ok m n v ∧ rs [p, .c (.int k)] = .ok (.c v) [p']) : ∀ (ds : List PyData) (p : W), Deck p → ∃ (vs : List PyData) (p' : W), Deck p' ∧ vs.length = ds.length ∧ (∀ v ∈ vs, Ok m n v) ∧
    lcLoop [4] (tgN 4) yesT (callE rs [(.bor 0), (.val (frzE (prim (P2 subF2) [(.bor 1), (.val (kc (.int 1)))])))]) ds [some p, some (.c (.int ((k + 1 : Nat) : Int))), x2, x3, none] = .ok vs [some p', some (.c (.int ((k + 1 : Nat) : Int))), x2, x3, none]
  | [], p, hp => ⟨[], p, hp, rfl, by simp, rfl⟩
  | d :: ds, p, hp => by
    obtain ⟨v, p1, hp1, hv, e⟩ := h p hp
    obtain ⟨vs, p2, hp2, hl, hvs, ih⟩ := any_lc x2 x3 h ds p1 hp1
    have hk : ((k + 1 : Nat) : Int) - 1 = (k : Int) := by omega
    refine ⟨v :: vs, p2, hp2, by simp [hl], fun u hu => ?_, ?_⟩
    · rcases List.mem_cons.1 hu with rfl | hu
      · exact hv
      · exact hvs u hu
    · generalize ((k + 1 : Nat) : Int) = z at *
      simp! only [hk, e, ih]
theorem any_s : ∀ (d k : Nat), k < d → ∀ p : W, Deck p → ∃ (v : PyData) (p' : W), Deck p' ∧ Ok k (4 ^ (k + 1)) v ∧ rAny d [p, .c (.int k)] = .ok (.c v) [p']
  | 0, k, h, _, _ => absurd h (Nat.not_lt_zero _)
  | d + 1, k, h, p, hp => by
    have h2 : 2 ≤ 4 ^ (k + 1) := by
      have := Nat.pow_le_pow_right (n := 4) (by decide) (show 1 ≤ k + 1 from by omega)
      omega
    have leaf : ∀ (x : Int), x.natAbs < 2 ^ 64 → ∀ u ∈ [PyData.none, .bool true, .int x, .str "", .str "on", .str "in"], Ok k (4 ^ (k + 1)) u := by
      intro x hx u hu
      simp only [List.mem_cons, List.not_mem_nil, or_false] at hu
      rcases hu with rfl | rfl | rfl | rfl | rfl | rfl
      · exact ok_none
      · exact ok_bool _
      · exact ok_int x hx
      · exact (ok_b (k := 0) (n := 2) (by decide +kernel)).mono (Nat.zero_le _) h2
      · exact (ok_b (k := 0) (n := 2) (by decide +kernel)).mono (Nat.zero_le _) h2
      · exact (ok_b (k := 0) (n := 2) (by decide +kernel)).mono (Nat.zero_le _) h2
    obtain ⟨B, hB, hpow⟩ := pow18
    have main : ∀ (m : Int), (∃ M : Nat, m = M ∧ 6 ≤ M ∧ M ≤ 9) → (if (0 : Int) < (k : Int) then (9 : Int) else 6) = m → ∃ (v : PyData) (p' : W), Deck p' ∧ Ok k (4 ^ (k + 1)) v ∧ rAny (d + 1) [p, .c (.int k)] = .ok (.c v) [p'] := by
      intro m hm hif
      obtain ⟨M, rfl, hM1, hM2⟩ := hm
      obtain ⟨r, p1, hr0, hr1, hp1, e1⟩ := draw_s (m := (M : Int)) hp (by omega) (by omega)
      by_cases h6 : r < 6
      · have d6 := decide_eq_true h6
        obtain ⟨u, hu, p2, hp2, e2⟩ := pick_s hp1 [.int 0, .int 1, .int 2, .int 3, .int (-1), .int B] (by simp) (by simp)
        obtain ⟨x, rfl, hx⟩ : ∃ x : Int, u = .int x ∧ x.natAbs < 2 ^ 64 := by
          simp only [List.mem_cons, List.not_mem_nil, or_false] at hu
          rcases hu with rfl | rfl | rfl | rfl | rfl | rfl
          · exact ⟨0, rfl, by decide⟩
          · exact ⟨1, rfl, by decide⟩
          · exact ⟨2, rfl, by decide⟩
          · exact ⟨3, rfl, by decide⟩
          · exact ⟨-1, rfl, by decide⟩
          · exact ⟨B, rfl, hB⟩
        obtain ⟨v, hv, ha⟩ := at_colds [.none, .bool true, .int x, .str "", .str "on", .str "in"] r hr0 (by simpa using h6)
        have e2 : rPick [p1, .c (.list [.int 0, .int 1, .int 2, .int 3, .int (-1), .int B])] = .ok (.c (.int x)) [p2] := e2
        simp only [List.map_cons, List.map_nil] at ha
        refine ⟨v, p2, hp2, leaf x hx v hv, ?_⟩
        show runD 5 [0] (gAny (rAny d)) _ = _
        unfold gAny
        by_cases hk : (0 : Int) < (k : Int)
        · rw [if_pos hk] at hif
          have dk := decide_eq_true hk
          rw [← hif] at e1
          simp! only [dk, e1, d6, hpow, e2, ha]
        · rw [if_neg hk] at hif
          have dk := decide_eq_false hk
          rw [← hif] at e1
          simp! only [dk, e1, d6, hpow, e2, ha]
      · have d6 := decide_eq_false h6
        have hk : (0 : Int) < (k : Int) := by
          apply Classical.byContradiction
          intro hk
          rw [if_neg hk] at hif
          omega
        rw [if_pos hk] at hif
        have dk := decide_eq_true hk
        rw [← hif] at e1
        obtain ⟨j, rfl⟩ : ∃ j, k = j + 1 := ⟨k - 1, by omega⟩
        obtain ⟨t, p2, ht0, ht1, hp2, e2⟩ := draw_s (m := (4 : Int)) hp1 (by omega) (by omega)
        obtain ⟨t, rfl⟩ : ∃ t' : Nat, t = t' := ⟨t.toNat, by omega⟩
        have hrg : rng1 [.c (.int t)] = some ((upTo t).map .int) := rng1_s t (by omega)
        have hz : ((upTo t).map PyData.int).length ≤ sizeLine := by rw [List.length_map, upTo_len]; exact small_line (by omega)
        obtain ⟨vs, p3, hp3, hl, hvs, e3⟩ := any_lc (some (.c (.int r))) none (any_s d j (by omega)) ((upTo t).map .int) p2 hp2
        rw [List.length_map, upTo_len] at hl
        have hO := oka_of hvs
        have hb : vs.length * (4 ^ (j + 1) + 1) ≤ 4 ^ (j + 1 + 1) := by
          have h1 : 4 ^ (j + 1 + 1) = 4 * 4 ^ (j + 1) := by rw [Nat.pow_succ 4 (j + 1), Nat.mul_comm]
          have h2 : 4 ≤ 4 ^ (j + 1) := by
            have := Nat.pow_le_pow_right (n := 4) (by decide) (show 1 ≤ j + 1 from by omega)
            simpa using this
          have h3 : vs.length * (4 ^ (j + 1) + 1) ≤ 3 * (4 ^ (j + 1) + 1) := Nat.mul_le_mul_right _ (by omega)
          omega
        have hO := hO.mono (Nat.le_refl _) hb
        have htu : tupleF (.c (.list vs)) = some (.c (.tuple vs)) := rfl
        by_cases h8 : r < 8
        · have d8 := decide_eq_true h8
          refine ⟨.tuple vs, p3, hp3, hO.tuple, ?_⟩
          show runD 5 [0] (gAny (rAny d)) _ = _
          unfold gAny
          generalize ((j + 1 : Nat) : Int) = z at *
          simp! only [dk, e1, d6, e2, hrg, hz, e3, d8, htu]
        · have d8 := decide_eq_false h8
          refine ⟨.list vs, p3, hp3, hO.list, ?_⟩
          show runD 5 [0] (gAny (rAny d)) _ = _
          unfold gAny
          generalize ((j + 1 : Nat) : Int) = z at *
          simp! only [dk, e1, d6, e2, hrg, hz, e3, d8, htu]
    by_cases hk : (0 : Int) < (k : Int)
    · exact main 9 ⟨9, rfl, by omega, by omega⟩ (if_pos hk)
    · exact main 6 ⟨6, rfl, by omega, by omega⟩ (if_neg hk)
/-! ### the law's own ends; a flow for each purse of money nought -/
noncomputable def leBody : VL.Env → RS := (parP [.val (frzE (prim (P2 subF2) [(.val (prim (P2 ixF2) [(.bor 2), (.bor 4)])), (.bor 3)])), .val (frzE (prim (P2 addF2) [(.val (prim (P2 ixF2) [(.bor 2), (.bor 5)])), (.bor 3)]))] [(2, (var 4)), (2, (var 5))])
noncomputable def gLawEnds : VL.Env → RS := (seqS (asgS 2 (prim (P2 mulF2) [(.val (prim lstF [(.val (kc (.int 0)))])), (.val (prim (P2 ixF2) [(.bor 0), (.val (kc (.int 0)))]))])) (seqS (forS (rngI z2 [.val (frzE (prim (P2 ixF2) [(.bor 0), (.val (kc (.int 1)))])), .val (frzE (var 1))]) (tgT 2 (tgsC (tgT 2 (tgsC (tgN 4) (tgsC (tgN 5) tgsN))) (tgsC (tgN 3) tgsN))) leBody) (retS (prim (P1 tupleF) [(.bor 2)]))))
theorem le_lp (n : Nat) (t x1 : Option W) : ∀ (qs : List Rd) (f L : List Int) (x3 x4 x5 : Option W), (∀ a b, (a, b) ∈ qs → 0 ≤ a ∧ a < b ∧ b < n) → L.length = n → ∃ (L' : List Int) (y3 y4 y5 : Option W), L'.length = n ∧ (∀ v : Int, 0 ≤ v → v < n → lab L' v = lab L v + endsAt qs f v) ∧
    loopS (tgT 2 (tgsC (tgT 2 (tgsC (tgN 4) (tgsC (tgN 5) tgsN))) (tgsC (tgN 3) tgsN))) leBody (zR qs f) [t, x1, some (intsW L), x3, x4, x5] = .nx [t, x1, some (intsW L'), y3, y4, y5]
  | [], f, L, x3, x4, x5, _, hL => ⟨L, x3, x4, x5, hL, fun v _ _ => by cases f <;> exact (Int.add_zero _).symm, rfl⟩
  | (a, b) :: qs, [], L, x3, x4, x5, _, hL => ⟨L, x3, x4, x5, hL, fun v _ _ => (Int.add_zero _).symm, rfl⟩
  | (a, b) :: qs, x :: f, L, x3, x4, x5, hq, hL => by
    have hab := hq a b (by simp)
    obtain ⟨i, rfl⟩ : ∃ i : Nat, a = i := ⟨a.toNat, by omega⟩
    obtain ⟨j, rfl⟩ : ∃ j : Nat, b = j := ⟨b.toNat, by omega⟩
    have l1 : (L.set i (lab L i - x)).length = n := by rw [List.length_set]; exact hL
    obtain ⟨L', y3, y4, y5, h1, h2, ih⟩ := le_lp n t x1 qs f ((L.set i (lab L i - x)).set j (lab L j + x)) (some (.c (.int x))) (some (.c (.int i))) (some (.c (.int j))) (fun c d m => hq c d (by simp [m])) (by rw [List.length_set]; exact l1)
    refine ⟨L', y3, y4, y5, h1, fun v h0 hv => ?_, ?_⟩
    · rw [h2 v h0 hv, lab_set _ j _ v (by omega) h0, lab_set L i _ v (by omega) h0]
      show _ = lab L v + ((if (j : Int) = v then x else 0) - (if (i : Int) = v then x else 0) + endsAt qs f v)
      by_cases e1 : v = (j : Int)
      · subst e1
        have e2 : ¬ (j : Int) = (i : Int) := by omega
        have e3 : ¬ (i : Int) = (j : Int) := by omega
        simp only [e2, e3, if_true, if_false]
        omega
      · have e1' : ¬ (j : Int) = v := fun e => e1 e.symm
        by_cases e2 : v = (i : Int)
        · subst e2
          simp only [e1, e1', if_true, if_false]
          omega
        · have e2' : ¬ (i : Int) = v := fun e => e2 e.symm
          simp only [e1, e1', e2, e2', if_false]
          omega
    · rw [← ih]
      have a1 := ix_ints L i (by omega) (by omega)
      have a2 := ix_ints L j (by omega) (by omega)
      have i1 := ixN_s (l := (L.map fun x => W.c (PyData.int x)).length) (k := i) (by rw [List.length_map]; omega)
      have i2 := ixN_s (l := ((L.set i (lab L i - x)).map fun x => W.c (PyData.int x)).length) (k := j) (by rw [List.length_map]; omega)
      unfold intsW at *
      conv => lhs; unfold leBody zR rdD
      simp! only [a1, i1, intsW_set, a2, i2]
      rfl
theorem law_ends_s {n : Nat} {rs : List Rd} (ok : TownOk n rs) (f : List Int) : runD 6 [] gLawEnds [.c (townD n rs), .c (tupI f)] = .ok (.c (tupI (endsL n rs f))) [] := by
  have htop := ok.top
  obtain ⟨L', y3, y4, y5, h1, h2, e⟩ := le_lp n (some (.c (townD n rs))) (some (.c (tupI f))) rs f (List.replicate n 0) none none none ok.ends (List.length_replicate)
  have hL : L' = endsL n rs f := lab_ext h1 (by unfold endsL; rw [List.length_map, upTo_len]) fun v h0 hv => by
    rw [h2 v h0 hv]
    unfold endsL
    rw [lab_map _ h0 (by rw [upTo_len]; exact hv), upTo_lab h0 hv]
    have : lab (List.replicate n 0) v = 0 := by
      unfold lab
      rw [List.getD_eq_getElem?_getD, List.getElem?_replicate]
      split <;> rfl
    omega
  rw [hL] at e
  have hz := mul_zl n (by omega)
  have ht : tupleF (.l ((endsL n rs f).map fun x => W.c (.int x))) = some (.c (.tuple ((endsL n rs f).map .int))) := by
    have := tupleF_l ((endsL n rs f).map .int)
    rw [List.map_map] at this
    exact this
  unfold townD tupI intsW at *
  unfold gLawEnds
  simp! only [hz, z2_town, e, ht]
theorem addC_getD (c : Int) (i : Nat) : ∀ (f g : List Int), f.length = g.length → (addC c f g).getD i 0 = f.getD i 0 + c * g.getD i 0 := by
  intro f g h
  unfold addC
  rw [List.getD_eq_getElem?_getD, List.getD_eq_getElem?_getD, List.getD_eq_getElem?_getD, List.getElem?_zipWith]
  by_cases hi : i < f.length
  · rw [List.getElem?_eq_getElem hi, List.getElem?_eq_getElem (by omega)]
    rfl
  · rw [List.getElem?_eq_none (by omega), List.getElem?_eq_none (by omega)]
    show (0 : Int) = 0 + c * 0
    omega
/-- ways from house 0, each as often as is wanted -/
noncomputable def wsum (rs : List Rd) (n : Nat) (ps : List Int) : List Int → List Int → List Int
  | [], f => f
  | v :: vs, f => wsum rs n ps vs (addC (lab ps v) f (wayF rs n 0 v))
theorem wsum_ok {n : Nat} {rs : List Rd} (ok : TownOk n rs) (ps : List Int) : ∀ (vs f : List Int), (∀ v ∈ vs, 0 ≤ v ∧ v < n) → f.length = rs.length → (∀ i, i ∉ tree rs → f.getD i 0 = 0) →
    (wsum rs n ps vs f).length = rs.length ∧ (∀ i, i ∉ tree rs → (wsum rs n ps vs f).getD i 0 = 0) ∧ ∀ u, endsAt rs (wsum rs n ps vs f) u = endsAt rs f u + ((vs.map fun v => if v = u then lab ps v else 0).sum - (if u = 0 then (vs.map (lab ps)).sum else 0))
  | [], f, _, h1, h2 => ⟨h1, h2, fun u => by show endsAt rs f u = endsAt rs f u + (0 - (if u = 0 then 0 else 0)); split <;> omega⟩
  | v :: vs, f, hv, h1, h2 => by
    have hpos := ok.pos
    have hv0 := hv v (by simp)
    have hw := (law_way_s ok 0 v (by omega) (by omega) hv0.1 hv0.2).1
    have hwl := hw.len
    have hfl : (addC (lab ps v) f (wayF rs n 0 v)).length = rs.length := by rw [addC_len _ _ _ (by omega)]; exact h1
    have hoff : ∀ i, i ∉ tree rs → (addC (lab ps v) f (wayF rs n 0 v)).getD i 0 = 0 := fun i hi => by
      have z : (wayF rs n 0 v).getD i 0 = 0 := by
        apply Classical.byContradiction
        exact fun h => hi (hw.sup i h)
      rw [addC_getD _ _ _ _ (by omega), h2 i hi, z]
      omega
    obtain ⟨i1, i2, i3⟩ := wsum_ok ok ps vs _ (fun u hu => hv u (by simp [hu])) hfl hoff
    refine ⟨i1, i2, fun u => ?_⟩
    show endsAt rs (wsum rs n ps vs (addC (lab ps v) f (wayF rs n 0 v))) u = _
    rw [i3 u, endsAt_add _ u rs f _ h1 hwl, hw.ends u, List.map_cons, List.map_cons, List.sum_cons, List.sum_cons]
    by_cases e1 : u = v
    · subst e1
      by_cases e2 : u = 0
      · simp only [e2, if_true]
        omega
      · simp only [e2, if_true, if_false]
        omega
    · have e1' : ¬ v = u := fun z => e1 z.symm
      by_cases e2 : u = 0
      · simp only [e1, e1', e2, if_true, if_false]
        subst e2
        simp only [e1', if_false]
        rw [if_neg e1]
        omega
      · simp only [e1, e1', e2, if_false]
        omega
theorem lab_sum {ps : List Int} {n : Nat} (h : ps.length = n) : (upTo n).map (lab ps) = ps :=
  lab_ext (by rw [List.length_map, upTo_len]) h fun v h0 hv => by rw [lab_map _ h0 (by rw [upTo_len]; exact hv), upTo_lab h0 hv]
theorem sum_one (u : Int) (g : Int → Int) : ∀ S : List Int, S.Nodup → (S.map fun v => if v = u then g v else 0).sum = if u ∈ S then g u else 0
  | [], _ => by simp
  | v :: S, h => by
    have ih := sum_one u g S (List.nodup_cons.1 h).2
    rw [List.map_cons, List.sum_cons, ih]
    by_cases e : v = u
    · subst e
      have := (List.nodup_cons.1 h).1
      simp [this]
    · have e' : ¬ u = v := fun z => e z.symm
      simp [e, e']
theorem on_tree_ex {n : Nat} {rs : List Rd} (ok : TownOk n rs) {ps : List Int} (hps : ps.length = n) (h0 : ps.sum = 0) : ∃ f, OnTree rs n f ps := by
  obtain ⟨h1, h2, h3⟩ := wsum_ok ok ps (upTo n) (List.replicate rs.length 0) (fun v hv => mem_upTo.1 hv) List.length_replicate fun i _ => by
    rw [List.getD_eq_getElem?_getD, List.getElem?_replicate]
    split <;> rfl
  refine ⟨_, h1, fun i _ hi => h2 i hi, fun v hv0 hv1 => ?_⟩
  rw [h3 v, endsAt_zero, sum_one v (lab ps) (upTo n) (upTo_nd n), if_pos (mem_upTo.2 ⟨hv0, hv1⟩), lab_sum hps, h0]
  split <;> omega
theorem on_tree_ends {n : Nat} {rs : List Rd} {f ps : List Int} (hps : ps.length = n) (h : OnTree rs n f ps) : endsL n rs f = ps :=
  lab_ext (by unfold endsL; rw [List.length_map, upTo_len]) hps fun v h0 hv => by
    unfold endsL
    rw [lab_map _ h0 (by rw [upTo_len]; exact hv), upTo_lab h0 hv]
    exact h.ends v h0 hv
theorem ends_sum {n : Nat} {rs : List Rd} (ok : TownOk n rs) (f : List Int) : (endsL n rs f).sum = 0 := by
  unfold endsL
  rw [sum_ends (upTo n) (upTo_nd n)]
  have : ∀ (qs : List Rd) (f : List Int), (∀ a b, (a, b) ∈ qs → 0 ≤ a ∧ a < b ∧ b < n) → cross (fun v => decide (v ∈ upTo n)) qs f = 0 := by
    intro qs
    induction qs with
    | nil => intro f _; cases f <;> rfl
    | cons q qs ih =>
      obtain ⟨a, b⟩ := q
      intro f h
      cases f with
      | nil => rfl
      | cons x f =>
        have hab := h a b (by simp)
        have e1 : decide (a ∈ upTo n) = true := decide_eq_true (mem_upTo.2 ⟨by omega, by omega⟩)
        have e2 : decide (b ∈ upTo n) = true := decide_eq_true (mem_upTo.2 ⟨by omega, by omega⟩)
        show (if decide (b ∈ upTo n) = true then x else 0) - (if decide (a ∈ upTo n) = true then x else 0) + cross _ qs f = 0
        rw [ih f fun c d m => h c d (by simp [m]), e1, e2]
        simp
  exact this rs f ok.ends
theorem ends_len (n : Nat) (rs : List Rd) (f : List Int) : (endsL n rs f).length = n := by unfold endsL; rw [List.length_map, upTo_len]
/-! ### what is a flow, told of any value -/
def isN (d : PyData) : Bool := match d with
  | .int _ => true
  | _ => false
def inB (d : PyData) : Bool := match d with
  | .int i => decide (-1000 ≤ i) && decide (i ≤ 1000)
  | _ => false
def isR (m : Nat) (d : PyData) : Bool := match d with
  | .tuple ds => decide (ds.length = m)
  | _ => false
noncomputable def gIsNumber : VL.Env → RS := (retS (andE (prim (P1 (isiF "int")) [(.bor 0)]) (notE (prim (P1 (isiF "bool")) [(.bor 0)]))))
theorem is_number_s (d : PyData) : runD 1 [] gIsNumber [.c d] = .ok (.c (.bool (isN d))) [] := by
  unfold gIsNumber isN
  cases d <;> simp! only []
noncomputable def rIsNumber : List VL.W → VL.RD := runD 1 [] gIsNumber
noncomputable def gIsWithin : VL.Env → RS := (retS (andE (callE (rIsNumber) [(.val (var 0))]) (asW (chain2 (fun i j => decide (i ≤ j)) (fun i j => decide (i ≤ j)) (var 1) (var 0) (var 2)))))
theorem is_within_s (d : PyData) : runD 3 [] gIsWithin [.c d, .c (.int (-1000)), .c (.int 1000)] = .ok (.c (.bool (inB d))) [] := by
  have e : rIsNumber [.c d] = .ok (.c (.bool (isN d))) [] := is_number_s d
  unfold gIsWithin inB
  cases d with
  | int i =>
    have hn : isN (.int i) = true := rfl
    by_cases h : (-1000 : Int) ≤ i
    · have d1 := decide_eq_true h
      simp! only [e, hn, d1]
    · have d1 := decide_eq_false h
      simp! only [e, hn, d1]
  | none => have hn : isN .none = false := rfl
            simp! only [e, hn]
  | bool b => have hn : isN (.bool b) = false := rfl
              simp! only [e, hn]
  | str x => have hn : isN (.str x) = false := rfl
             simp! only [e, hn]
  | list x => have hn : isN (.list x) = false := rfl
              simp! only [e, hn]
  | tuple x => have hn : isN (.tuple x) = false := rfl
               simp! only [e, hn]
  | dict x => have hn : isN (.dict x) = false := rfl
              simp! only [e, hn]
noncomputable def rIsWithin : List VL.W → VL.RD := runD 3 [] gIsWithin
noncomputable def gIsRow : VL.Env → RS := (retS (andE (prim (P1 (isiF "tuple")) [(.bor 1)]) (prim (PB eqF2) [(.val (prim (P1 lenF) [(.bor 1)])), (.val (prim (P1 lenF) [(.val (prim (P2 ixF2) [(.bor 0), (.val (kc (.int 1)))]))]))])))
theorem nat_dec (a b : Nat) : decide ((a : Int) = (b : Int)) = decide (a = b) := by
  by_cases h : a = b
  · subst h; simp
  · have : ¬ (a : Int) = (b : Int) := by omega
    simp [h, this]
theorem is_row_s (n : Nat) (rs : List Rd) (d : PyData) : runD 2 [] gIsRow [.c (townD n rs), .c d] = .ok (.c (.bool (isR rs.length d))) [] := by
  have hl : (rs.map rdD).length = rs.length := List.length_map _
  unfold gIsRow isR townD
  cases d <;> simp! only [nat_dec, hl]
noncomputable def rIsRow : List VL.W → VL.RD := runD 2 [] gIsRow
/-- items with their places -/
def enP (j : Nat) : List PyData → List PyData
  | [] => []
  | d :: ds => .tuple [.int (j : Nat), d] :: enP (j + 1) ds
theorem enP_eq (j : Nat) : ∀ ds : List PyData, (ds.zipIdx j).map (fun p => PyData.tuple [.int (p.2 : Nat), p.1]) = enP j ds := by
  intro ds
  induction ds generalizing j with
  | nil => rfl
  | cons r rs ih => rw [List.zipIdx_cons, List.map_cons, ih]; rfl
theorem en_t (ds : List PyData) : en1 [.c (.tuple ds)] = some (enP 0 ds) := by
  rw [← enP_eq]
  rfl
theorem en_l (ds : List PyData) : en1 [.c (.list ds)] = some (enP 0 ds) := by
  rw [← enP_eq]
  rfl
/-- the first item that is not within -/
def badAt (j : Nat) : List PyData → Option Nat
  | [] => none
  | d :: ds => if inB d = true then badAt (j + 1) ds else some j
def flowDue (m : Nat) (d : PyData) : PyData := match d with
  | .tuple ds => if ds.length = m then (match badAt 0 ds with
      | some k => .tuple [.str "road", .int (k : Nat)]
      | none => .none) else .str "form"
  | _ => .str "form"
noncomputable def feBody : VL.Env → RS := (ifS (notT (tst (callE (rIsWithin) [(.val (var 3)), (.val (prim (P1 negF) [(.val (kc (.int 1000)))])), (.val (kc (.int 1000)))]))) (retS (prim tupF [(.val (kc (.str "road"))), (.val (var 2))])) skipS)
noncomputable def gFlowError : VL.Env → RS := (seqS (ifS (notT (tst (callE (rIsRow) [(.val (var 0)), (.val (var 1))]))) (retS (kc (.str "form"))) skipS) (seqS (forS (rngI en1 [.val (frzE (var 1))]) (tgT 2 (tgsC (tgN 2) (tgsC (tgN 3) tgsN))) feBody) (retS (kc .none))))
def rtOf (o : Option Nat) (ρ : VL.Env) (r : RS) : Prop := match o with
  | none => ∃ x2 x3 : Option W, r = .nx ((ρ.set 2 x2).set 3 x3)
  | some k => ∃ x2 x3 : Option W, r = .rt (.c (.tuple [.str "road", .int (k : Nat)])) ((ρ.set 2 x2).set 3 x3)
theorem fe_lp (t v : Option W) : ∀ (ds : List PyData) (j : Nat) (x2 x3 : Option W), rtOf (badAt j ds) [t, v, none, none] (loopS (tgT 2 (tgsC (tgN 2) (tgsC (tgN 3) tgsN))) feBody (enP j ds) [t, v, x2, x3])
  | [], j, x2, x3 => ⟨x2, x3, rfl⟩
  | d :: ds, j, x2, x3 => by
    have e : rIsWithin [.c d, .c (.int (-1000)), .c (.int 1000)] = .ok (.c (.bool (inB d))) [] := is_within_s d
    cases h : inB d with
    | true =>
      have ih := fe_lp t v ds (j + 1) (some (.c (.int (j : Nat)))) (some (.c d))
      rw [show badAt j (d :: ds) = badAt (j + 1) ds from by simp [badAt, h]]
      rw [h] at e
      have e2 : loopS (tgT 2 (tgsC (tgN 2) (tgsC (tgN 3) tgsN))) feBody (enP j (d :: ds)) [t, v, x2, x3] = loopS (tgT 2 (tgsC (tgN 2) (tgsC (tgN 3) tgsN))) feBody (enP (j + 1) ds) [t, v, some (.c (.int (j : Nat))), some (.c d)] := by
        conv => lhs; unfold feBody enP
        simp! only [e]
        rfl
      rw [e2]
      exact ih
    | false =>
      rw [show badAt j (d :: ds) = some j from by simp [badAt, h]]
      rw [h] at e
      refine ⟨some (.c (.int (j : Nat))), some (.c d), ?_⟩
      conv => lhs; unfold feBody enP
      simp! only [e]
theorem flow_error_s (n : Nat) (rs : List Rd) (d : PyData) : runD 4 [] gFlowError [.c (townD n rs), .c d] = .ok (.c (flowDue rs.length d)) [] := by
  have e : rIsRow [.c (townD n rs), .c d] = .ok (.c (.bool (isR rs.length d))) [] := is_row_s n rs d
  cases h : isR rs.length d with
  | false =>
    rw [h] at e
    have hd : flowDue rs.length d = .str "form" := by
      unfold flowDue
      unfold isR at h
      cases d with
      | tuple ds =>
        have h : ¬ ds.length = rs.length := of_decide_eq_false h
        show (if ds.length = rs.length then _ else _) = _
        rw [if_neg h]
      | _ => rfl
    rw [hd]
    unfold gFlowError
    simp! only [e]
  | true =>
    rw [h] at e
    obtain ⟨ds, rfl, hl⟩ : ∃ ds, d = .tuple ds ∧ ds.length = rs.length := by
      unfold isR at h
      cases d with
      | tuple ds => exact ⟨ds, rfl, of_decide_eq_true h⟩
      | _ => cases h
    have hd : flowDue rs.length (.tuple ds) = (match badAt 0 ds with
      | some k => PyData.tuple [.str "road", .int (k : Nat)]
      | none => .none) := by
      show (if ds.length = rs.length then _ else _) = _
      rw [if_pos hl]
    rw [hd]
    have hlp := fe_lp (some (.c (townD n rs))) (some (.c (.tuple ds))) ds 0 none none
    cases hb : badAt 0 ds with
    | none =>
      rw [hb] at hlp
      obtain ⟨x2, x3, el⟩ := hlp
      unfold gFlowError
      simp! only [e, en_t, el]
    | some k =>
      rw [hb] at hlp
      obtain ⟨x2, x3, el⟩ := hlp
      unfold gFlowError
      simp! only [e, en_t, el]
noncomputable def fdBody : VL.Env → RS := (ifS (orT (notT (tst (prim (P1 (isiF "int")) [(.bor 3)]))) (orT (tst (prim (P1 (isiF "bool")) [(.bor 3)])) (tst (prim (PB gtF2) [(.val (prim (P1 absF) [(.bor 3)])), (.val (kc (.int 1000)))])))) (retS (prim tupF [(.val (kc (.str "road"))), (.val (var 2))])) skipS)
noncomputable def gFlowDue : VL.Env → RS := (seqS (ifS (orT (notT (tst (prim (P1 (isiF "tuple")) [(.bor 1)]))) (tst (prim (PB neF2) [(.val (prim (P1 lenF) [(.bor 1)])), (.val (prim (P1 lenF) [(.val (prim (P2 ixF2) [(.bor 0), (.val (kc (.int 1)))]))]))]))) (retS (kc (.str "form"))) skipS) (seqS (forS (rngI en1 [.val (frzE (var 1))]) (tgT 2 (tgsC (tgN 2) (tgsC (tgN 3) tgsN))) fdBody) (retS (kc .none))))
theorem abs_i (i : Int) : absF (.c (.int i)) = some (.c (.int (if i < 0 then -i else i))) := rfl
theorem fd_one (t v : Option W) (j : Nat) (d : PyData) : fdBody [t, v, some (.c (.int j)), some (.c d)] = if inB d = true then .nx [t, v, some (.c (.int j)), some (.c d)] else .rt (.c (.tuple [.str "road", .int (j : Nat)])) [t, v, some (.c (.int j)), some (.c d)] := by
  unfold fdBody inB
  cases d with
  | int i =>
    by_cases h : (1000 : Int) < (if i < 0 then -i else i)
    · have d1 := decide_eq_true h
      have d2 : (decide ((-1000 : Int) ≤ i) && decide (i ≤ 1000)) = false := by
        rw [Bool.and_eq_false_iff, decide_eq_false_iff_not, decide_eq_false_iff_not]
        split at h <;> omega
      simp! only [abs_i, d1, d2]
    · have d1 := decide_eq_false h
      have d2 : (decide ((-1000 : Int) ≤ i) && decide (i ≤ 1000)) = true := by
        rw [Bool.and_eq_true, decide_eq_true_eq, decide_eq_true_eq]
        split at h <;> omega
      simp! only [abs_i, d1, d2]
  | _ => simp! only []
theorem fd_lp (t v : Option W) : ∀ (ds : List PyData) (j : Nat) (x2 x3 : Option W), rtOf (badAt j ds) [t, v, none, none] (loopS (tgT 2 (tgsC (tgN 2) (tgsC (tgN 3) tgsN))) fdBody (enP j ds) [t, v, x2, x3])
  | [], j, x2, x3 => ⟨x2, x3, rfl⟩
  | d :: ds, j, x2, x3 => by
    have e := fd_one t v j d
    cases h : inB d with
    | true =>
      have ih := fd_lp t v ds (j + 1) (some (.c (.int (j : Nat)))) (some (.c d))
      rw [show badAt j (d :: ds) = badAt (j + 1) ds from by simp [badAt, h]]
      rw [h] at e
      have e2 : loopS (tgT 2 (tgsC (tgN 2) (tgsC (tgN 3) tgsN))) fdBody (enP j (d :: ds)) [t, v, x2, x3] = loopS (tgT 2 (tgsC (tgN 2) (tgsC (tgN 3) tgsN))) fdBody (enP (j + 1) ds) [t, v, some (.c (.int (j : Nat))), some (.c d)] := by
        conv => lhs; unfold enP
        simp! only [e]
      rw [e2]
      exact ih
    | false =>
      rw [show badAt j (d :: ds) = some j from by simp [badAt, h]]
      rw [h] at e
      refine ⟨some (.c (.int (j : Nat))), some (.c d), ?_⟩
      conv => lhs; unfold enP
      simp! only [e]
theorem flow_due_s (n : Nat) (rs : List Rd) (d : PyData) : runD 4 [] gFlowDue [.c (townD n rs), .c d] = .ok (.c (flowDue rs.length d)) [] := by
  have hll : (rs.map rdD).length = rs.length := List.length_map _
  cases d with
  | tuple ds =>
    by_cases hl : ds.length = rs.length
    · have dl : (!decide (ds.length = rs.length)) = false := by simp [hl]
      have hd : flowDue rs.length (.tuple ds) = (match badAt 0 ds with
        | some k => PyData.tuple [.str "road", .int (k : Nat)]
        | none => .none) := by
        show (if ds.length = rs.length then _ else _) = _
        rw [if_pos hl]
      rw [hd]
      have hlp := fd_lp (some (.c (townD n rs))) (some (.c (.tuple ds))) ds 0 none none
      unfold townD at *
      cases hb : badAt 0 ds with
      | none =>
        rw [hb] at hlp
        obtain ⟨x2, x3, el⟩ := hlp
        unfold gFlowDue
        simp! only [nei, hll, nat_dec, dl, en_t, el]
      | some k =>
        rw [hb] at hlp
        obtain ⟨x2, x3, el⟩ := hlp
        unfold gFlowDue
        simp! only [nei, hll, nat_dec, dl, en_t, el]
    · have dl : (!decide (ds.length = rs.length)) = true := by simp [hl]
      have hd : flowDue rs.length (.tuple ds) = .str "form" := by
        show (if ds.length = rs.length then _ else _) = _
        rw [if_neg hl]
      rw [hd]
      unfold gFlowDue townD
      simp! only [nei, hll, nat_dec, dl]
  | _ =>
    unfold gFlowDue townD flowDue
    simp! only []
/-! ### what is a flow for a purse -/
def isI (ds : List PyData) : Option (List Int) := match ds with
  | [] => some []
  | .int i :: r => (isI r).map (i :: ·)
  | _ :: _ => none
def forDue (n : Nat) (rs : List Rd) (ps : List Int) (d : PyData) : PyData := match d with
  | .tuple ds => if ds.length = rs.length then (match isI ds with
      | some xs => if endsL n rs xs = ps then .none else .str "ends"
      | none => .str "form") else .str "form"
  | _ => .str "form"
theorem isI_some : ∀ {ds : List PyData} {xs : List Int}, isI ds = some xs → ds = xs.map .int
  | [], xs, h => by simp only [isI, Option.some.injEq] at h; subst h; rfl
  | d :: ds, xs, h => by
    cases d with
    | int i =>
      simp only [isI] at h
      cases e : isI ds with
      | none => rw [e] at h; cases h
      | some ys =>
        rw [e] at h
        simp only [Option.map_some, Option.some.injEq] at h
        subst h
        rw [isI_some e]; rfl
    | _ => cases h
theorem isI_all : ∀ ds : List PyData, (ds.map isN).all id = (isI ds).isSome
  | [] => rfl
  | d :: ds => by
    have ih := isI_all ds
    rw [List.map_cons, List.all_cons, ih]
    cases d with
    | int i => simp only [isN, isI, id, Bool.true_and, Option.isSome_map]
    | _ => rfl
theorem isI_ints : ∀ xs : List Int, isI (xs.map .int) = some xs
  | [] => rfl
  | x :: xs => by rw [List.map_cons, isI, isI_ints xs]; rfl
theorem bools_n (ds : List PyData) : boolsD (ds.map fun d => PyData.bool (isN d)) = some (ds.map isN) := by
  have : (ds.map fun d => PyData.bool (isN d)) = (ds.map isN).map .bool := by rw [List.map_map]; rfl
  rw [this, boolsD_map]
theorem eqv_all : ∀ xs ys : List Int, PyData.eqvAll (xs.map .int) (ys.map .int) = decide (xs = ys)
  | [], [] => rfl
  | [], _ :: _ => rfl
  | _ :: _, [] => rfl
  | x :: xs, y :: ys => by
    rw [List.map_cons, List.map_cons, PyData.eqvAll, eqv_all xs ys]
    by_cases h1 : x = y <;> by_cases h2 : xs = ys <;> simp [PyData.eqv, h1, h2]
theorem eq_tints (xs ys : List Int) : eqF2 (.c (tupI xs)) (.c (tupI ys)) = some (decide (xs = ys)) := by
  have he : PyData.eqv (tupI xs) (tupI ys) = decide (xs = ys) := by
    unfold tupI
    show PyData.eqvAll _ _ = _
    exact eqv_all xs ys
  have hs : SeqAt.shaped (tupI xs) = true := sh_tints xs
  have hs' : SeqAt.shaped (tupI ys) = true := sh_tints ys
  unfold eqF2
  simp only [fz, hs, hs', he, Bool.and_self, if_true]
noncomputable def rEnds : List VL.W → VL.RD := runD 6 [] gEnds
noncomputable def rLawEnds : List VL.W → VL.RD := runD 6 [] gLawEnds
noncomputable def gForError : VL.Env → RS := (seqS (ifS (orT (notT (tst (callE (rIsRow) [(.val (var 0)), (.val (var 2))]))) (notT (tst (walkE allG (lcE [3] (seqI (var 2)) (tgN 3) yesT (callE (rIsNumber) [(.val (var 3))])))))) (retS (kc (.str "form"))) skipS) (retS (ifE (tst (prim (PB eqF2) [(.val (callE (rEnds) [(.val (var 0)), (.val (var 2))])), (.val (prim (P1 tupleF) [(.bor 1)]))])) (kc .none) (kc (.str "ends")))))
theorem num_lc (x0 x1 x2 : Option W) : ∀ ds : List PyData, lcLoop [3] (tgN 3) yesT (callE (rIsNumber) [(.val (var 3))]) ds [x0, x1, x2, none] = .ok (ds.map fun d => PyData.bool (isN d)) [x0, x1, x2, none]
  | [] => rfl
  | d :: ds => by
    have ih := num_lc x0 x1 x2 ds
    have e : rIsNumber [.c d] = .ok (.c (.bool (isN d))) [] := is_number_s d
    rw [List.map_cons]
    simp! only [e, ih]
theorem num2_lc (x0 x1 x2 : Option W) : ∀ ds : List PyData, lcLoop [3] (tgN 3) yesT (andE (prim (P1 (isiF "int")) [(.bor 3)]) (notE (prim (P1 (isiF "bool")) [(.bor 3)]))) ds [x0, x1, x2, none] = .ok (ds.map fun d => PyData.bool (isN d)) [x0, x1, x2, none]
  | [] => rfl
  | d :: ds => by
    have ih := num2_lc x0 x1 x2 ds
    rw [List.map_cons]
    unfold isN at *
    cases d <;> simp! only [ih]
theorem tuple_t (ds : List PyData) : tupleF (.c (.tuple ds)) = some (.c (.tuple ds)) := rfl
theorem for_error_s {n : Nat} {rs : List Rd} (ok : TownOk n rs) (ps : List Int) (d : PyData) : runD 4 [] gForError [.c (townD n rs), .c (tupI ps), .c d] = .ok (.c (forDue n rs ps d)) [] := by
  have e : rIsRow [.c (townD n rs), .c d] = .ok (.c (.bool (isR rs.length d))) [] := is_row_s n rs d
  have hroads := ok.roads
  cases h : isR rs.length d with
  | false =>
    rw [h] at e
    have hd : forDue n rs ps d = .str "form" := by
      unfold forDue
      unfold isR at h
      cases d with
      | tuple ds =>
        have h : ¬ ds.length = rs.length := of_decide_eq_false h
        show (if ds.length = rs.length then _ else _) = _
        rw [if_neg h]
      | _ => rfl
    rw [hd]
    unfold gForError
    simp! only [e]
  | true =>
    rw [h] at e
    obtain ⟨ds, rfl, hl⟩ : ∃ ds, d = .tuple ds ∧ ds.length = rs.length := by
      unfold isR at h
      cases d with
      | tuple ds => exact ⟨ds, rfl, of_decide_eq_true h⟩
      | _ => cases h
    have hd : forDue n rs ps (.tuple ds) = (match isI ds with
      | some xs => if endsL n rs xs = ps then .none else .str "ends"
      | none => .str "form") := by
      show (if ds.length = rs.length then _ else _) = _
      rw [if_pos hl]
    rw [hd]
    have hlc := num_lc (some (.c (townD n rs))) (some (.c (tupI ps))) (some (.c (.tuple ds))) ds
    have hz : ds.length ≤ sizeLine := small_line (by omega)
    have ha := isI_all ds
    cases hi : isI ds with
    | none =>
      rw [hi] at ha
      unfold gForError
      simp! only [e, hlc, hz, bools_n, ha, Option.isSome_none, Option.isSome_some]
    | some xs =>
      rw [hi] at ha
      have hxs := isI_some hi
      have e2 : rEnds [.c (townD n rs), .c (tupI xs)] = .ok (.c (tupI (endsL n rs xs))) [] := ends_s ok xs
      have hq := eq_tints (endsL n rs xs) ps
      have ht : tupleF (.c (tupI ps)) = some (.c (tupI ps)) := rfl
      have e2 : rEnds [.c (townD n rs), .c (.tuple ds)] = .ok (.c (tupI (endsL n rs xs))) [] := by rw [hxs]; exact e2
      show _ = RD.ok (.c (if endsL n rs xs = ps then .none else .str "ends")) []
      by_cases hh : endsL n rs xs = ps
      · rw [if_pos hh]
        rw [decide_eq_true hh] at hq
        unfold gForError
        simp! only [e, hlc, hz, bools_n, ha, Option.isSome_none, Option.isSome_some, e2, ht, hq]
      · rw [if_neg hh]
        rw [decide_eq_false hh] at hq
        unfold gForError
        simp! only [e, hlc, hz, bools_n, ha, Option.isSome_none, Option.isSome_some, e2, ht, hq]
noncomputable def gForDue : VL.Env → RS := (seqS (ifS (orT (notT (tst (prim (P1 (isiF "tuple")) [(.bor 2)]))) (tst (prim (PB neF2) [(.val (prim (P1 lenF) [(.bor 2)])), (.val (prim (P1 lenF) [(.val (prim (P2 ixF2) [(.bor 0), (.val (kc (.int 1)))]))]))]))) (retS (kc (.str "form"))) skipS) (seqS (ifS (notT (tst (walkE allG (lcE [3] (seqI (var 2)) (tgN 3) yesT (andE (prim (P1 (isiF "int")) [(.bor 3)]) (notE (prim (P1 (isiF "bool")) [(.bor 3)]))))))) (retS (kc (.str "form"))) skipS) (retS (ifE (tst (prim (PB eqF2) [(.val (callE (rLawEnds) [(.val (var 0)), (.val (var 2))])), (.bor 1)])) (kc .none) (kc (.str "ends"))))))
theorem for_due_s {n : Nat} {rs : List Rd} (ok : TownOk n rs) (ps : List Int) (d : PyData) : runD 4 [] gForDue [.c (townD n rs), .c (tupI ps), .c d] = .ok (.c (forDue n rs ps d)) [] := by
  have hroads := ok.roads
  have hll : (rs.map rdD).length = rs.length := List.length_map _
  cases d with
  | tuple ds =>
    by_cases hl : ds.length = rs.length
    · have dl : (!decide (ds.length = rs.length)) = false := by simp [hl]
      have hd : forDue n rs ps (.tuple ds) = (match isI ds with
        | some xs => if endsL n rs xs = ps then .none else .str "ends"
        | none => .str "form") := by
        show (if ds.length = rs.length then _ else _) = _
        rw [if_pos hl]
      rw [hd]
      have hlc := num2_lc (some (.c (townD n rs))) (some (.c (tupI ps))) (some (.c (.tuple ds))) ds
      have hz : ds.length ≤ sizeLine := small_line (by omega)
      have ha := isI_all ds
      have hix : ixF2 (.c (townD n rs)) (.c (.int 1)) = some (.c (.tuple (rs.map rdD))) := rfl
      cases hi : isI ds with
      | none =>
        rw [hi] at ha
        unfold gForDue
        simp! only [hix, hll, nei, nat_dec, dl, hlc, hz, bools_n, ha, Option.isSome_none, Option.isSome_some]
      | some xs =>
        rw [hi] at ha
        have hxs := isI_some hi
        have e2 : rLawEnds [.c (townD n rs), .c (tupI xs)] = .ok (.c (tupI (endsL n rs xs))) [] := law_ends_s ok xs
        have hq := eq_tints (endsL n rs xs) ps
        have e2 : rLawEnds [.c (townD n rs), .c (.tuple ds)] = .ok (.c (tupI (endsL n rs xs))) [] := by rw [hxs]; exact e2
        show _ = RD.ok (.c (if endsL n rs xs = ps then .none else .str "ends")) []
        by_cases hh : endsL n rs xs = ps
        · rw [if_pos hh]
          rw [decide_eq_true hh] at hq
          unfold gForDue
          simp! only [hix, hll, nei, nat_dec, dl, hlc, hz, bools_n, ha, Option.isSome_none, Option.isSome_some, e2, hq]
        · rw [if_neg hh]
          rw [decide_eq_false hh] at hq
          unfold gForDue
          simp! only [hix, hll, nei, nat_dec, dl, hlc, hz, bools_n, ha, Option.isSome_none, Option.isSome_some, e2, hq]
    · have dl : (!decide (ds.length = rs.length)) = true := by simp [hl]
      have hd : forDue n rs ps (.tuple ds) = .str "form" := by
        show (if ds.length = rs.length then _ else _) = _
        rw [if_neg hl]
      rw [hd]
      unfold gForDue townD
      simp! only [nei, hll, nat_dec, dl]
  | _ =>
    unfold gForDue townD forDue
    simp! only []
section
variable {a b c d n : PyData} {l : List PyData}
theorem gd0 : (a :: l).getD 0 n = a := rfl
theorem gd1 : (a :: b :: l).getD 1 n = b := rfl
theorem gd2 : (a :: b :: c :: l).getD 2 n = c := rfl
theorem gd3 : (a :: b :: c :: d :: l).getD 3 n = d := rfl
end
end VG
namespace K79
open PySem PySem.Spec PyProof.Rows L2 VL
def topS (i : Nat) : Stmt := PySem.Challenge.pw_roadloans_k79_whole_flows.main.body.getD i (.Pass ⟨0, 0, 0, 0⟩)
structure Ft (mg : Str → Option Value) : Prop where
  abs : mg "abs" = none
  all : mg "all" = none
  bool : mg "bool" = none
  enumerate : mg "enumerate" = none
  int : mg "int" = none
  isinstance : mg "isinstance" = none
  len : mg "len" = none
  list : mg "list" = none
  max : mg "max" = none
  min : mg "min" = none
  range : mg "range" = none
  repr : mg "repr" = none
  sorted : mg "sorted" = none
  sum : mg "sum" = none
  tuple : mg "tuple" = none
  zip : mg "zip" = none
  MAX_MONEY : ∃ t, mg "MAX_MONEY" = some (.int 1000 t)
def subL : List (Str × Str × Bool) := [("Unfit", "Unfit", true)]
/-! is_number -/
noncomputable def g_is_number : VL.Env → RS := (retS (andE (prim (P1 (isiF "int")) [(.bor 0)]) (notE (prim (P1 (isiF "bool")) [(.bor 0)]))))
noncomputable def r_is_number : List VL.W → VL.RD := runD 1 [] g_is_number
theorem sc_is_number : FnScope ["value"] ["value"] (defScope (topS 5)) := ⟨rfl, rfl, rfl, by decide +kernel, rfl, by decide +kernel, by decide +kernel⟩
set_option maxHeartbeats 4000000 in
theorem ok_is_number {P : Program} {w : World} {K : PySem.W.Frag} {mg : Str → Option Value} {base : Heap} {f : Addr} {fd : FuncData} (Z : Ft mg)  (F : Fun K "is_number" "is_number" (topS 5) f fd) : FnG P w K mg base 1 f fd ["value"] (spW K mg 1 [] r_is_number) :=
  fnG_of (k := 0) F sc_is_number (by decide) (by decide) fun cdv A outer s H vs E B hp => by
    have hN := sc_is_number.nd
    exact (vs_one (vs_ret (ve_and (ve_isi kt_int (vo_bor 0) (by decide +kernel) (hm := Z.isinstance) (hmt := Z.int)) (ve_one (ve_not (ve_isi kt_bool (vo_bor 0) (by decide +kernel) (hm := Z.isinstance) (hmt := Z.bool)))))))
/-! is_within -/
noncomputable def g_is_within : VL.Env → RS := (retS (andE (callE (r_is_number) [(.val (var 0))]) (asW (chain2 (fun i j => decide (i ≤ j)) (fun i j => decide (i ≤ j)) (var 1) (var 0) (var 2)))))
noncomputable def r_is_within : List VL.W → VL.RD := runD 3 [] g_is_within
theorem sc_is_within : FnScope ["value", "least", "most"] ["value", "least", "most"] (defScope (topS 6)) := ⟨rfl, rfl, rfl, by decide +kernel, rfl, by decide +kernel, by decide +kernel⟩
set_option maxHeartbeats 4000000 in
theorem ok_is_within {P : Program} {w : World} {K : PySem.W.Frag} {mg : Str → Option Value} {base : Heap} {f : Addr} {fd : FuncData} (Z : Ft mg) (C_is_number : Cal P w K mg base 1 "is_number" 1 [] r_is_number) (F : Fun K "is_within" "is_within" (topS 6) f fd) : FnG P w K mg base 2 f fd ["value", "least", "most"] (spW K mg 3 [] r_is_within) :=
  fnG_of (k := 1) F sc_is_within (by decide) (by decide) fun cdv A outer s H vs E B hp => by
    have hN := sc_is_within.nd
    exact (vs_one (vs_ret (ve_and (ve_call B C_is_number (va_c (vo_val (ve_var 0)) va_nil)) (ve_one (ve_chain op_le op_le (ve_var 1) (ve_var 0) (ve_var 2))))))
/-! reached -/
noncomputable def g_reached : VL.Env → RS := (seqS (parS [3, 4] [.val (dispE (flatO [((var 2), (kc (.bool true)))])), .val (prim lstF [(.val (var 2))])]) (seqS (whileS (tst (prim (PB neF2) [(.bor 4), (.val (prim lstF []))])) (seqS (asgS 5 (frzE (mutE popM 4 []))) (forS (seqI (var 1)) (tgT 2 (tgsC (tgN 6) (tgsC (tgN 7) tgsN))) (seqS (asgS 8 (frzE (ifE (tst (prim (PB eqF2) [(.bor 6), (.bor 5)])) (var 7) (var 6)))) (ifS (andT (tst (prim (PB inF2) [(.bor 5), (.val (prim tupF [(.val (var 6)), (.val (var 7))]))])) (tst (prim (PB notInF2) [(.bor 8), (.bor 3)]))) (seqS (putS 3 (kc (.bool true)) (var 8)) (dropS (mutE appM 4 [(.val (var 8))]))) skipS))))) (retS (lcE [9] (rngI rng1 [(.val (var 0))]) (tgN 9) (tst (prim (PB inF2) [(.bor 9), (.bor 3)])) (var 9)))))
noncomputable def r_reached : List VL.W → VL.RD := runD 10 [] g_reached
theorem sc_reached : FnScope ["houses", "roads", "house", "known", "waiting", "here", "one", "two", "other", "own"] ["houses", "roads", "house"] (defScope (topS 7)) := ⟨rfl, rfl, rfl, by decide +kernel, rfl, by decide +kernel, by decide +kernel⟩
set_option maxHeartbeats 4000000 in
theorem ok_reached {P : Program} {w : World} {K : PySem.W.Frag} {mg : Str → Option Value} {base : Heap} {f : Addr} {fd : FuncData} (Z : Ft mg)  (F : Fun K "reached" "reached" (topS 7) f fd) : FnG P w K mg base 1 f fd ["houses", "roads", "house"] (spW K mg 3 [] r_reached) :=
  fnG_of (k := 0) F sc_reached (by decide) (by decide) fun cdv A outer s H vs E B hp => by
    have hN := sc_reached.nd
    exact (vs_cons (vs_parT B.calm hN (va_c (vo_val (ve_disp (vps_cons (ve_var 2) ve_bl vps_nil))) (va_c (vo_val (ve_lst (va_c (vo_val (ve_var 2)) va_nil))) va_nil)) (.cons rfl (by first | exact .inl rfl | exact .inr rfl) (by first | exact .inl rfl | exact .inr rfl) rfl (.cons rfl (by first | exact .inl rfl | exact .inr rfl) (by first | exact .inl rfl | exact .inr rfl) rfl .nil))) (vs_cons (vs_while hp (vt_ne B.room (vo_bor 4) (vo_val (ve_lst va_nil))) (vs_cons (vs_set 5 hN (ve_frz (ve_meth0 4 pop_ok PySem.F.slot_list_pop PySem.F.type_list_pop mt_pop))) (vs_one (vs_for hp B.calm (vi_seq (ve_var 1)) (vg_tup B.calm (vg_cons (vg_name 6 hN) (vg_cons (vg_name 7 hN) vg_nil))) (vs_cons (vs_set 8 hN (ve_frz (ve_if (vt_eq B.room (vo_bor 6) (vo_bor 5)) (ve_var 7) (ve_var 6)))) (vs_one (vs_if (vt_w (vw_and (vt_in B.room (vo_bor 5) (vo_val (ve_tup (va_c (vo_val (ve_var 6)) (va_c (vo_val (ve_var 7)) va_nil))))) (vw_and1 (vt_notin B.room (vo_bor 8) (vo_bor 3))))) (vs_cons (vs_put 3 (room1 B.room) ve_bl (ve_var 8)) (vs_one (vs_expr (ve_meth 4 app_ok PySem.F.slot_list_append PySem.F.type_list_append mt_append (va_c (vo_val (ve_var 8)) va_nil))))) vs_nil))))))) (vs_one (vs_ret (ve_lc [("own", 9)] B.calm hN (vi_range1 rfl Z.range (va_c (vo_val (ve_var 0)) va_nil)) (show BlkOk ["houses", "roads", "house", "known", "waiting", "here", "one", "two", "other", "own"] (defScope (topS 7)) _ [("own", 9)] from ⟨rfl, by decide +kernel, by decide +kernel, by decide +kernel, by decide +kernel⟩) (fun _ _ _ _ _ => (vg_name 9 hN)) (fun _ _ _ _ _ => (vts_one (vt_in (Bd.blk B).room (vo_bor 9) (vo_bor 3)))) (fun _ _ _ _ _ => (ve_var 9)))))))
/-! money -/
noncomputable def g_money : VL.Env → RS := (retS (walkE sumG (var 0)))
noncomputable def r_money : List VL.W → VL.RD := runD 1 [] g_money
theorem sc_money : FnScope ["purse"] ["purse"] (defScope (topS 9)) := ⟨rfl, rfl, rfl, by decide +kernel, rfl, by decide +kernel, by decide +kernel⟩
set_option maxHeartbeats 4000000 in
theorem ok_money {P : Program} {w : World} {K : PySem.W.Frag} {mg : Str → Option Value} {base : Heap} {f : Addr} {fd : FuncData} (Z : Ft mg)  (F : Fun K "money" "money" (topS 9) f fd) : FnG P w K mg base 1 f fd ["purse"] (spW K mg 1 [] r_money) :=
  fnG_of (k := 0) F sc_money (by decide) (by decide) fun cdv A outer s H vs E B hp => by
    have hN := sc_money.nd
    exact (vs_one (vs_ret (ve_sum B.calm (ve_var 0) (hm := Z.sum))))
/-! is_row -/
noncomputable def g_is_row : VL.Env → RS := (retS (andE (prim (P1 (isiF "tuple")) [(.bor 1)]) (prim (PB eqF2) [(.val (prim (P1 lenF) [(.bor 1)])), (.val (prim (P1 lenF) [(.val (prim (P2 ixF2) [(.bor 0), (.val (kc (.int 1)))]))]))])))
noncomputable def r_is_row : List VL.W → VL.RD := runD 2 [] g_is_row
theorem sc_is_row : FnScope ["town", "value"] ["town", "value"] (defScope (topS 11)) := ⟨rfl, rfl, rfl, by decide +kernel, rfl, by decide +kernel, by decide +kernel⟩
set_option maxHeartbeats 4000000 in
theorem ok_is_row {P : Program} {w : World} {K : PySem.W.Frag} {mg : Str → Option Value} {base : Heap} {f : Addr} {fd : FuncData} (Z : Ft mg)  (F : Fun K "is_row" "is_row" (topS 11) f fd) : FnG P w K mg base 1 f fd ["town", "value"] (spW K mg 2 [] r_is_row) :=
  fnG_of (k := 0) F sc_is_row (by decide) (by decide) fun cdv A outer s H vs E B hp => by
    have hN := sc_is_row.nd
    exact (vs_one (vs_ret (ve_and (ve_isi kt_tuple (vo_bor 1) (by decide +kernel) (hm := Z.isinstance) (hmt := Z.tuple)) (ve_one (ve_eq B.room (vo_val (ve_len rfl Z.len (va_c (vo_bor 1) va_nil))) (vo_val (ve_len rfl Z.len (va_c (vo_val (ve_ix B.room (vo_bor 0) (vo_val ve_int))) va_nil))))))))
/-! flow_error -/
noncomputable def g_flow_error : VL.Env → RS := (seqS (ifS (notT (tst (callE (r_is_row) [(.val (var 0)), (.val (var 1))]))) (retS (kc (.str "form"))) skipS) (seqS (forS (rngI en1 [.val (frzE (var 1))]) (tgT 2 (tgsC (tgN 2) (tgsC (tgN 3) tgsN))) (ifS (notT (tst (callE (r_is_within) [(.val (var 3)), (.val (prim (P1 negF) [(.val (kc (.int 1000)))])), (.val (kc (.int 1000)))]))) (retS (prim tupF [(.val (kc (.str "road"))), (.val (var 2))])) skipS)) (retS (kc .none))))
noncomputable def r_flow_error : List VL.W → VL.RD := runD 4 [] g_flow_error
theorem sc_flow_error : FnScope ["town", "value", "place", "item"] ["town", "value"] (defScope (topS 12)) := ⟨rfl, rfl, rfl, by decide +kernel, rfl, by decide +kernel, by decide +kernel⟩
set_option maxHeartbeats 4000000 in
theorem ok_flow_error {P : Program} {w : World} {K : PySem.W.Frag} {mg : Str → Option Value} {base : Heap} {f : Addr} {fd : FuncData} (Z : Ft mg) (C_is_row : Cal P w K mg base 1 "is_row" 2 [] r_is_row) (C_is_within : Cal P w K mg base 2 "is_within" 3 [] r_is_within) (F : Fun K "flow_error" "flow_error" (topS 12) f fd) : FnG P w K mg base 3 f fd ["town", "value"] (spW K mg 2 [] r_flow_error) :=
  fnG_of (k := 2) F sc_flow_error (by decide) (by decide) fun cdv A outer s H vs E B hp => by
    have hN := sc_flow_error.nd
    exact (vs_cons (vs_if (vt_not (vt_val (ve_call B C_is_row (va_c (vo_val (ve_var 0)) (va_c (vo_val (ve_var 1)) va_nil))))) (vs_one (vs_ret ve_str)) vs_nil) (vs_cons (vs_for hp B.calm (vi_enum (ve_var 1) (hm := Z.enumerate)) (vg_tup B.calm (vg_cons (vg_name 2 hN) (vg_cons (vg_name 3 hN) vg_nil))) (vs_one (vs_if (vt_not (vt_val (ve_call B C_is_within (va_c (vo_val (ve_var 3)) (va_c (vo_val (ve_neg (vo_val (ve_globE Z.MAX_MONEY)))) (va_c (vo_val (ve_globE Z.MAX_MONEY)) va_nil)))))) (vs_one (vs_ret (ve_tup (va_c (vo_val ve_str) (va_c (vo_val (ve_var 2)) va_nil))))) vs_nil))) (vs_one (vs_ret ve_non))))
/-! ends -/
noncomputable def g_ends : VL.Env → RS := (seqS (asgS 2 (prim (P2 mulF2) [(.val (prim lstF [(.val (kc (.int 0)))])), (.val (prim (P2 ixF2) [(.bor 0), (.val (kc (.int 0)))]))])) (seqS (forS (rngI z2 [.val (frzE (prim (P2 ixF2) [(.bor 0), (.val (kc (.int 1)))])), .val (frzE (var 1))]) (tgT 2 (tgsC (tgT 2 (tgsC (tgN 4) (tgsC (tgN 5) tgsN))) (tgsC (tgN 3) tgsN))) (seqS (putS 2 (frzE (prim (P2 subF2) [(.val (prim (P2 ixF2) [(.bor 2), (.bor 4)])), (.bor 3)])) (var 4)) (putS 2 (frzE (prim (P2 addF2) [(.val (prim (P2 ixF2) [(.bor 2), (.bor 5)])), (.bor 3)])) (var 5)))) (retS (prim (P1 tupleF) [(.bor 2)]))))
noncomputable def r_ends : List VL.W → VL.RD := runD 6 [] g_ends
theorem sc_ends : FnScope ["town", "flow", "found", "item", "one", "other"] ["town", "flow"] (defScope (topS 13)) := ⟨rfl, rfl, rfl, by decide +kernel, rfl, by decide +kernel, by decide +kernel⟩
set_option maxHeartbeats 4000000 in
theorem ok_ends {P : Program} {w : World} {K : PySem.W.Frag} {mg : Str → Option Value} {base : Heap} {f : Addr} {fd : FuncData} (Z : Ft mg)  (F : Fun K "ends" "ends" (topS 13) f fd) : FnG P w K mg base 1 f fd ["town", "flow"] (spW K mg 2 [] r_ends) :=
  fnG_of (k := 0) F sc_ends (by decide) (by decide) fun cdv A outer s H vs E B hp => by
    have hN := sc_ends.nd
    exact (vs_cons (vs_set 2 hN (ve_mul (vo_val (ve_lst (va_c (vo_val ve_int) va_nil))) (vo_val (ve_ix B.room (vo_bor 0) (vo_val ve_int))))) (vs_cons (vs_for hp B.calm (vi_zip2 (ve_ix B.room (vo_bor 0) (vo_val ve_int)) (ve_var 1) (hm := Z.zip)) (vg_tup B.calm (vg_cons (vg_tup B.calm (vg_cons (vg_name 4 hN) (vg_cons (vg_name 5 hN) vg_nil))) (vg_cons (vg_name 3 hN) vg_nil))) (vs_cons (vs_put 2 (room1 B.room) (ve_frz (ve_sub (vo_val (ve_ix B.room (vo_bor 2) (vo_bor 4))) (vo_bor 3))) (ve_var 4)) (vs_one (vs_put 2 (room1 B.room) (ve_frz (ve_add (vo_val (ve_ix B.room (vo_bor 2) (vo_bor 5))) (vo_bor 3))) (ve_var 5))))) (vs_one (vs_ret (ve_tuple rfl Z.tuple (va_c (vo_bor 2) va_nil))))))
/-! cut_flow -/
noncomputable def g_cut_flow : VL.Env → RS := (retS (prim (P1 tupleF) [(.val (lcE [2, 3] (seqI (prim (P2 ixF2) [(.bor 0), (.val (kc (.int 1)))])) (tgT 2 (tgsC (tgN 2) (tgsC (tgN 3) tgsN))) yesT (prim (P2 subF2) [(.val (prim (P2 ixF2) [(.bor 1), (.bor 2)])), (.val (prim (P2 ixF2) [(.bor 1), (.bor 3)]))])))]))
noncomputable def r_cut_flow : List VL.W → VL.RD := runD 4 [] g_cut_flow
theorem sc_cut_flow : FnScope ["town", "script", "one", "other"] ["town", "script"] (defScope (topS 14)) := ⟨rfl, rfl, rfl, by decide +kernel, rfl, by decide +kernel, by decide +kernel⟩
set_option maxHeartbeats 4000000 in
theorem ok_cut_flow {P : Program} {w : World} {K : PySem.W.Frag} {mg : Str → Option Value} {base : Heap} {f : Addr} {fd : FuncData} (Z : Ft mg)  (F : Fun K "cut_flow" "cut_flow" (topS 14) f fd) : FnG P w K mg base 1 f fd ["town", "script"] (spW K mg 2 [] r_cut_flow) :=
  fnG_of (k := 0) F sc_cut_flow (by decide) (by decide) fun cdv A outer s H vs E B hp => by
    have hN := sc_cut_flow.nd
    exact (vs_one (vs_ret (ve_tuple rfl Z.tuple (va_c (vo_val (ve_lc [("one", 2), ("other", 3)] B.calm hN (vi_seq (ve_ix B.room (vo_bor 0) (vo_val ve_int))) (show BlkOk ["town", "script", "one", "other"] (defScope (topS 14)) _ [("one", 2), ("other", 3)] from ⟨rfl, by decide +kernel, by decide +kernel, by decide +kernel, by decide +kernel⟩) (fun _ _ _ _ _ => (vg_tup (Bd.blk B).calm (vg_cons (vg_name 2 hN) (vg_cons (vg_name 3 hN) vg_nil)))) (fun _ _ _ _ _ => vts_nil) (fun _ _ _ _ _ => (ve_sub (vo_val (ve_ix (Bd.blk B).room (vo_bor 1) (vo_bor 2))) (vo_val (ve_ix (Bd.blk B).room (vo_bor 1) (vo_bor 3))))))) va_nil))))
/-! tree_places -/
noncomputable def g_tree_places : VL.Env → RS := (seqS (asgS 1 (prim lstF [])) (seqS (forS (rngI en1 [.val (frzE (prim (P2 ixF2) [(.bor 0), (.val (kc (.int 1)))]))]) (tgT 2 (tgsC (tgN 2) (tgsC (tgT 2 (tgsC (tgN 3) (tgsC (tgN 4) tgsN))) tgsN))) (ifS (tst (prim (PB notInF2) [(.bor 4), (.val (callE (r_reached) [(.val (frzE (prim (P2 ixF2) [(.bor 0), (.val (kc (.int 0)))]))), (.val (frzE (lcBE [5] 1 (tgN 5) yesT (prim (P2 ixF2) [(.val (prim (P2 ixF2) [(.bor 0), (.val (kc (.int 1)))])), (.bor 5)])))), (.val (var 3))]))])) (dropS (mutE appM 1 [(.val (var 2))])) skipS)) (retS (mov 1))))
noncomputable def r_tree_places : List VL.W → VL.RD := runD 6 [] g_tree_places
theorem sc_tree_places : FnScope ["town", "found", "place", "one", "other", "own"] ["town"] (defScope (topS 15)) := ⟨rfl, rfl, rfl, by decide +kernel, rfl, by decide +kernel, by decide +kernel⟩
set_option maxHeartbeats 4000000 in
theorem ok_tree_places {P : Program} {w : World} {K : PySem.W.Frag} {mg : Str → Option Value} {base : Heap} {f : Addr} {fd : FuncData} (Z : Ft mg) (C_reached : Cal P w K mg base 1 "reached" 3 [] r_reached) (F : Fun K "tree_places" "tree_places" (topS 15) f fd) : FnG P w K mg base 2 f fd ["town"] (spW K mg 1 [] r_tree_places) :=
  fnG_of (k := 1) F sc_tree_places (by decide) (by decide) fun cdv A outer s H vs E B hp => by
    have hN := sc_tree_places.nd
    exact (vs_cons (vs_set 1 hN (ve_lst va_nil)) (vs_cons (vs_for hp B.calm (vi_enum (ve_ix B.room (vo_bor 0) (vo_val ve_int)) (hm := Z.enumerate)) (vg_tup B.calm (vg_cons (vg_name 2 hN) (vg_cons (vg_tup B.calm (vg_cons (vg_name 3 hN) (vg_cons (vg_name 4 hN) vg_nil))) vg_nil))) (vs_one (vs_if (vt_notin B.room (vo_bor 4) (vo_val (ve_call B C_reached (va_c (vo_val (ve_frz (ve_ix B.room (vo_bor 0) (vo_val ve_int)))) (va_c (vo_val (ve_frz (ve_lcB 1 [("own", 5)] B.calm hN (vi_bor 1) (show BlkOk ["town", "found", "place", "one", "other", "own"] (defScope (topS 15)) _ [("own", 5)] from ⟨rfl, by decide +kernel, by decide +kernel, by decide +kernel, by decide +kernel⟩) (fun _ _ _ _ _ => (vg_name 5 hN)) (fun _ _ _ _ _ => vts_nil) (fun _ _ _ _ _ => (ve_ix (Bd.blk B).room (vo_val (ve_ix (Bd.blk B).room (vo_bor 0) (vo_val ve_int))) (vo_bor 5)))))) (va_c (vo_val (ve_var 3)) va_nil)))))) (vs_one (vs_expr (ve_meth 1 app_ok PySem.F.slot_list_append PySem.F.type_list_append mt_append (va_c (vo_val (ve_var 2)) va_nil)))) vs_nil))) (vs_one (vs_ret (ve_mov 1)))))
/-! flow_for -/
noncomputable def g_flow_for : VL.Env → RS := (seqS (ifS (tst (prim (PB neF2) [(.val (callE (r_money) [(.val (var 1))])), (.val (kc (.int 0)))])) (raiseS "Unfit") skipS) (seqS (par2S 3 4 [.val (prim (P2 mulF2) [(.val (prim lstF [(.val (kc (.int 0)))])), (.val (prim (P1 lenF) [(.val (prim (P2 ixF2) [(.bor 0), (.val (kc (.int 1)))]))]))]), .val (frzE (callE (r_tree_places) [(.val (var 0))]))]) (seqS (forS (seqI (var 4)) (tgN 2) (seqS (asgS 5 (frzE (lcE [6] (seqI (var 4)) (tgN 6) (tst (prim (PB neF2) [(.bor 6), (.bor 2)])) (prim (P2 ixF2) [(.val (prim (P2 ixF2) [(.bor 0), (.val (kc (.int 1)))])), (.bor 6)])))) (putS 3 (frzE (walkE sumG (lcE [7] (seqI (callE (r_reached) [(.val (frzE (prim (P2 ixF2) [(.bor 0), (.val (kc (.int 0)))]))), (.val (var 5)), (.val (frzE (prim (P2 ixF2) [(.val (prim (P2 ixF2) [(.val (prim (P2 ixF2) [(.bor 0), (.val (kc (.int 1)))])), (.bor 2)])), (.val (kc (.int 1)))])))])) (tgN 7) yesT (prim (P2 ixF2) [(.bor 1), (.bor 7)])))) (var 2)))) (retS (prim (P1 tupleF) [(.bor 3)])))))
noncomputable def r_flow_for : List VL.W → VL.RD := runD 8 [] g_flow_for
theorem sc_flow_for : FnScope ["town", "purse", "place", "found", "tree", "rest", "own", "house"] ["town", "purse"] (defScope (topS 16)) := ⟨rfl, rfl, rfl, by decide +kernel, rfl, by decide +kernel, by decide +kernel⟩
set_option maxHeartbeats 4000000 in
theorem ok_flow_for {P : Program} {w : World} {K : PySem.W.Frag} {mg : Str → Option Value} {base : Heap} {f : Addr} {fd : FuncData} (Z : Ft mg) (C_money : Cal P w K mg base 1 "money" 1 [] r_money) (C_tree_places : Cal P w K mg base 2 "tree_places" 1 [] r_tree_places) (C_reached : Cal P w K mg base 1 "reached" 3 [] r_reached) (E_Unfit : ExcF K mg "Unfit") (F : Fun K "flow_for" "flow_for" (topS 16) f fd) : FnG P w K mg base 3 f fd ["town", "purse"] (spW K mg 2 [] r_flow_for) :=
  fnG_of (k := 2) F sc_flow_for (by decide) (by decide) fun cdv A outer s H vs E B hp => by
    have hN := sc_flow_for.nd
    exact (vs_cons (vs_if (vt_ne B.room (vo_val (ve_call B C_money (va_c (vo_val (ve_var 1)) va_nil))) (vo_val ve_int)) (vs_one (vs_raise0 B E_Unfit)) vs_nil) (vs_cons (vs_par2 3 4 B.calm hN (va_c (vo_val (ve_mul (vo_val (ve_lst (va_c (vo_val ve_int) va_nil))) (vo_val (ve_len rfl Z.len (va_c (vo_val (ve_ix B.room (vo_bor 0) (vo_val ve_int))) va_nil))))) (va_c (vo_val (ve_frz (ve_call B C_tree_places (va_c (vo_val (ve_var 0)) va_nil)))) va_nil))) (vs_cons (vs_for hp B.calm (vi_seq (ve_var 4)) (vg_name 2 hN) (vs_cons (by first | exact vs_set 5 hN (ve_frz (ve_lc [("own", 6)] B.calm hN (vi_seq (ve_var 4)) (show BlkOk ["town", "purse", "place", "found", "tree", "rest", "own", "house"] (defScope (topS 16)) _ [("own", 6)] from ⟨rfl, by decide +kernel, by decide +kernel, by decide +kernel, by decide +kernel⟩) (fun _ _ _ _ _ => (vg_name 6 hN)) (fun _ _ _ _ _ => (vts_one (vt_ne (Bd.blk B).room (vo_bor 6) (vo_bor 2)))) (fun _ _ _ _ _ => (ve_ix (Bd.blk B).room (vo_val (ve_ix (Bd.blk B).room (vo_bor 0) (vo_val ve_int))) (vo_bor 6))))) | exact vs_setLcF 5 [("own", 6)] B.calm hN (vi_seq (ve_var 4)) (show BlkOk ["town", "purse", "place", "found", "tree", "rest", "own", "house"] (defScope (topS 16)) _ [("own", 6)] from ⟨rfl, by decide +kernel, by decide +kernel, by decide +kernel, by decide +kernel⟩) (fun _ _ _ _ _ => (vg_name 6 hN)) (fun _ _ _ _ _ => (vts_one (vt_ne (Bd.blk B).room (vo_bor 6) (vo_bor 2)))) (fun _ _ _ _ _ => (ve_ix (Bd.blk B).room (vo_val (ve_ix (Bd.blk B).room (vo_bor 0) (vo_val ve_int))) (vo_bor 6))) (by rfl)) (vs_one (vs_put 3 (room1 B.room) (ve_frz (ve_sum B.calm (ve_lc [("house", 7)] B.calm hN (vi_seq (ve_call B C_reached (va_c (vo_val (ve_frz (ve_ix B.room (vo_bor 0) (vo_val ve_int)))) (va_c (vo_val (ve_var 5)) (va_c (vo_val (ve_frz (ve_ix B.room (vo_val (ve_ix B.room (vo_val (ve_ix B.room (vo_bor 0) (vo_val ve_int))) (vo_bor 2))) (vo_val ve_int)))) va_nil))))) (show BlkOk ["town", "purse", "place", "found", "tree", "rest", "own", "house"] (defScope (topS 16)) _ [("house", 7)] from ⟨rfl, by decide +kernel, by decide +kernel, by decide +kernel, by decide +kernel⟩) (fun _ _ _ _ _ => (vg_name 7 hN)) (fun _ _ _ _ _ => vts_nil) (fun _ _ _ _ _ => (ve_ix (Bd.blk B).room (vo_bor 1) (vo_bor 7)))) (hm := Z.sum))) (ve_var 2))))) (vs_one (vs_ret (ve_tuple rfl Z.tuple (va_c (vo_bor 3) va_nil)))))))
/-! flow_for_error -/
noncomputable def g_flow_for_error : VL.Env → RS := (seqS (ifS (orT (notT (tst (callE (r_is_row) [(.val (var 0)), (.val (var 2))]))) (notT (tst (walkE allG (lcE [3] (seqI (var 2)) (tgN 3) yesT (callE (r_is_number) [(.val (var 3))])))))) (retS (kc (.str "form"))) skipS) (retS (ifE (tst (prim (PB eqF2) [(.val (callE (r_ends) [(.val (var 0)), (.val (var 2))])), (.val (prim (P1 tupleF) [(.bor 1)]))])) (kc .none) (kc (.str "ends")))))
noncomputable def r_flow_for_error : List VL.W → VL.RD := runD 4 [] g_flow_for_error
theorem sc_flow_for_error : FnScope ["town", "purse", "value", "item"] ["town", "purse", "value"] (defScope (topS 17)) := ⟨rfl, rfl, rfl, by decide +kernel, rfl, by decide +kernel, by decide +kernel⟩
set_option maxHeartbeats 4000000 in
theorem ok_flow_for_error {P : Program} {w : World} {K : PySem.W.Frag} {mg : Str → Option Value} {base : Heap} {f : Addr} {fd : FuncData} (Z : Ft mg) (C_is_row : Cal P w K mg base 1 "is_row" 2 [] r_is_row) (C_is_number : Cal P w K mg base 1 "is_number" 1 [] r_is_number) (C_ends : Cal P w K mg base 1 "ends" 2 [] r_ends) (F : Fun K "flow_for_error" "flow_for_error" (topS 17) f fd) : FnG P w K mg base 2 f fd ["town", "purse", "value"] (spW K mg 3 [] r_flow_for_error) :=
  fnG_of (k := 1) F sc_flow_for_error (by decide) (by decide) fun cdv A outer s H vs E B hp => by
    have hN := sc_flow_for_error.nd
    exact (vs_cons (vs_if (vt_w (vw_or (vt_not (vt_val (ve_call B C_is_row (va_c (vo_val (ve_var 0)) (va_c (vo_val (ve_var 2)) va_nil))))) (vw_or1 (vt_not (vt_val (ve_all B.calm (ve_lc [("item", 3)] B.calm hN (vi_seq (ve_var 2)) (show BlkOk ["town", "purse", "value", "item"] (defScope (topS 17)) _ [("item", 3)] from ⟨rfl, by decide +kernel, by decide +kernel, by decide +kernel, by decide +kernel⟩) (fun _ _ _ _ _ => (vg_name 3 hN)) (fun _ _ _ _ _ => vts_nil) (fun _ _ _ _ _ => (ve_call (Bd.blk B) C_is_number (va_c (vo_val (ve_var 3)) va_nil)))) (hm := Z.all))))))) (vs_one (vs_ret ve_str)) vs_nil) (vs_one (vs_ret (ve_if (vt_eq B.room (vo_val (ve_call B C_ends (va_c (vo_val (ve_var 0)) (va_c (vo_val (ve_var 2)) va_nil)))) (vo_val (ve_tuple rfl Z.tuple (va_c (vo_bor 1) va_nil)))) ve_non ve_str))))
/-! law_deck -/
noncomputable def g_law_deck : VL.Env → RS := (seqS (asgS 1 (dispE (flatO [((kc (.str "great")), (prim lstF [])), ((kc (.str "mixed")), (prim (P2 addF2) [(.val (kc (.int 1624579))), (.val (prim (P1 lenF) [(.val (prim sl01 [(.bor 0), .val (kc (.int 63))]))]))])), ((kc (.str "turns")), (kc (.int 0)))]))) (seqS (forS (seqI (prim sl01 [(.bor 0), .val (kc (.int 63))])) (tgN 2) (seqS (asgS 3 (frzE (prim (P2 addF2) [(.val (prim (P2 mulF2) [(.val (kc (.int 2))), (.val (prim (P1 absF) [(.bor 2)]))])), (.val (prim (P1 intF) [(.val (prim (PB ltF2) [(.bor 2), (.val (kc (.int 0)))]))]))]))) (seqS (ifS (tst (prim (PB geF2) [(.bor 3), (.val (prim (P2 powF2) [(.val (kc (.int 10))), (.val (kc (.int 16)))]))])) (dropS (mutD appM 1 (kc (.str "great")) [(.val (var 3))])) skipS) (putS 1 (frzE (prim (P2 modF2) [(.val (prim (P1 intF) [(.val (prim (P2 addF2) [(.val (prim (P2 addF2) [(.val (prim (P2 mulF2) [(.val (prim (P2 ixF2) [(.bor 1), (.val (kc (.str "mixed")))])), (.val (kc (.int 69621)))])), (.bor 3)])), (.val (kc (.int 29)))]))])), (.val (kc (.int 4294967291)))])) (kc (.str "mixed")))))) (retS (mov 1))))
noncomputable def r_law_deck : List VL.W → VL.RD := runD 4 [] g_law_deck
theorem sc_law_deck : FnScope ["script", "deck", "cell", "own"] ["script"] (defScope (topS 19)) := ⟨rfl, rfl, rfl, by decide +kernel, rfl, by decide +kernel, by decide +kernel⟩
set_option maxHeartbeats 4000000 in
theorem ok_law_deck {P : Program} {w : World} {K : PySem.W.Frag} {mg : Str → Option Value} {base : Heap} {f : Addr} {fd : FuncData} (Z : Ft mg)  (F : Fun K "_law_deck" "_law_deck" (topS 19) f fd) : FnG P w K mg base 1 f fd ["script"] (spW K mg 1 [] r_law_deck) :=
  fnG_of (k := 0) F sc_law_deck (by decide) (by decide) fun cdv A outer s H vs E B hp => by
    have hN := sc_law_deck.nd
    exact (vs_cons (vs_set 1 hN (ve_disp (vps_cons ve_str (ve_lst va_nil) (vps_cons ve_str (ve_add (vo_val ve_int) (vo_val (ve_len rfl Z.len (va_c (vo_val (ve_sl01 (vo_bor 0) (vo_val ve_int))) va_nil)))) (vps_cons ve_str ve_int vps_nil))))) (vs_cons (vs_for hp B.calm (vi_seq (ve_sl01 (vo_bor 0) (vo_val ve_int))) (vg_name 2 hN) (vs_cons (vs_set 3 hN (ve_frz (ve_add (vo_val (ve_mul (vo_val ve_int) (vo_val (ve_abs rfl Z.abs (va_c (vo_bor 2) va_nil))))) (vo_val (ve_int1 rfl Z.int (va_c (vo_val (ve_lt B.room (vo_bor 2) (vo_val ve_int))) va_nil)))))) (vs_cons (vs_if (vt_ge (vo_bor 3) (vo_val (ve_pow (vo_val ve_int) (vo_val ve_int)))) (vs_one (vs_expr (ve_methD 1 B.room app_ok PySem.F.slot_list_append PySem.F.type_list_append mt_append ve_str (va_c (vo_val (ve_var 3)) va_nil)))) vs_nil) (vs_one (vs_put 1 (room1 B.room) (ve_frz (ve_mod (vo_val (ve_int1 rfl Z.int (va_c (vo_val (ve_add (vo_val (ve_add (vo_val (ve_mul (vo_val (ve_ix B.room (vo_bor 1) (vo_val ve_str))) (vo_val ve_int))) (vo_bor 3))) (vo_val ve_int))) va_nil))) (vo_val ve_int))) ve_str))))) (vs_one (vs_ret (ve_mov 1)))))
/-! law_draw -/
noncomputable def g_law_draw : VL.Env → RS := (seqS (ifS (tst (prim (PB ltF2) [(.bor 1), (.val (kc (.int 2)))])) (retS (kc (.int 0))) skipS) (seqS (ifS (tst (partE (PB neF2) 0 (kc (.str "great")) [(.val (prim lstF []))])) (seqS (asgS 3 (frzE (mutD popM 0 (kc (.str "great")) []))) (seqS (ifS (tst (prim (PB geF2) [(.bor 3), (.bor 1)])) (dropS (mutD appM 0 (kc (.str "great")) [(.val (frzE (prim (P2 fdivF2) [(.bor 3), (.bor 1)])))])) skipS) (retS (prim (P2 modF2) [(.val (prim (P1 intF) [(.bor 3)])), (.bor 1)])))) skipS) (seqS (putS 0 (frzE (prim (P2 addF2) [(.val (prim (P2 ixF2) [(.bor 0), (.val (kc (.str "turns")))])), (.val (kc (.int 1)))])) (kc (.str "turns"))) (seqS (asgS 2 (prim (P2 modF2) [(.val (prim (P1 intF) [(.val (prim (P2 addF2) [(.val (prim (P2 ixF2) [(.bor 0), (.val (kc (.str "mixed")))])), (.val (prim (P2 mulF2) [(.val (kc (.int 2654435761))), (.val (prim (P2 ixF2) [(.bor 0), (.val (kc (.str "turns")))]))]))]))])), (.val (kc (.int 4294967279)))])) (seqS (asgS 2 (prim (P2 modF2) [(.val (prim (P1 intF) [(.val (prim (P2 addF2) [(.val (prim (P2 addF2) [(.val (prim (P2 mulF2) [(.bor 2), (.bor 2)])), (.val (prim (P2 mulF2) [(.val (kc (.int 40692))), (.val (prim (P2 ixF2) [(.bor 0), (.val (kc (.str "turns")))]))]))])), (.val (kc (.int 23)))]))])), (.val (kc (.int 4294967231)))])) (seqS (asgS 2 (prim (P2 modF2) [(.val (prim (P1 intF) [(.val (prim (P2 addF2) [(.val (prim (P2 mulF2) [(.bor 2), (.bor 2)])), (.val (prim (P2 mulF2) [(.val (prim (P2 ixF2) [(.bor 0), (.val (kc (.str "mixed")))])), (.val (kc (.int 11)))]))]))])), (.val (kc (.int 4294967197)))])) (retS (prim (P2 modF2) [(.val (prim (P1 intF) [(.val (prim (P2 fdivF2) [(.bor 2), (.val (kc (.int 64)))]))])), (.bor 1)]))))))))
noncomputable def r_law_draw : List VL.W → VL.RD := runD 4 [0] g_law_draw
theorem sc_law_draw : FnScope ["deck", "many", "number", "great"] ["deck", "many"] (defScope (topS 20)) := ⟨rfl, rfl, rfl, by decide +kernel, rfl, by decide +kernel, by decide +kernel⟩
set_option maxHeartbeats 4000000 in
theorem ok_law_draw {P : Program} {w : World} {K : PySem.W.Frag} {mg : Str → Option Value} {base : Heap} {f : Addr} {fd : FuncData} (Z : Ft mg)  (F : Fun K "_law_draw" "_law_draw" (topS 20) f fd) : FnG P w K mg base 1 f fd ["deck", "many"] (spW K mg 2 [0] r_law_draw) :=
  fnG_of (k := 0) F sc_law_draw (by decide) (by decide) fun cdv A outer s H vs E B hp => by
    have hN := sc_law_draw.nd
    exact (vs_cons (vs_if (vt_lt B.room (vo_bor 1) (vo_val ve_int)) (vs_one (vs_ret ve_int)) vs_nil) (vs_cons (vs_if (vt_neP B.room (pe_part 0 B.room ve_str) (vo_val (ve_lst va_nil))) (vs_cons (vs_set 3 hN (ve_frz (ve_methD0 0 B.room pop_ok PySem.F.slot_list_pop PySem.F.type_list_pop mt_pop ve_str))) (vs_cons (vs_if (vt_ge (vo_bor 3) (vo_bor 1)) (vs_one (vs_expr (ve_methD 0 B.room app_ok PySem.F.slot_list_append PySem.F.type_list_append mt_append ve_str (va_c (vo_val (ve_frz (ve_fdiv (vo_bor 3) (vo_bor 1)))) va_nil)))) vs_nil) (vs_one (vs_ret (ve_mod (vo_val (ve_int1 rfl Z.int (va_c (vo_bor 3) va_nil))) (vo_bor 1)))))) vs_nil) (vs_cons (vs_put 0 (room1 B.room) (ve_frz (ve_add (vo_val (ve_ix B.room (vo_bor 0) (vo_val ve_str))) (vo_val ve_int))) ve_str) (vs_cons (vs_set 2 hN (ve_mod (vo_val (ve_int1 rfl Z.int (va_c (vo_val (ve_add (vo_val (ve_ix B.room (vo_bor 0) (vo_val ve_str))) (vo_val (ve_mul (vo_val ve_int) (vo_val (ve_ix B.room (vo_bor 0) (vo_val ve_str))))))) va_nil))) (vo_val ve_int))) (vs_cons (vs_set 2 hN (ve_mod (vo_val (ve_int1 rfl Z.int (va_c (vo_val (ve_add (vo_val (ve_add (vo_val (ve_mul (vo_bor 2) (vo_bor 2))) (vo_val (ve_mul (vo_val ve_int) (vo_val (ve_ix B.room (vo_bor 0) (vo_val ve_str))))))) (vo_val ve_int))) va_nil))) (vo_val ve_int))) (vs_cons (vs_set 2 hN (ve_mod (vo_val (ve_int1 rfl Z.int (va_c (vo_val (ve_add (vo_val (ve_mul (vo_bor 2) (vo_bor 2))) (vo_val (ve_mul (vo_val (ve_ix B.room (vo_bor 0) (vo_val ve_str))) (vo_val ve_int))))) va_nil))) (vo_val ve_int))) (vs_one (vs_ret (ve_mod (vo_val (ve_int1 rfl Z.int (va_c (vo_val (ve_fdiv (vo_bor 2) (vo_val ve_int))) va_nil))) (vo_bor 1))))))))))
/-! law_pick -/
noncomputable def g_law_pick : VL.Env → RS := (retS (prim (P2 ixF2) [(.bor 1), (.val (callE (r_law_draw) [(.bor 0), (.val (frzE (prim (P1 lenF) [(.bor 1)])))]))]))
noncomputable def r_law_pick : List VL.W → VL.RD := runD 2 [0] g_law_pick
theorem sc_law_pick : FnScope ["deck", "row"] ["deck", "row"] (defScope (topS 21)) := ⟨rfl, rfl, rfl, by decide +kernel, rfl, by decide +kernel, by decide +kernel⟩
set_option maxHeartbeats 4000000 in
theorem ok_law_pick {P : Program} {w : World} {K : PySem.W.Frag} {mg : Str → Option Value} {base : Heap} {f : Addr} {fd : FuncData} (Z : Ft mg) (C_law_draw : Cal P w K mg base 1 "_law_draw" 2 [0] r_law_draw) (F : Fun K "_law_pick" "_law_pick" (topS 21) f fd) : FnG P w K mg base 2 f fd ["deck", "row"] (spW K mg 2 [0] r_law_pick) :=
  fnG_of (k := 1) F sc_law_pick (by decide) (by decide) fun cdv A outer s H vs E B hp => by
    have hN := sc_law_pick.nd
    exact (vs_one (vs_ret (ve_ix B.room (vo_bor 1) (vo_val (ve_call B C_law_draw (va_c (vo_bor 0) (va_c (vo_val (ve_frz (ve_len rfl Z.len (va_c (vo_bor 1) va_nil)))) va_nil)))))))
/-! law_any -/
noncomputable def g_law_any (rs : List VL.W → VL.RD) : VL.Env → RS := (seqS (asgS 2 (frzE (callE (r_law_draw) [(.bor 0), (.val (frzE (ifE (tst (prim (PB gtF2) [(.bor 1), (.val (kc (.int 0)))])) (kc (.int 9)) (kc (.int 6)))))]))) (seqS (ifS (tst (prim (PB ltF2) [(.bor 2), (.val (kc (.int 6)))])) (retS (prim (P2 ixF2) [(.val (prim lstF [(.val (kc .none)), (.val (kc (.bool true))), (.val (frzE (callE (r_law_pick) [(.bor 0), (.val (frzE (prim lstF [(.val (kc (.int 0))), (.val (kc (.int 1))), (.val (kc (.int 2))), (.val (kc (.int 3))), (.val (prim (P1 negF) [(.val (kc (.int 1)))])), (.val (frzE (prim (P2 powF2) [(.val (kc (.int 10))), (.val (kc (.int 18)))])))])))]))), (.val (kc (.str ""))), (.val (kc (.str "on"))), (.val (kc (.str "in")))])), (.bor 2)])) skipS) (seqS (asgS 3 (frzE (lcE [4] (rngI rng1 [(.val (frzE (callE (r_law_draw) [(.bor 0), (.val (kc (.int 4)))])))]) (tgN 4) yesT (callE rs [(.bor 0), (.val (frzE (prim (P2 subF2) [(.bor 1), (.val (kc (.int 1)))])))])))) (retS (ifE (tst (prim (PB ltF2) [(.bor 2), (.val (kc (.int 8)))])) (prim (P1 tupleF) [(.bor 3)]) (var 3))))))
noncomputable def r_law_any : Nat → List VL.W → VL.RD
  | 0 => fun _ => .stuck
  | d + 1 => runD 5 [0] (g_law_any (r_law_any d))
theorem sc_law_any : FnScope ["deck", "deep", "sort", "items", "turn"] ["deck", "deep"] (defScope (topS 22)) := ⟨rfl, rfl, rfl, by decide +kernel, rfl, by decide +kernel, by decide +kernel⟩
set_option maxHeartbeats 4000000 in
theorem ok1_law_any {P : Program} {w : World} {K : PySem.W.Frag} {mg : Str → Option Value} {base : Heap} {f : Addr} {fd : FuncData} (Z : Ft mg) (C_law_draw : Cal P w K mg base 1 "_law_draw" 2 [0] r_law_draw) (C_law_pick : Cal P w K mg base 2 "_law_pick" 2 [0] r_law_pick) (F : Fun K "_law_any" "_law_any" (topS 22) f fd) {j : Nat} (hj0 : 2 ≤ j) {rs : List VL.W → VL.RD} (C_self : Cal P w K mg base j "_law_any" 2 [0] rs) : FnG P w K mg base (j + 1) f fd ["deck", "deep"] (spW K mg 2 [0] (runD 5 [0] (g_law_any rs))) :=
  fnG_of (k := j) F sc_law_any (by decide) (by decide) fun cdv A outer s H vs E B hp => by
    have hN := sc_law_any.nd
    exact (vs_cons (vs_set 2 hN (ve_frz (ve_call B C_law_draw (va_c (vo_bor 0) (va_c (vo_val (ve_frz (ve_if (vt_gt (vo_bor 1) (vo_val ve_int)) ve_int ve_int))) va_nil)) (hj := by omega)))) (vs_cons (vs_if (vt_lt B.room (vo_bor 2) (vo_val ve_int)) (vs_one (vs_ret (ve_ix B.room (vo_val (ve_lst (va_c (vo_val ve_non) (va_c (vo_val ve_bl) (va_c (vo_val (ve_frz (ve_call B C_law_pick (va_c (vo_bor 0) (va_c (vo_val (ve_frz (ve_lst (va_c (vo_val ve_int) (va_c (vo_val ve_int) (va_c (vo_val ve_int) (va_c (vo_val ve_int) (va_c (vo_val (ve_neg (vo_val ve_int))) (va_c (vo_val (ve_frz (ve_pow (vo_val ve_int) (vo_val ve_int)))) va_nil))))))))) va_nil)) (hj := by omega)))) (va_c (vo_val ve_str) (va_c (vo_val ve_str) (va_c (vo_val ve_str) va_nil)))))))) (vo_bor 2)))) vs_nil) (vs_cons (by first | exact vs_set 3 hN (ve_frz (ve_lc [("turn", 4)] B.calm hN (vi_range1 rfl Z.range (va_c (vo_val (ve_frz (ve_call B C_law_draw (va_c (vo_bor 0) (va_c (vo_val ve_int) va_nil)) (hj := by omega)))) va_nil)) (show BlkOk ["deck", "deep", "sort", "items", "turn"] (defScope (topS 22)) _ [("turn", 4)] from ⟨rfl, by decide +kernel, by decide +kernel, by decide +kernel, by decide +kernel⟩) (fun _ _ _ _ _ => (vg_name 4 hN)) (fun _ _ _ _ _ => vts_nil) (fun _ _ _ _ _ => (ve_call (Bd.blk B) C_self (va_c (vo_bor 0) (va_c (vo_val (ve_frz (ve_sub (vo_bor 1) (vo_val ve_int)))) va_nil)) (hj := Nat.le_refl _))))) | exact vs_setLcF 3 [("turn", 4)] B.calm hN (vi_range1 rfl Z.range (va_c (vo_val (ve_frz (ve_call B C_law_draw (va_c (vo_bor 0) (va_c (vo_val ve_int) va_nil)) (hj := by omega)))) va_nil)) (show BlkOk ["deck", "deep", "sort", "items", "turn"] (defScope (topS 22)) _ [("turn", 4)] from ⟨rfl, by decide +kernel, by decide +kernel, by decide +kernel, by decide +kernel⟩) (fun _ _ _ _ _ => (vg_name 4 hN)) (fun _ _ _ _ _ => vts_nil) (fun _ _ _ _ _ => (ve_call (Bd.blk B) C_self (va_c (vo_bor 0) (va_c (vo_val (ve_frz (ve_sub (vo_bor 1) (vo_val ve_int)))) va_nil)) (hj := Nat.le_refl _))) (by rfl)) (vs_one (vs_ret (ve_if (vt_lt B.room (vo_bor 2) (vo_val ve_int)) (ve_tuple rfl Z.tuple (va_c (vo_bor 3) va_nil)) (ve_var 3)))))))
theorem ok_law_any {P : Program} {w : World} {K : PySem.W.Frag} {mg : Str → Option Value} {base : Heap} {f : Addr} {fd : FuncData} (Z : Ft mg) (C_law_draw : Cal P w K mg base 1 "_law_draw" 2 [0] r_law_draw) (C_law_pick : Cal P w K mg base 2 "_law_pick" 2 [0] r_law_pick) (F : Fun K "_law_any" "_law_any" (topS 22) f fd) (hm : mg "_law_any" = some (.ref f)) (hk : PySem.W.keepIn K (.ref f) = true) (hb : L2.Binds K fd ["deck", "deep"] []) : ∀ d, Cal P w K mg base (2 + d) "_law_any" 2 [0] (r_law_any d)
  | 0 => ⟨f, fd, _, hm, hk, hb, fnG_stuck rfl⟩
  | d + 1 => ⟨f, fd, _, hm, hk, hb, ok1_law_any Z C_law_draw C_law_pick F (Nat.le_add_right _ d) (ok_law_any Z C_law_draw C_law_pick F hm hk hb d)⟩
/-! law_town -/
noncomputable def g_law_town : VL.Env → RS := (seqS (asgS 3 (frzE (prim (P2 addF2) [(.val (kc (.int 1))), (.val (callE (r_law_draw) [(.bor 0), (.val (var 1))]))]))) (seqS (asgS 4 (lcE [8] (rngI rng2 [(.val (kc (.int 1))), (.val (var 3))]) (tgN 8) yesT (prim tupF [(.val (frzE (callE (r_law_draw) [(.bor 0), (.val (var 8))]))), (.val (var 8))]))) (seqS (forS (rngI rng1 [(.val (frzE (ifE (tst (prim (PB gtF2) [(.bor 3), (.val (kc (.int 1)))])) (callE (r_law_draw) [(.bor 0), (.val (frzE (prim (P2 addF2) [(.bor 2), (.val (kc (.int 1)))])))]) (kc (.int 0)))))]) (tgN 5) (seqS (asgS 6 (frzE (callE (r_law_draw) [(.bor 0), (.val (var 3))]))) (seqS (asgS 7 (prim (P2 modF2) [(.val (prim (P1 intF) [(.val (prim (P2 addF2) [(.val (prim (P2 addF2) [(.bor 6), (.val (kc (.int 1)))])), (.val (callE (r_law_draw) [(.bor 0), (.val (frzE (prim (P2 subF2) [(.bor 3), (.val (kc (.int 1)))])))]))]))])), (.bor 3)])) (dropS (mutE appM 4 [(.val (prim tupF [(.val (frzE (prim (P2 min2F) [(.bor 6), (.bor 7)]))), (.val (frzE (prim (P2 max2F) [(.bor 6), (.bor 7)])))]))]))))) (retS (prim tupF [(.val (var 3)), (.val (frzE (prim (P1 tupleF) [(.val (prim (P1 sortF) [(.bor 4)]))])))])))))
noncomputable def r_law_town : List VL.W → VL.RD := runD 9 [0] g_law_town
theorem sc_law_town : FnScope ["deck", "most", "more", "houses", "roads", "turn", "a", "b", "v"] ["deck", "most", "more"] (defScope (topS 23)) := ⟨rfl, rfl, rfl, by decide +kernel, rfl, by decide +kernel, by decide +kernel⟩
set_option maxHeartbeats 4000000 in
theorem ok_law_town {P : Program} {w : World} {K : PySem.W.Frag} {mg : Str → Option Value} {base : Heap} {f : Addr} {fd : FuncData} (Z : Ft mg) (C_law_draw : Cal P w K mg base 1 "_law_draw" 2 [0] r_law_draw) (F : Fun K "_law_town" "_law_town" (topS 23) f fd) : FnG P w K mg base 2 f fd ["deck", "most", "more"] (spW K mg 3 [0] r_law_town) :=
  fnG_of (k := 1) F sc_law_town (by decide) (by decide) fun cdv A outer s H vs E B hp => by
    have hN := sc_law_town.nd
    exact (vs_cons (vs_set 3 hN (ve_frz (ve_add (vo_val ve_int) (vo_val (ve_call B C_law_draw (va_c (vo_bor 0) (va_c (vo_val (ve_var 1)) va_nil))))))) (vs_cons (by first | exact vs_set 4 hN (ve_lc [("v", 8)] B.calm hN (vi_range2 rfl Z.range (va_c (vo_val ve_int) (va_c (vo_val (ve_var 3)) va_nil))) (show BlkOk ["deck", "most", "more", "houses", "roads", "turn", "a", "b", "v"] (defScope (topS 23)) _ [("v", 8)] from ⟨rfl, by decide +kernel, by decide +kernel, by decide +kernel, by decide +kernel⟩) (fun _ _ _ _ _ => (vg_name 8 hN)) (fun _ _ _ _ _ => vts_nil) (fun _ _ _ _ _ => (ve_tup (va_c (vo_val (ve_frz (ve_call (Bd.blk B) C_law_draw (va_c (vo_bor 0) (va_c (vo_val (ve_var 8)) va_nil))))) (va_c (vo_val (ve_var 8)) va_nil))))) | exact vs_setLc 4 [("v", 8)] B.calm hN (vi_range2 rfl Z.range (va_c (vo_val ve_int) (va_c (vo_val (ve_var 3)) va_nil))) (show BlkOk ["deck", "most", "more", "houses", "roads", "turn", "a", "b", "v"] (defScope (topS 23)) _ [("v", 8)] from ⟨rfl, by decide +kernel, by decide +kernel, by decide +kernel, by decide +kernel⟩) (fun _ _ _ _ _ => (vg_name 8 hN)) (fun _ _ _ _ _ => vts_nil) (fun _ _ _ _ _ => (ve_tup (va_c (vo_val (ve_frz (ve_call (Bd.blk B) C_law_draw (va_c (vo_bor 0) (va_c (vo_val (ve_var 8)) va_nil))))) (va_c (vo_val (ve_var 8)) va_nil)))) (by rfl)) (vs_cons (vs_for hp B.calm (vi_range1 rfl Z.range (va_c (vo_val (ve_frz (ve_if (vt_gt (vo_bor 3) (vo_val ve_int)) (ve_call B C_law_draw (va_c (vo_bor 0) (va_c (vo_val (ve_frz (ve_add (vo_bor 2) (vo_val ve_int)))) va_nil))) ve_int))) va_nil)) (vg_name 5 hN) (vs_cons (vs_set 6 hN (ve_frz (ve_call B C_law_draw (va_c (vo_bor 0) (va_c (vo_val (ve_var 3)) va_nil))))) (vs_cons (vs_set 7 hN (ve_mod (vo_val (ve_int1 rfl Z.int (va_c (vo_val (ve_add (vo_val (ve_add (vo_bor 6) (vo_val ve_int))) (vo_val (ve_call B C_law_draw (va_c (vo_bor 0) (va_c (vo_val (ve_frz (ve_sub (vo_bor 3) (vo_val ve_int)))) va_nil)))))) va_nil))) (vo_bor 3))) (vs_one (vs_expr (ve_meth 4 app_ok PySem.F.slot_list_append PySem.F.type_list_append mt_append (va_c (vo_val (ve_tup (va_c (vo_val (ve_frz (ve_min2 B.calm rfl Z.min (va_c (vo_bor 6) (va_c (vo_bor 7) va_nil))))) (va_c (vo_val (ve_frz (ve_max2 B.calm rfl Z.max (va_c (vo_bor 6) (va_c (vo_bor 7) va_nil))))) va_nil)))) va_nil))))))) (vs_one (vs_ret (ve_tup (va_c (vo_val (ve_var 3)) (va_c (vo_val (ve_frz (ve_tuple rfl Z.tuple (va_c (vo_val (ve_sort B.room rfl Z.sorted (va_c (vo_bor 4) va_nil))) va_nil)))) va_nil))))))))
/-! law_ends -/
noncomputable def g_law_ends : VL.Env → RS := (seqS (asgS 2 (prim (P2 mulF2) [(.val (prim lstF [(.val (kc (.int 0)))])), (.val (prim (P2 ixF2) [(.bor 0), (.val (kc (.int 0)))]))])) (seqS (forS (rngI z2 [.val (frzE (prim (P2 ixF2) [(.bor 0), (.val (kc (.int 1)))])), .val (frzE (var 1))]) (tgT 2 (tgsC (tgT 2 (tgsC (tgN 4) (tgsC (tgN 5) tgsN))) (tgsC (tgN 3) tgsN))) (parP [.val (frzE (prim (P2 subF2) [(.val (prim (P2 ixF2) [(.bor 2), (.bor 4)])), (.bor 3)])), .val (frzE (prim (P2 addF2) [(.val (prim (P2 ixF2) [(.bor 2), (.bor 5)])), (.bor 3)]))] [(2, (var 4)), (2, (var 5))])) (retS (prim (P1 tupleF) [(.bor 2)]))))
noncomputable def r_law_ends : List VL.W → VL.RD := runD 6 [] g_law_ends
theorem sc_law_ends : FnScope ["town", "flow", "found", "coins", "a", "b"] ["town", "flow"] (defScope (topS 24)) := ⟨rfl, rfl, rfl, by decide +kernel, rfl, by decide +kernel, by decide +kernel⟩
set_option maxHeartbeats 4000000 in
theorem ok_law_ends {P : Program} {w : World} {K : PySem.W.Frag} {mg : Str → Option Value} {base : Heap} {f : Addr} {fd : FuncData} (Z : Ft mg)  (F : Fun K "_law_ends" "_law_ends" (topS 24) f fd) : FnG P w K mg base 1 f fd ["town", "flow"] (spW K mg 2 [] r_law_ends) :=
  fnG_of (k := 0) F sc_law_ends (by decide) (by decide) fun cdv A outer s H vs E B hp => by
    have hN := sc_law_ends.nd
    exact (vs_cons (vs_set 2 hN (ve_mul (vo_val (ve_lst (va_c (vo_val ve_int) va_nil))) (vo_val (ve_ix B.room (vo_bor 0) (vo_val ve_int))))) (vs_cons (vs_for hp B.calm (vi_zip2 (ve_ix B.room (vo_bor 0) (vo_val ve_int)) (ve_var 1) (hm := Z.zip)) (vg_tup B.calm (vg_cons (vg_tup B.calm (vg_cons (vg_name 4 hN) (vg_cons (vg_name 5 hN) vg_nil))) (vg_cons (vg_name 3 hN) vg_nil))) (vs_one (vs_parP B.calm (va_c (vo_val (ve_frz (ve_sub (vo_val (ve_ix B.room (vo_bor 2) (vo_bor 4))) (vo_bor 3)))) (va_c (vo_val (ve_frz (ve_add (vo_val (ve_ix B.room (vo_bor 2) (vo_bor 5))) (vo_bor 3)))) va_nil)) (pgs_consP (pg_put 2 (room1 B.room) (ve_var 4)) (pgs_consP (pg_put 2 (room1 B.room) (ve_var 5)) pgs_nilP))))) (vs_one (vs_ret (ve_tuple rfl Z.tuple (va_c (vo_bor 2) va_nil))))))
/-! law_cut -/
noncomputable def g_law_cut : VL.Env → RS := (retS (prim (P1 tupleF) [(.val (lcE [2, 3] (seqI (prim (P2 ixF2) [(.bor 0), (.val (kc (.int 1)))])) (tgT 2 (tgsC (tgN 2) (tgsC (tgN 3) tgsN))) yesT (prim (P2 subF2) [(.val (prim (P2 ixF2) [(.bor 1), (.bor 2)])), (.val (prim (P2 ixF2) [(.bor 1), (.bor 3)]))])))]))
noncomputable def r_law_cut : List VL.W → VL.RD := runD 4 [] g_law_cut
theorem sc_law_cut : FnScope ["town", "script", "a", "b"] ["town", "script"] (defScope (topS 25)) := ⟨rfl, rfl, rfl, by decide +kernel, rfl, by decide +kernel, by decide +kernel⟩
set_option maxHeartbeats 4000000 in
theorem ok_law_cut {P : Program} {w : World} {K : PySem.W.Frag} {mg : Str → Option Value} {base : Heap} {f : Addr} {fd : FuncData} (Z : Ft mg)  (F : Fun K "_law_cut" "_law_cut" (topS 25) f fd) : FnG P w K mg base 1 f fd ["town", "script"] (spW K mg 2 [] r_law_cut) :=
  fnG_of (k := 0) F sc_law_cut (by decide) (by decide) fun cdv A outer s H vs E B hp => by
    have hN := sc_law_cut.nd
    exact (vs_one (vs_ret (ve_tuple rfl Z.tuple (va_c (vo_val (ve_lc [("a", 2), ("b", 3)] B.calm hN (vi_seq (ve_ix B.room (vo_bor 0) (vo_val ve_int))) (show BlkOk ["town", "script", "a", "b"] (defScope (topS 25)) _ [("a", 2), ("b", 3)] from ⟨rfl, by decide +kernel, by decide +kernel, by decide +kernel, by decide +kernel⟩) (fun _ _ _ _ _ => (vg_tup (Bd.blk B).calm (vg_cons (vg_name 2 hN) (vg_cons (vg_name 3 hN) vg_nil)))) (fun _ _ _ _ _ => vts_nil) (fun _ _ _ _ _ => (ve_sub (vo_val (ve_ix (Bd.blk B).room (vo_bor 1) (vo_bor 2))) (vo_val (ve_ix (Bd.blk B).room (vo_bor 1) (vo_bor 3))))))) va_nil))))
/-! law_flow -/
noncomputable def g_law_flow : VL.Env → RS := (seqS (asgS 2 (frzE (callE (r_law_pick) [(.bor 0), (.val (frzE (prim lstF [(.val (kc (.int 1))), (.val (kc (.int 3))), (.val (kc (.int 9))), (.val (kc (.int 1000)))])))]))) (retS (prim (P1 tupleF) [(.val (lcE [3] (rngI rng1 [(.val (var 1))]) (tgN 3) yesT (prim (P2 subF2) [(.val (callE (r_law_draw) [(.bor 0), (.val (frzE (prim (P2 addF2) [(.val (prim (P2 mulF2) [(.val (kc (.int 2))), (.bor 2)])), (.val (kc (.int 1)))])))])), (.bor 2)])))])))
noncomputable def r_law_flow : List VL.W → VL.RD := runD 4 [0] g_law_flow
theorem sc_law_flow : FnScope ["deck", "size", "top", "k"] ["deck", "size"] (defScope (topS 26)) := ⟨rfl, rfl, rfl, by decide +kernel, rfl, by decide +kernel, by decide +kernel⟩
set_option maxHeartbeats 4000000 in
theorem ok_law_flow {P : Program} {w : World} {K : PySem.W.Frag} {mg : Str → Option Value} {base : Heap} {f : Addr} {fd : FuncData} (Z : Ft mg) (C_law_pick : Cal P w K mg base 2 "_law_pick" 2 [0] r_law_pick) (C_law_draw : Cal P w K mg base 1 "_law_draw" 2 [0] r_law_draw) (F : Fun K "_law_flow" "_law_flow" (topS 26) f fd) : FnG P w K mg base 3 f fd ["deck", "size"] (spW K mg 2 [0] r_law_flow) :=
  fnG_of (k := 2) F sc_law_flow (by decide) (by decide) fun cdv A outer s H vs E B hp => by
    have hN := sc_law_flow.nd
    exact (vs_cons (vs_set 2 hN (ve_frz (ve_call B C_law_pick (va_c (vo_bor 0) (va_c (vo_val (ve_frz (ve_lst (va_c (vo_val ve_int) (va_c (vo_val ve_int) (va_c (vo_val ve_int) (va_c (vo_val ve_int) va_nil))))))) va_nil))))) (vs_one (vs_ret (ve_tuple rfl Z.tuple (va_c (vo_val (ve_lc [("k", 3)] B.calm hN (vi_range1 rfl Z.range (va_c (vo_val (ve_var 1)) va_nil)) (show BlkOk ["deck", "size", "top", "k"] (defScope (topS 26)) _ [("k", 3)] from ⟨rfl, by decide +kernel, by decide +kernel, by decide +kernel, by decide +kernel⟩) (fun _ _ _ _ _ => (vg_name 3 hN)) (fun _ _ _ _ _ => vts_nil) (fun _ _ _ _ _ => (ve_sub (vo_val (ve_call (Bd.blk B) C_law_draw (va_c (vo_bor 0) (va_c (vo_val (ve_frz (ve_add (vo_val (ve_mul (vo_val ve_int) (vo_bor 2))) (vo_val ve_int)))) va_nil)))) (vo_bor 2))))) va_nil)))))
/-! law_flow_due -/
noncomputable def g_law_flow_due : VL.Env → RS := (seqS (ifS (orT (notT (tst (prim (P1 (isiF "tuple")) [(.bor 1)]))) (tst (prim (PB neF2) [(.val (prim (P1 lenF) [(.bor 1)])), (.val (prim (P1 lenF) [(.val (prim (P2 ixF2) [(.bor 0), (.val (kc (.int 1)))]))]))]))) (retS (kc (.str "form"))) skipS) (seqS (forS (rngI en1 [.val (frzE (var 1))]) (tgT 2 (tgsC (tgN 2) (tgsC (tgN 3) tgsN))) (ifS (orT (notT (tst (prim (P1 (isiF "int")) [(.bor 3)]))) (orT (tst (prim (P1 (isiF "bool")) [(.bor 3)])) (tst (prim (PB gtF2) [(.val (prim (P1 absF) [(.bor 3)])), (.val (kc (.int 1000)))])))) (retS (prim tupF [(.val (kc (.str "road"))), (.val (var 2))])) skipS)) (retS (kc .none))))
noncomputable def r_law_flow_due : List VL.W → VL.RD := runD 4 [] g_law_flow_due
theorem sc_law_flow_due : FnScope ["town", "value", "k", "item"] ["town", "value"] (defScope (topS 27)) := ⟨rfl, rfl, rfl, by decide +kernel, rfl, by decide +kernel, by decide +kernel⟩
set_option maxHeartbeats 4000000 in
theorem ok_law_flow_due {P : Program} {w : World} {K : PySem.W.Frag} {mg : Str → Option Value} {base : Heap} {f : Addr} {fd : FuncData} (Z : Ft mg)  (F : Fun K "_law_flow_due" "_law_flow_due" (topS 27) f fd) : FnG P w K mg base 1 f fd ["town", "value"] (spW K mg 2 [] r_law_flow_due) :=
  fnG_of (k := 0) F sc_law_flow_due (by decide) (by decide) fun cdv A outer s H vs E B hp => by
    have hN := sc_law_flow_due.nd
    exact (vs_cons (vs_if (vt_w (vw_or (vt_not (vt_val (ve_isi kt_tuple (vo_bor 1) (by decide +kernel) (hm := Z.isinstance) (hmt := Z.tuple)))) (vw_or1 (vt_ne B.room (vo_val (ve_len rfl Z.len (va_c (vo_bor 1) va_nil))) (vo_val (ve_len rfl Z.len (va_c (vo_val (ve_ix B.room (vo_bor 0) (vo_val ve_int))) va_nil))))))) (vs_one (vs_ret ve_str)) vs_nil) (vs_cons (vs_for hp B.calm (vi_enum (ve_var 1) (hm := Z.enumerate)) (vg_tup B.calm (vg_cons (vg_name 2 hN) (vg_cons (vg_name 3 hN) vg_nil))) (vs_one (vs_if (vt_w (vw_or (vt_not (vt_val (ve_isi kt_int (vo_bor 3) (by decide +kernel) (hm := Z.isinstance) (hmt := Z.int)))) (vw_or (vt_val (ve_isi kt_bool (vo_bor 3) (by decide +kernel) (hm := Z.isinstance) (hmt := Z.bool))) (vw_or1 (vt_gt (vo_val (ve_abs rfl Z.abs (va_c (vo_bor 3) va_nil))) (vo_val ve_int)))))) (vs_one (vs_ret (ve_tup (va_c (vo_val ve_str) (va_c (vo_val (ve_var 2)) va_nil))))) vs_nil))) (vs_one (vs_ret ve_non))))
/-! law_for_due -/
noncomputable def g_law_for_due : VL.Env → RS := (seqS (ifS (orT (notT (tst (prim (P1 (isiF "tuple")) [(.bor 2)]))) (tst (prim (PB neF2) [(.val (prim (P1 lenF) [(.bor 2)])), (.val (prim (P1 lenF) [(.val (prim (P2 ixF2) [(.bor 0), (.val (kc (.int 1)))]))]))]))) (retS (kc (.str "form"))) skipS) (seqS (ifS (notT (tst (walkE allG (lcE [3] (seqI (var 2)) (tgN 3) yesT (andE (prim (P1 (isiF "int")) [(.bor 3)]) (notE (prim (P1 (isiF "bool")) [(.bor 3)]))))))) (retS (kc (.str "form"))) skipS) (retS (ifE (tst (prim (PB eqF2) [(.val (callE (r_law_ends) [(.val (var 0)), (.val (var 2))])), (.bor 1)])) (kc .none) (kc (.str "ends"))))))
noncomputable def r_law_for_due : List VL.W → VL.RD := runD 4 [] g_law_for_due
theorem sc_law_for_due : FnScope ["town", "purse", "value", "item"] ["town", "purse", "value"] (defScope (topS 28)) := ⟨rfl, rfl, rfl, by decide +kernel, rfl, by decide +kernel, by decide +kernel⟩
set_option maxHeartbeats 4000000 in
theorem ok_law_for_due {P : Program} {w : World} {K : PySem.W.Frag} {mg : Str → Option Value} {base : Heap} {f : Addr} {fd : FuncData} (Z : Ft mg) (C_law_ends : Cal P w K mg base 1 "_law_ends" 2 [] r_law_ends) (F : Fun K "_law_for_due" "_law_for_due" (topS 28) f fd) : FnG P w K mg base 2 f fd ["town", "purse", "value"] (spW K mg 3 [] r_law_for_due) :=
  fnG_of (k := 1) F sc_law_for_due (by decide) (by decide) fun cdv A outer s H vs E B hp => by
    have hN := sc_law_for_due.nd
    exact (vs_cons (vs_if (vt_w (vw_or (vt_not (vt_val (ve_isi kt_tuple (vo_bor 2) (by decide +kernel) (hm := Z.isinstance) (hmt := Z.tuple)))) (vw_or1 (vt_ne B.room (vo_val (ve_len rfl Z.len (va_c (vo_bor 2) va_nil))) (vo_val (ve_len rfl Z.len (va_c (vo_val (ve_ix B.room (vo_bor 0) (vo_val ve_int))) va_nil))))))) (vs_one (vs_ret ve_str)) vs_nil) (vs_cons (vs_if (vt_not (vt_val (ve_all B.calm (ve_lc [("item", 3)] B.calm hN (vi_seq (ve_var 2)) (show BlkOk ["town", "purse", "value", "item"] (defScope (topS 28)) _ [("item", 3)] from ⟨rfl, by decide +kernel, by decide +kernel, by decide +kernel, by decide +kernel⟩) (fun _ _ _ _ _ => (vg_name 3 hN)) (fun _ _ _ _ _ => vts_nil) (fun _ _ _ _ _ => (ve_and (ve_isi kt_int (vo_bor 3) (by decide +kernel) (hm := Z.isinstance) (hmt := Z.int)) (ve_one (ve_not (ve_isi kt_bool (vo_bor 3) (by decide +kernel) (hm := Z.isinstance) (hmt := Z.bool))))))) (hm := Z.all)))) (vs_one (vs_ret ve_str)) vs_nil) (vs_one (vs_ret (ve_if (vt_eq B.room (vo_val (ve_call B C_law_ends (va_c (vo_val (ve_var 0)) (va_c (vo_val (ve_var 2)) va_nil)))) (vo_bor 1)) ve_non ve_str)))))
/-! law_bent -/
noncomputable def g_law_bent : VL.Env → RS := (seqS (par2S 3 4 [.val (frzE (ifE (tst (prim (PB neF2) [(.bor 1), (.val (prim tupF []))])) (callE (r_law_draw) [(.bor 0), (.val (frzE (prim (P1 lenF) [(.bor 1)])))]) (kc (.int 0)))), .val (frzE (callE (r_law_draw) [(.bor 0), (.val (kc (.int 6)))]))]) (seqS (ifS (tst (prim (PB eqF2) [(.bor 4), (.val (kc (.int 0)))])) (retS (prim (P2 addF2) [(.val (prim sl01 [(.bor 1), .val (var 3)])), (.val (prim sl10 [(.bor 1), .val (prim (P2 addF2) [(.bor 3), (.val (kc (.int 1)))])]))])) skipS) (seqS (ifS (tst (prim (PB eqF2) [(.bor 4), (.val (kc (.int 1)))])) (retS (prim (P2 addF2) [(.bor 1), (.val (prim tupF [(.val (kc (.int 0)))]))])) skipS) (seqS (ifS (tst (prim (PB eqF2) [(.bor 4), (.val (kc (.int 2)))])) (retS (prim (P1 listF) [(.bor 1)])) skipS) (seqS (asgS 2 (prim lstF [(.val (kc (.bool true))), (.val (kc .none)), (.val (kc (.str "1"))), (.val (kc (.int 1001))), (.val (prim (P1 negF) [(.val (kc (.int 1001)))])), (.val (kc (.int 1000))), (.val (prim (P1 negF) [(.val (kc (.int 1000)))])), (.val (prim tupF [(.val (kc (.int 1)))])), (.val (frzE (prim (P2 powF2) [(.val (kc (.int 10))), (.val (kc (.int 50)))]))), (.val (frzE (callE (r_law_any 6) [(.bor 0), (.val (kc (.int 2)))])))])) (seqS (dropS (mutE appM 2 [(.val (frzE (ifE (tst (prim (PB neF2) [(.bor 1), (.val (prim tupF []))])) (prim (P2 addF2) [(.val (prim (P2 ixF2) [(.bor 1), (.bor 3)])), (.val (kc (.int 1)))]) (kc (.int 0)))))])) (retS (prim (P2 addF2) [(.val (prim (P2 addF2) [(.val (prim sl01 [(.bor 1), .val (var 3)])), (.val (prim tupF [(.val (frzE (callE (r_law_pick) [(.bor 0), (.val (var 2))])))]))])), (.val (prim sl10 [(.bor 1), .val (prim (P2 addF2) [(.bor 3), (.val (kc (.int 1)))])]))]))))))))
noncomputable def r_law_bent : List VL.W → VL.RD := runD 5 [0] g_law_bent
theorem sc_law_bent : FnScope ["deck", "flow", "odd", "at", "way"] ["deck", "flow"] (defScope (topS 29)) := ⟨rfl, rfl, rfl, by decide +kernel, rfl, by decide +kernel, by decide +kernel⟩
set_option maxHeartbeats 4000000 in
theorem ok_law_bent {P : Program} {w : World} {K : PySem.W.Frag} {mg : Str → Option Value} {base : Heap} {f : Addr} {fd : FuncData} (Z : Ft mg) (C_law_draw : Cal P w K mg base 1 "_law_draw" 2 [0] r_law_draw) (C_law_any : Cal P w K mg base 8 "_law_any" 2 [0] (r_law_any 6)) (C_law_pick : Cal P w K mg base 2 "_law_pick" 2 [0] r_law_pick) (F : Fun K "_law_bent" "_law_bent" (topS 29) f fd) : FnG P w K mg base 9 f fd ["deck", "flow"] (spW K mg 2 [0] r_law_bent) :=
  fnG_of (k := 8) F sc_law_bent (by decide) (by decide) fun cdv A outer s H vs E B hp => by
    have hN := sc_law_bent.nd
    exact (vs_cons (vs_par2 3 4 B.calm hN (va_c (vo_val (ve_frz (ve_if (vt_ne B.room (vo_bor 1) (vo_val (ve_tup va_nil))) (ve_call B C_law_draw (va_c (vo_bor 0) (va_c (vo_val (ve_frz (ve_len rfl Z.len (va_c (vo_bor 1) va_nil)))) va_nil))) ve_int))) (va_c (vo_val (ve_frz (ve_call B C_law_draw (va_c (vo_bor 0) (va_c (vo_val ve_int) va_nil))))) va_nil))) (vs_cons (vs_if (vt_eq B.room (vo_bor 4) (vo_val ve_int)) (vs_one (vs_ret (ve_add (vo_val (ve_sl01 (vo_bor 1) (vo_val (ve_var 3)))) (vo_val (ve_sl10 (vo_bor 1) (vo_val (ve_add (vo_bor 3) (vo_val ve_int)))))))) vs_nil) (vs_cons (vs_if (vt_eq B.room (vo_bor 4) (vo_val ve_int)) (vs_one (vs_ret (ve_add (vo_bor 1) (vo_val (ve_tup (va_c (vo_val ve_int) va_nil)))))) vs_nil) (vs_cons (vs_if (vt_eq B.room (vo_bor 4) (vo_val ve_int)) (vs_one (vs_ret (ve_list rfl Z.list (va_c (vo_bor 1) va_nil)))) vs_nil) (vs_cons (vs_set 2 hN (ve_lst (va_c (vo_val ve_bl) (va_c (vo_val ve_non) (va_c (vo_val ve_str) (va_c (vo_val ve_int) (va_c (vo_val (ve_neg (vo_val ve_int))) (va_c (vo_val ve_int) (va_c (vo_val (ve_neg (vo_val ve_int))) (va_c (vo_val (ve_tup (va_c (vo_val ve_int) va_nil))) (va_c (vo_val (ve_frz (ve_pow (vo_val ve_int) (vo_val ve_int)))) (va_c (vo_val (ve_frz (ve_call B C_law_any (va_c (vo_bor 0) (va_c (vo_val ve_int) va_nil))))) va_nil)))))))))))) (vs_cons (vs_expr (ve_meth 2 app_ok PySem.F.slot_list_append PySem.F.type_list_append mt_append (va_c (vo_val (ve_frz (ve_if (vt_ne B.room (vo_bor 1) (vo_val (ve_tup va_nil))) (ve_add (vo_val (ve_ix B.room (vo_bor 1) (vo_bor 3))) (vo_val ve_int)) ve_int))) va_nil))) (vs_one (vs_ret (ve_add (vo_val (ve_add (vo_val (ve_sl01 (vo_bor 1) (vo_val (ve_var 3)))) (vo_val (ve_tup (va_c (vo_val (ve_frz (ve_call B C_law_pick (va_c (vo_bor 0) (va_c (vo_val (ve_var 2)) va_nil))))) va_nil))))) (vo_val (ve_sl10 (vo_bor 1) (vo_val (ve_add (vo_bor 3) (vo_val ve_int))))))))))))))
/-! law_told -/
noncomputable def g_law_told : VL.Env → RS := (tryS (subT subL) (retS (ifE (tst (var 2)) (kwE (r_flow_for) [1, 0] [(.val (var 1)), (.val (var 0))]) (callE (r_flow_for) [(.val (var 0)), (.val (var 1))]))) [("Unfit", (retS (kc (.str "unfit"))))])
noncomputable def r_law_told : List VL.W → VL.RD := runD 3 [] g_law_told
theorem sc_law_told : FnScope ["town", "purse", "is_named"] ["town", "purse", "is_named"] (defScope (topS 30)) := ⟨rfl, rfl, rfl, by decide +kernel, rfl, by decide +kernel, by decide +kernel⟩
set_option maxHeartbeats 4000000 in
theorem ok_law_told {P : Program} {w : World} {K : PySem.W.Frag} {mg : Str → Option Value} {base : Heap} {f : Addr} {fd : FuncData} (Z : Ft mg) (C_flow_for : Cal P w K mg base 3 "flow_for" 2 [] r_flow_for) (K_flow_for_purse_town : CalK P w K mg base 3 "flow_for" 2 r_flow_for ["purse", "town"] [1, 0]) (E_Unfit : ExcF K mg "Unfit") (S : SubF K mg (subT subL)) (F : Fun K "_law_told" "_law_told" (topS 30) f fd) : FnG P w K mg base 4 f fd ["town", "purse", "is_named"] (spW K mg 3 [] r_law_told) :=
  fnG_of (k := 3) F sc_law_told (by decide) (by decide) fun cdv A outer s H vs E B hp => by
    have hN := sc_law_told.nd
    exact (vs_one (vs_try B S rfl rfl (fun _ _ _ B1 hp1 => (vs_one (vs_ret (ve_if (vt_val (ve_var 2)) (ve_callKw B1 K_flow_for_purse_town (vk_cons (vo_val (ve_var 1)) (vk_cons (vo_val (ve_var 0)) vk_nil))) (ve_call B1 C_flow_for (va_c (vo_val (ve_var 0)) (va_c (vo_val (ve_var 1)) va_nil))))))) (vcl_cons E_Unfit.is (fun _ _ => (vs_one (vs_ret ve_str))) .nil)))
/-! law_is_town_right -/
noncomputable def g_law_is_town_right : VL.Env → RS := (seqS (par2S 4 5 [.val (prim (P1 lenF) [(.val (prim (P2 ixF2) [(.bor 1), (.val (kc (.int 1)))]))]), .val (prim (P1 reprF) [(.bor 1)])]) (seqS (par2S 6 7 [.val (frzE (callE (r_law_flow) [(.bor 0), (.val (var 4))])), .val (frzE (prim (P1 tupleF) [(.val (lcE [15] (rngI rng1 [(.val (frzE (prim (P2 ixF2) [(.bor 1), (.val (kc (.int 0)))])))]) (tgN 15) yesT (prim (P2 subF2) [(.val (callE (r_law_draw) [(.bor 0), (.val (kc (.int 2001)))])), (.val (kc (.int 1000)))])))]))]) (seqS (asgS 2 (frzE (callE (r_law_ends) [(.val (var 1)), (.val (var 6))]))) (seqS (asgS 3 (frzE (prim lstF [(.val (frzE (callE (r_ends) [(.val (var 1)), (.val (var 6))]))), (.val (frzE (kwE (r_ends) [1, 0] [(.val (var 6)), (.val (var 1))]))), (.val (frzE (callE (r_cut_flow) [(.val (var 1)), (.val (var 7))]))), (.val (frzE (kwE (r_cut_flow) [1, 0] [(.val (var 7)), (.val (var 1))])))]))) (seqS (ifS (tst (prim (PB neS2) [(.val (prim (P1 reprF) [(.bor 3)])), (.val (prim (P1 reprF) [(.val (prim lstF [(.val (var 2)), (.val (var 2)), (.val (frzE (callE (r_law_cut) [(.val (var 1)), (.val (var 7))]))), (.val (frzE (callE (r_law_cut) [(.val (var 1)), (.val (var 7))])))]))]))])) (retS (kc (.bool false))) skipS) (seqS (ifS (tst (prim (PB leF2) [(.val (walkE maxG (lcE [16] (seqI (var 2)) (tgN 16) yesT (prim (P1 absF) [(.bor 16)])))), (.val (kc (.int 1000)))])) (forS (seqI (prim tupF [(.val (kc (.bool false))), (.val (kc (.bool true)))])) (tgN 8) (seqS (asgS 12 (frzE (callE (r_law_told) [(.val (var 1)), (.val (var 2)), (.val (var 8))]))) (ifS (orT (tst (prim (PB isntF2) [(.val (callE (r_law_for_due) [(.val (var 1)), (.val (var 2)), (.val (var 12))])), (.val (kc .none))])) (tst (prim (PB isntF2) [(.val (callE (r_flow_for_error) [(.val (var 1)), (.val (var 2)), (.val (var 12))])), (.val (kc .none))]))) (retS (kc (.bool false))) skipS))) skipS) (seqS (ifS (tst (prim (PB neF2) [(.val (callE (r_law_told) [(.val (var 1)), (.val (frzE (prim (P2 addF2) [(.val (prim tupF [(.val (kc (.int 1)))])), (.val (prim (P2 mulF2) [(.val (prim tupF [(.val (kc (.int 0)))])), (.val (prim (P2 subF2) [(.val (prim (P2 ixF2) [(.bor 1), (.val (kc (.int 0)))])), (.val (kc (.int 1)))]))]))]))), (.val (kc (.bool false)))])), (.val (kc (.str "unfit")))])) (retS (kc (.bool false))) skipS) (seqS (forS (rngI en1 [.val (frzE (prim lstF [(.val (var 6)), (.val (frzE (callE (r_law_bent) [(.bor 0), (.val (var 6))]))), (.val (frzE (callE (r_law_bent) [(.bor 0), (.val (var 6))]))), (.val (frzE (callE (r_law_any 6) [(.bor 0), (.val (kc (.int 4)))]))), (.val (prim tupF []))]))]) (tgT 2 (tgsC (tgN 9) (tgsC (tgN 10) tgsN))) (seqS (asgS 11 (frzE (prim (P1 tupleF) [(.val (lcE [16] (seqI (var 2)) (tgN 16) yesT (prim (P2 max2F) [(.val (prim (P1 negF) [(.val (kc (.int 1000)))])), (.val (prim (P2 min2F) [(.val (kc (.int 1000))), (.bor 16)]))])))]))) (seqS (par2S 13 14 [.val (frzE (prim lstF [(.val (frzE (callE (r_law_flow_due) [(.val (var 1)), (.val (var 10))]))), (.val (frzE (callE (r_law_for_due) [(.val (var 1)), (.val (var 11)), (.val (var 10))])))])), .val (prim (P1 reprF) [(.bor 10)])]) (seqS (asgS 3 (frzE (prim lstF [(.val (frzE (callE (r_flow_error) [(.val (var 1)), (.val (var 10))]))), (.val (frzE (callE (r_flow_for_error) [(.val (var 1)), (.val (var 11)), (.val (var 10))])))]))) (seqS (ifS (tst (prim (PB eqF2) [(.bor 9), (.val (kc (.int 1)))])) (asgS 3 (frzE (prim lstF [(.val (frzE (kwE (r_flow_error) [1, 0] [(.val (var 10)), (.val (var 1))]))), (.val (frzE (kwE (r_flow_for_error) [2, 1, 0] [(.val (var 10)), (.val (var 11)), (.val (var 1))])))]))) skipS) (ifS (orT (tst (prim (PB neS2) [(.val (prim (P1 reprF) [(.bor 3)])), (.val (prim (P1 reprF) [(.bor 13)]))])) (tst (prim (PB neS2) [(.val (prim (P1 reprF) [(.bor 10)])), (.bor 14)]))) (retS (kc (.bool false))) skipS)))))) (retS (prim (PB eqS2) [(.val (prim (P1 reprF) [(.bor 1)])), (.bor 5)]))))))))))
noncomputable def r_law_is_town_right : List VL.W → VL.RD := runD 17 [0] g_law_is_town_right
theorem sc_law_is_town_right : FnScope ["deck", "town", "purse", "told", "size", "kept", "flow", "script", "is_named", "k", "value", "wanted", "own", "dues", "shown", "v", "item"] ["deck", "town"] (defScope (topS 31)) := ⟨rfl, rfl, rfl, by decide +kernel, rfl, by decide +kernel, by decide +kernel⟩
set_option maxHeartbeats 4000000 in
theorem ok_law_is_town_right {P : Program} {w : World} {K : PySem.W.Frag} {mg : Str → Option Value} {base : Heap} {f : Addr} {fd : FuncData} (Z : Ft mg) (C_law_flow : Cal P w K mg base 3 "_law_flow" 2 [0] r_law_flow) (C_law_draw : Cal P w K mg base 1 "_law_draw" 2 [0] r_law_draw) (C_law_ends : Cal P w K mg base 1 "_law_ends" 2 [] r_law_ends) (C_ends : Cal P w K mg base 1 "ends" 2 [] r_ends) (C_cut_flow : Cal P w K mg base 1 "cut_flow" 2 [] r_cut_flow) (C_law_cut : Cal P w K mg base 1 "_law_cut" 2 [] r_law_cut) (C_law_told : Cal P w K mg base 4 "_law_told" 3 [] r_law_told) (C_law_for_due : Cal P w K mg base 2 "_law_for_due" 3 [] r_law_for_due) (C_flow_for_error : Cal P w K mg base 2 "flow_for_error" 3 [] r_flow_for_error) (C_law_bent : Cal P w K mg base 9 "_law_bent" 2 [0] r_law_bent) (C_law_any : Cal P w K mg base 8 "_law_any" 2 [0] (r_law_any 6)) (C_law_flow_due : Cal P w K mg base 1 "_law_flow_due" 2 [] r_law_flow_due) (C_flow_error : Cal P w K mg base 3 "flow_error" 2 [] r_flow_error) (K_ends_flow_town : CalK P w K mg base 1 "ends" 2 r_ends ["flow", "town"] [1, 0]) (K_cut_flow_script_town : CalK P w K mg base 1 "cut_flow" 2 r_cut_flow ["script", "town"] [1, 0]) (K_flow_error_value_town : CalK P w K mg base 3 "flow_error" 2 r_flow_error ["value", "town"] [1, 0]) (K_flow_for_error_value_purse_town : CalK P w K mg base 2 "flow_for_error" 3 r_flow_for_error ["value", "purse", "town"] [2, 1, 0]) (F : Fun K "_law_is_town_right" "_law_is_town_right" (topS 31) f fd) : FnG P w K mg base 10 f fd ["deck", "town"] (spW K mg 2 [0] r_law_is_town_right) :=
  fnG_of (k := 9) F sc_law_is_town_right (by decide) (by decide) fun cdv A outer s H vs E B hp => by
    have hN := sc_law_is_town_right.nd
    exact (vs_cons (vs_par2 4 5 B.calm hN (va_c (vo_val (ve_len rfl Z.len (va_c (vo_val (ve_ix B.room (vo_bor 1) (vo_val ve_int))) va_nil))) (va_c (vo_val (ve_repr B.room B.guards rfl Z.repr (va_c (vo_bor 1) va_nil))) va_nil))) (vs_cons (vs_par2 6 7 B.calm hN (va_c (vo_val (ve_frz (ve_call B C_law_flow (va_c (vo_bor 0) (va_c (vo_val (ve_var 4)) va_nil))))) (va_c (vo_val (ve_frz (ve_tuple rfl Z.tuple (va_c (vo_val (ve_lc [("v", 15)] B.calm hN (vi_range1 rfl Z.range (va_c (vo_val (ve_frz (ve_ix B.room (vo_bor 1) (vo_val ve_int)))) va_nil)) (show BlkOk ["deck", "town", "purse", "told", "size", "kept", "flow", "script", "is_named", "k", "value", "wanted", "own", "dues", "shown", "v", "item"] (defScope (topS 31)) _ [("v", 15)] from ⟨rfl, by decide +kernel, by decide +kernel, by decide +kernel, by decide +kernel⟩) (fun _ _ _ _ _ => (vg_name 15 hN)) (fun _ _ _ _ _ => vts_nil) (fun _ _ _ _ _ => (ve_sub (vo_val (ve_call (Bd.blk B) C_law_draw (va_c (vo_bor 0) (va_c (vo_val ve_int) va_nil)))) (vo_val ve_int))))) va_nil)))) va_nil))) (vs_cons (vs_set 2 hN (ve_frz (ve_call B C_law_ends (va_c (vo_val (ve_var 1)) (va_c (vo_val (ve_var 6)) va_nil))))) (vs_cons (vs_set 3 hN (ve_frz (ve_lst (va_c (vo_val (ve_frz (ve_call B C_ends (va_c (vo_val (ve_var 1)) (va_c (vo_val (ve_var 6)) va_nil))))) (va_c (vo_val (ve_frz (ve_callKw B K_ends_flow_town (vk_cons (vo_val (ve_var 6)) (vk_cons (vo_val (ve_var 1)) vk_nil))))) (va_c (vo_val (ve_frz (ve_call B C_cut_flow (va_c (vo_val (ve_var 1)) (va_c (vo_val (ve_var 7)) va_nil))))) (va_c (vo_val (ve_frz (ve_callKw B K_cut_flow_script_town (vk_cons (vo_val (ve_var 7)) (vk_cons (vo_val (ve_var 1)) vk_nil))))) va_nil))))))) (vs_cons (vs_if (vt_neS (vo_val (ve_repr B.room B.guards rfl Z.repr (va_c (vo_bor 3) va_nil))) (vo_val (ve_repr B.room B.guards rfl Z.repr (va_c (vo_val (ve_lst (va_c (vo_val (ve_var 2)) (va_c (vo_val (ve_var 2)) (va_c (vo_val (ve_frz (ve_call B C_law_cut (va_c (vo_val (ve_var 1)) (va_c (vo_val (ve_var 7)) va_nil))))) (va_c (vo_val (ve_frz (ve_call B C_law_cut (va_c (vo_val (ve_var 1)) (va_c (vo_val (ve_var 7)) va_nil))))) va_nil)))))) va_nil)))) (vs_one (vs_ret ve_bl)) vs_nil) (vs_cons (vs_if (vt_le (vo_val (ve_max1 B.calm (ve_lc [("item", 16)] B.calm hN (vi_seq (ve_var 2)) (show BlkOk ["deck", "town", "purse", "told", "size", "kept", "flow", "script", "is_named", "k", "value", "wanted", "own", "dues", "shown", "v", "item"] (defScope (topS 31)) _ [("item", 16)] from ⟨rfl, by decide +kernel, by decide +kernel, by decide +kernel, by decide +kernel⟩) (fun _ _ _ _ _ => (vg_name 16 hN)) (fun _ _ _ _ _ => vts_nil) (fun _ _ _ _ _ => (ve_abs rfl Z.abs (va_c (vo_bor 16) va_nil)))) (hm := Z.max))) (vo_val ve_int)) (vs_one (vs_for hp B.calm (vi_seq (ve_tup (va_c (vo_val ve_bl) (va_c (vo_val ve_bl) va_nil)))) (vg_name 8 hN) (vs_cons (vs_set 12 hN (ve_frz (ve_call B C_law_told (va_c (vo_val (ve_var 1)) (va_c (vo_val (ve_var 2)) (va_c (vo_val (ve_var 8)) va_nil)))))) (vs_one (vs_if (vt_w (vw_or (vt_isnt (vo_val (ve_call B C_law_for_due (va_c (vo_val (ve_var 1)) (va_c (vo_val (ve_var 2)) (va_c (vo_val (ve_var 12)) va_nil))))) (vo_val ve_non)) (vw_or1 (vt_isnt (vo_val (ve_call B C_flow_for_error (va_c (vo_val (ve_var 1)) (va_c (vo_val (ve_var 2)) (va_c (vo_val (ve_var 12)) va_nil))))) (vo_val ve_non))))) (vs_one (vs_ret ve_bl)) vs_nil))))) vs_nil) (vs_cons (vs_if (vt_ne B.room (vo_val (ve_call B C_law_told (va_c (vo_val (ve_var 1)) (va_c (vo_val (ve_frz (ve_add (vo_val (ve_tup (va_c (vo_val ve_int) va_nil))) (vo_val (ve_mul (vo_val (ve_tup (va_c (vo_val ve_int) va_nil))) (vo_val (ve_sub (vo_val (ve_ix B.room (vo_bor 1) (vo_val ve_int))) (vo_val ve_int)))))))) (va_c (vo_val ve_bl) va_nil))))) (vo_val ve_str)) (vs_one (vs_ret ve_bl)) vs_nil) (vs_cons (vs_for hp B.calm (vi_enum (ve_lst (va_c (vo_val (ve_var 6)) (va_c (vo_val (ve_frz (ve_call B C_law_bent (va_c (vo_bor 0) (va_c (vo_val (ve_var 6)) va_nil))))) (va_c (vo_val (ve_frz (ve_call B C_law_bent (va_c (vo_bor 0) (va_c (vo_val (ve_var 6)) va_nil))))) (va_c (vo_val (ve_frz (ve_call B C_law_any (va_c (vo_bor 0) (va_c (vo_val ve_int) va_nil))))) (va_c (vo_val (ve_tup va_nil)) va_nil)))))) (hm := Z.enumerate)) (vg_tup B.calm (vg_cons (vg_name 9 hN) (vg_cons (vg_name 10 hN) vg_nil))) (vs_cons (vs_set 11 hN (ve_frz (ve_tuple rfl Z.tuple (va_c (vo_val (ve_lc [("item", 16)] B.calm hN (vi_seq (ve_var 2)) (show BlkOk ["deck", "town", "purse", "told", "size", "kept", "flow", "script", "is_named", "k", "value", "wanted", "own", "dues", "shown", "v", "item"] (defScope (topS 31)) _ [("item", 16)] from ⟨rfl, by decide +kernel, by decide +kernel, by decide +kernel, by decide +kernel⟩) (fun _ _ _ _ _ => (vg_name 16 hN)) (fun _ _ _ _ _ => vts_nil) (fun _ _ _ _ _ => (ve_max2 (Bd.blk B).calm rfl Z.max (va_c (vo_val (ve_neg (vo_val ve_int))) (va_c (vo_val (ve_min2 (Bd.blk B).calm rfl Z.min (va_c (vo_val ve_int) (va_c (vo_bor 16) va_nil)))) va_nil)))))) va_nil)))) (vs_cons (vs_par2 13 14 B.calm hN (va_c (vo_val (ve_frz (ve_lst (va_c (vo_val (ve_frz (ve_call B C_law_flow_due (va_c (vo_val (ve_var 1)) (va_c (vo_val (ve_var 10)) va_nil))))) (va_c (vo_val (ve_frz (ve_call B C_law_for_due (va_c (vo_val (ve_var 1)) (va_c (vo_val (ve_var 11)) (va_c (vo_val (ve_var 10)) va_nil)))))) va_nil))))) (va_c (vo_val (ve_repr B.room B.guards rfl Z.repr (va_c (vo_bor 10) va_nil))) va_nil))) (vs_cons (vs_set 3 hN (ve_frz (ve_lst (va_c (vo_val (ve_frz (ve_call B C_flow_error (va_c (vo_val (ve_var 1)) (va_c (vo_val (ve_var 10)) va_nil))))) (va_c (vo_val (ve_frz (ve_call B C_flow_for_error (va_c (vo_val (ve_var 1)) (va_c (vo_val (ve_var 11)) (va_c (vo_val (ve_var 10)) va_nil)))))) va_nil))))) (vs_cons (vs_if (vt_eq B.room (vo_bor 9) (vo_val ve_int)) (vs_one (vs_set 3 hN (ve_frz (ve_lst (va_c (vo_val (ve_frz (ve_callKw B K_flow_error_value_town (vk_cons (vo_val (ve_var 10)) (vk_cons (vo_val (ve_var 1)) vk_nil))))) (va_c (vo_val (ve_frz (ve_callKw B K_flow_for_error_value_purse_town (vk_cons (vo_val (ve_var 10)) (vk_cons (vo_val (ve_var 11)) (vk_cons (vo_val (ve_var 1)) vk_nil)))))) va_nil)))))) vs_nil) (vs_one (vs_if (vt_w (vw_or (vt_neS (vo_val (ve_repr B.room B.guards rfl Z.repr (va_c (vo_bor 3) va_nil))) (vo_val (ve_repr B.room B.guards rfl Z.repr (va_c (vo_bor 13) va_nil)))) (vw_or1 (vt_neS (vo_val (ve_repr B.room B.guards rfl Z.repr (va_c (vo_bor 10) va_nil))) (vo_bor 14))))) (vs_one (vs_ret ve_bl)) vs_nil))))))) (vs_one (vs_ret (ve_eqS (vo_val (ve_repr B.room B.guards rfl Z.repr (va_c (vo_bor 1) va_nil))) (vo_bor 5))))))))))))
/-! law -/
noncomputable def g_law : VL.Env → RS := (seqS (asgS 1 (callE (r_law_deck) [(.val (mov 0))])) (seqS (forS (rngI rng1 [(.val (kc (.int 3)))]) (tgN 2) (ifS (notT (tst (callE (r_law_is_town_right) [(.bor 1), (.val (frzE (callE (r_law_town) [(.bor 1), (.val (frzE (callE (r_law_pick) [(.bor 1), (.val (frzE (prim lstF [(.val (kc (.int 8))), (.val (kc (.int 4))), (.val (kc (.int 2)))])))]))), (.val (kc (.int 6)))])))]))) (retS (kc (.bool false))) skipS)) (retS (kc (.bool true)))))
noncomputable def r_law : List VL.W → VL.RD := runD 3 [] g_law
theorem sc_law : FnScope ["script", "deck", "turn"] ["script"] (defScope (topS 32)) := ⟨rfl, rfl, rfl, by decide +kernel, rfl, by decide +kernel, by decide +kernel⟩
set_option maxHeartbeats 4000000 in
theorem ok_law {P : Program} {w : World} {K : PySem.W.Frag} {mg : Str → Option Value} {base : Heap} {f : Addr} {fd : FuncData} (Z : Ft mg) (C_law_deck : Cal P w K mg base 1 "_law_deck" 1 [] r_law_deck) (C_law_pick : Cal P w K mg base 2 "_law_pick" 2 [0] r_law_pick) (C_law_town : Cal P w K mg base 2 "_law_town" 3 [0] r_law_town) (C_law_is_town_right : Cal P w K mg base 10 "_law_is_town_right" 2 [0] r_law_is_town_right) (F : Fun K "law" "law" (topS 32) f fd) : FnG P w K mg base 11 f fd ["script"] (spW K mg 1 [] r_law) :=
  fnG_of (k := 10) F sc_law (by decide) (by decide) fun cdv A outer s H vs E B hp => by
    have hN := sc_law.nd
    exact (vs_cons (vs_set 1 hN (ve_call B C_law_deck (va_c (vo_val (ve_mov 0)) va_nil))) (vs_cons (vs_for hp B.calm (vi_range1 rfl Z.range (va_c (vo_val ve_int) va_nil)) (vg_name 2 hN) (vs_one (vs_if (vt_not (vt_val (ve_call B C_law_is_town_right (va_c (vo_bor 1) (va_c (vo_val (ve_frz (ve_call B C_law_town (va_c (vo_bor 1) (va_c (vo_val (ve_frz (ve_call B C_law_pick (va_c (vo_bor 1) (va_c (vo_val (ve_frz (ve_lst (va_c (vo_val ve_int) (va_c (vo_val ve_int) (va_c (vo_val ve_int) va_nil)))))) va_nil))))) (va_c (vo_val ve_int) va_nil)))))) va_nil))))) (vs_one (vs_ret ve_bl)) vs_nil))) (vs_one (vs_ret ve_bl))))
set_option maxHeartbeats 4000000 in
theorem all_mk {l : PySem.W.OpenLaw} {w : World} {K : PySem.W.Frag} {h : Heap} {mg : Str → Option Value} {fa : Addr} (X : K.In h) (G : h.Ns mainGlobals mg) (hfa : mg "law" = some (.ref fa)) {f_is_number : Addr} {od_is_number an_is_number : Option Addr} {sl_is_number : Array (Option Value)} {oc_is_number kV_is_number dc_is_number pm_is_number cd_is_number ct_is_number : Value}
    (a_is_number : PySem.W.nsIn K mainGlobals "is_number" = some (some (.ref f_is_number)))
    (l_is_number : K.lookup f_is_number = some ⟨oc_is_number, od_is_number, .func (PySem.W.fnOf "is_number" "is_number" (defArgs (topS 5)) (defBody (topS 5)) (defScope (topS 5)) .none kV_is_number dc_is_number pm_is_number an_is_number cd_is_number ct_is_number), sl_is_number⟩) (c_is_number : PySem.W.codeIn K cd_is_number "is_number" = true) (k_is_number : PySem.W.keepIn K (.ref f_is_number) = true)
    {f_is_within : Addr} {od_is_within an_is_within : Option Addr} {sl_is_within : Array (Option Value)} {oc_is_within kV_is_within dc_is_within pm_is_within cd_is_within ct_is_within : Value}
    (a_is_within : PySem.W.nsIn K mainGlobals "is_within" = some (some (.ref f_is_within)))
    (l_is_within : K.lookup f_is_within = some ⟨oc_is_within, od_is_within, .func (PySem.W.fnOf "is_within" "is_within" (defArgs (topS 6)) (defBody (topS 6)) (defScope (topS 6)) .none kV_is_within dc_is_within pm_is_within an_is_within cd_is_within ct_is_within), sl_is_within⟩) (c_is_within : PySem.W.codeIn K cd_is_within "is_within" = true) (k_is_within : PySem.W.keepIn K (.ref f_is_within) = true)
    {f_reached : Addr} {od_reached an_reached : Option Addr} {sl_reached : Array (Option Value)} {oc_reached kV_reached dc_reached pm_reached cd_reached ct_reached : Value}
    (a_reached : PySem.W.nsIn K mainGlobals "reached" = some (some (.ref f_reached)))
    (l_reached : K.lookup f_reached = some ⟨oc_reached, od_reached, .func (PySem.W.fnOf "reached" "reached" (defArgs (topS 7)) (defBody (topS 7)) (defScope (topS 7)) .none kV_reached dc_reached pm_reached an_reached cd_reached ct_reached), sl_reached⟩) (c_reached : PySem.W.codeIn K cd_reached "reached" = true) (k_reached : PySem.W.keepIn K (.ref f_reached) = true)
    {f_money : Addr} {od_money an_money : Option Addr} {sl_money : Array (Option Value)} {oc_money kV_money dc_money pm_money cd_money ct_money : Value}
    (a_money : PySem.W.nsIn K mainGlobals "money" = some (some (.ref f_money)))
    (l_money : K.lookup f_money = some ⟨oc_money, od_money, .func (PySem.W.fnOf "money" "money" (defArgs (topS 9)) (defBody (topS 9)) (defScope (topS 9)) .none kV_money dc_money pm_money an_money cd_money ct_money), sl_money⟩) (c_money : PySem.W.codeIn K cd_money "money" = true) (k_money : PySem.W.keepIn K (.ref f_money) = true)
    {f_is_row : Addr} {od_is_row an_is_row : Option Addr} {sl_is_row : Array (Option Value)} {oc_is_row kV_is_row dc_is_row pm_is_row cd_is_row ct_is_row : Value}
    (a_is_row : PySem.W.nsIn K mainGlobals "is_row" = some (some (.ref f_is_row)))
    (l_is_row : K.lookup f_is_row = some ⟨oc_is_row, od_is_row, .func (PySem.W.fnOf "is_row" "is_row" (defArgs (topS 11)) (defBody (topS 11)) (defScope (topS 11)) .none kV_is_row dc_is_row pm_is_row an_is_row cd_is_row ct_is_row), sl_is_row⟩) (c_is_row : PySem.W.codeIn K cd_is_row "is_row" = true) (k_is_row : PySem.W.keepIn K (.ref f_is_row) = true)
    {f_flow_error : Addr} {od_flow_error an_flow_error : Option Addr} {sl_flow_error : Array (Option Value)} {oc_flow_error kV_flow_error dc_flow_error pm_flow_error cd_flow_error ct_flow_error : Value}
    (a_flow_error : PySem.W.nsIn K mainGlobals "flow_error" = some (some (.ref f_flow_error)))
    (l_flow_error : K.lookup f_flow_error = some ⟨oc_flow_error, od_flow_error, .func (PySem.W.fnOf "flow_error" "flow_error" (defArgs (topS 12)) (defBody (topS 12)) (defScope (topS 12)) .none kV_flow_error dc_flow_error pm_flow_error an_flow_error cd_flow_error ct_flow_error), sl_flow_error⟩) (c_flow_error : PySem.W.codeIn K cd_flow_error "flow_error" = true) (k_flow_error : PySem.W.keepIn K (.ref f_flow_error) = true)
    {f_ends : Addr} {od_ends an_ends : Option Addr} {sl_ends : Array (Option Value)} {oc_ends kV_ends dc_ends pm_ends cd_ends ct_ends : Value}
    (a_ends : PySem.W.nsIn K mainGlobals "ends" = some (some (.ref f_ends)))
    (l_ends : K.lookup f_ends = some ⟨oc_ends, od_ends, .func (PySem.W.fnOf "ends" "ends" (defArgs (topS 13)) (defBody (topS 13)) (defScope (topS 13)) .none kV_ends dc_ends pm_ends an_ends cd_ends ct_ends), sl_ends⟩) (c_ends : PySem.W.codeIn K cd_ends "ends" = true) (k_ends : PySem.W.keepIn K (.ref f_ends) = true)
    {f_cut_flow : Addr} {od_cut_flow an_cut_flow : Option Addr} {sl_cut_flow : Array (Option Value)} {oc_cut_flow kV_cut_flow dc_cut_flow pm_cut_flow cd_cut_flow ct_cut_flow : Value}
    (a_cut_flow : PySem.W.nsIn K mainGlobals "cut_flow" = some (some (.ref f_cut_flow)))
    (l_cut_flow : K.lookup f_cut_flow = some ⟨oc_cut_flow, od_cut_flow, .func (PySem.W.fnOf "cut_flow" "cut_flow" (defArgs (topS 14)) (defBody (topS 14)) (defScope (topS 14)) .none kV_cut_flow dc_cut_flow pm_cut_flow an_cut_flow cd_cut_flow ct_cut_flow), sl_cut_flow⟩) (c_cut_flow : PySem.W.codeIn K cd_cut_flow "cut_flow" = true) (k_cut_flow : PySem.W.keepIn K (.ref f_cut_flow) = true)
    {f_tree_places : Addr} {od_tree_places an_tree_places : Option Addr} {sl_tree_places : Array (Option Value)} {oc_tree_places kV_tree_places dc_tree_places pm_tree_places cd_tree_places ct_tree_places : Value}
    (a_tree_places : PySem.W.nsIn K mainGlobals "tree_places" = some (some (.ref f_tree_places)))
    (l_tree_places : K.lookup f_tree_places = some ⟨oc_tree_places, od_tree_places, .func (PySem.W.fnOf "tree_places" "tree_places" (defArgs (topS 15)) (defBody (topS 15)) (defScope (topS 15)) .none kV_tree_places dc_tree_places pm_tree_places an_tree_places cd_tree_places ct_tree_places), sl_tree_places⟩) (c_tree_places : PySem.W.codeIn K cd_tree_places "tree_places" = true) (k_tree_places : PySem.W.keepIn K (.ref f_tree_places) = true)
    {f_flow_for : Addr} {od_flow_for an_flow_for : Option Addr} {sl_flow_for : Array (Option Value)} {oc_flow_for kV_flow_for dc_flow_for pm_flow_for cd_flow_for ct_flow_for : Value}
    (a_flow_for : PySem.W.nsIn K mainGlobals "flow_for" = some (some (.ref f_flow_for)))
    (l_flow_for : K.lookup f_flow_for = some ⟨oc_flow_for, od_flow_for, .func (PySem.W.fnOf "flow_for" "flow_for" (defArgs (topS 16)) (defBody (topS 16)) (defScope (topS 16)) .none kV_flow_for dc_flow_for pm_flow_for an_flow_for cd_flow_for ct_flow_for), sl_flow_for⟩) (c_flow_for : PySem.W.codeIn K cd_flow_for "flow_for" = true) (k_flow_for : PySem.W.keepIn K (.ref f_flow_for) = true)
    {f_flow_for_error : Addr} {od_flow_for_error an_flow_for_error : Option Addr} {sl_flow_for_error : Array (Option Value)} {oc_flow_for_error kV_flow_for_error dc_flow_for_error pm_flow_for_error cd_flow_for_error ct_flow_for_error : Value}
    (a_flow_for_error : PySem.W.nsIn K mainGlobals "flow_for_error" = some (some (.ref f_flow_for_error)))
    (l_flow_for_error : K.lookup f_flow_for_error = some ⟨oc_flow_for_error, od_flow_for_error, .func (PySem.W.fnOf "flow_for_error" "flow_for_error" (defArgs (topS 17)) (defBody (topS 17)) (defScope (topS 17)) .none kV_flow_for_error dc_flow_for_error pm_flow_for_error an_flow_for_error cd_flow_for_error ct_flow_for_error), sl_flow_for_error⟩) (c_flow_for_error : PySem.W.codeIn K cd_flow_for_error "flow_for_error" = true) (k_flow_for_error : PySem.W.keepIn K (.ref f_flow_for_error) = true)
    {f_law_deck : Addr} {od_law_deck an_law_deck : Option Addr} {sl_law_deck : Array (Option Value)} {oc_law_deck kV_law_deck dc_law_deck pm_law_deck cd_law_deck ct_law_deck : Value}
    (a__law_deck : PySem.W.nsIn K mainGlobals "_law_deck" = some (some (.ref f_law_deck)))
    (l_law_deck : K.lookup f_law_deck = some ⟨oc_law_deck, od_law_deck, .func (PySem.W.fnOf "_law_deck" "_law_deck" (defArgs (topS 19)) (defBody (topS 19)) (defScope (topS 19)) .none kV_law_deck dc_law_deck pm_law_deck an_law_deck cd_law_deck ct_law_deck), sl_law_deck⟩) (c_law_deck : PySem.W.codeIn K cd_law_deck "_law_deck" = true) (k_law_deck : PySem.W.keepIn K (.ref f_law_deck) = true)
    {f_law_draw : Addr} {od_law_draw an_law_draw : Option Addr} {sl_law_draw : Array (Option Value)} {oc_law_draw kV_law_draw dc_law_draw pm_law_draw cd_law_draw ct_law_draw : Value}
    (a__law_draw : PySem.W.nsIn K mainGlobals "_law_draw" = some (some (.ref f_law_draw)))
    (l_law_draw : K.lookup f_law_draw = some ⟨oc_law_draw, od_law_draw, .func (PySem.W.fnOf "_law_draw" "_law_draw" (defArgs (topS 20)) (defBody (topS 20)) (defScope (topS 20)) .none kV_law_draw dc_law_draw pm_law_draw an_law_draw cd_law_draw ct_law_draw), sl_law_draw⟩) (c_law_draw : PySem.W.codeIn K cd_law_draw "_law_draw" = true) (k_law_draw : PySem.W.keepIn K (.ref f_law_draw) = true)
    {f_law_pick : Addr} {od_law_pick an_law_pick : Option Addr} {sl_law_pick : Array (Option Value)} {oc_law_pick kV_law_pick dc_law_pick pm_law_pick cd_law_pick ct_law_pick : Value}
    (a__law_pick : PySem.W.nsIn K mainGlobals "_law_pick" = some (some (.ref f_law_pick)))
    (l_law_pick : K.lookup f_law_pick = some ⟨oc_law_pick, od_law_pick, .func (PySem.W.fnOf "_law_pick" "_law_pick" (defArgs (topS 21)) (defBody (topS 21)) (defScope (topS 21)) .none kV_law_pick dc_law_pick pm_law_pick an_law_pick cd_law_pick ct_law_pick), sl_law_pick⟩) (c_law_pick : PySem.W.codeIn K cd_law_pick "_law_pick" = true) (k_law_pick : PySem.W.keepIn K (.ref f_law_pick) = true)
    {f_law_any : Addr} {od_law_any an_law_any : Option Addr} {sl_law_any : Array (Option Value)} {oc_law_any kV_law_any dc_law_any pm_law_any cd_law_any ct_law_any : Value}
    (a__law_any : PySem.W.nsIn K mainGlobals "_law_any" = some (some (.ref f_law_any)))
    (l_law_any : K.lookup f_law_any = some ⟨oc_law_any, od_law_any, .func (PySem.W.fnOf "_law_any" "_law_any" (defArgs (topS 22)) (defBody (topS 22)) (defScope (topS 22)) .none kV_law_any dc_law_any pm_law_any an_law_any cd_law_any ct_law_any), sl_law_any⟩) (c_law_any : PySem.W.codeIn K cd_law_any "_law_any" = true) (k_law_any : PySem.W.keepIn K (.ref f_law_any) = true)
    {f_law_town : Addr} {od_law_town an_law_town : Option Addr} {sl_law_town : Array (Option Value)} {oc_law_town kV_law_town dc_law_town pm_law_town cd_law_town ct_law_town : Value}
    (a__law_town : PySem.W.nsIn K mainGlobals "_law_town" = some (some (.ref f_law_town)))
    (l_law_town : K.lookup f_law_town = some ⟨oc_law_town, od_law_town, .func (PySem.W.fnOf "_law_town" "_law_town" (defArgs (topS 23)) (defBody (topS 23)) (defScope (topS 23)) .none kV_law_town dc_law_town pm_law_town an_law_town cd_law_town ct_law_town), sl_law_town⟩) (c_law_town : PySem.W.codeIn K cd_law_town "_law_town" = true) (k_law_town : PySem.W.keepIn K (.ref f_law_town) = true)
    {f_law_ends : Addr} {od_law_ends an_law_ends : Option Addr} {sl_law_ends : Array (Option Value)} {oc_law_ends kV_law_ends dc_law_ends pm_law_ends cd_law_ends ct_law_ends : Value}
    (a__law_ends : PySem.W.nsIn K mainGlobals "_law_ends" = some (some (.ref f_law_ends)))
    (l_law_ends : K.lookup f_law_ends = some ⟨oc_law_ends, od_law_ends, .func (PySem.W.fnOf "_law_ends" "_law_ends" (defArgs (topS 24)) (defBody (topS 24)) (defScope (topS 24)) .none kV_law_ends dc_law_ends pm_law_ends an_law_ends cd_law_ends ct_law_ends), sl_law_ends⟩) (c_law_ends : PySem.W.codeIn K cd_law_ends "_law_ends" = true) (k_law_ends : PySem.W.keepIn K (.ref f_law_ends) = true)
    {f_law_cut : Addr} {od_law_cut an_law_cut : Option Addr} {sl_law_cut : Array (Option Value)} {oc_law_cut kV_law_cut dc_law_cut pm_law_cut cd_law_cut ct_law_cut : Value}
    (a__law_cut : PySem.W.nsIn K mainGlobals "_law_cut" = some (some (.ref f_law_cut)))
    (l_law_cut : K.lookup f_law_cut = some ⟨oc_law_cut, od_law_cut, .func (PySem.W.fnOf "_law_cut" "_law_cut" (defArgs (topS 25)) (defBody (topS 25)) (defScope (topS 25)) .none kV_law_cut dc_law_cut pm_law_cut an_law_cut cd_law_cut ct_law_cut), sl_law_cut⟩) (c_law_cut : PySem.W.codeIn K cd_law_cut "_law_cut" = true) (k_law_cut : PySem.W.keepIn K (.ref f_law_cut) = true)
    {f_law_flow : Addr} {od_law_flow an_law_flow : Option Addr} {sl_law_flow : Array (Option Value)} {oc_law_flow kV_law_flow dc_law_flow pm_law_flow cd_law_flow ct_law_flow : Value}
    (a__law_flow : PySem.W.nsIn K mainGlobals "_law_flow" = some (some (.ref f_law_flow)))
    (l_law_flow : K.lookup f_law_flow = some ⟨oc_law_flow, od_law_flow, .func (PySem.W.fnOf "_law_flow" "_law_flow" (defArgs (topS 26)) (defBody (topS 26)) (defScope (topS 26)) .none kV_law_flow dc_law_flow pm_law_flow an_law_flow cd_law_flow ct_law_flow), sl_law_flow⟩) (c_law_flow : PySem.W.codeIn K cd_law_flow "_law_flow" = true) (k_law_flow : PySem.W.keepIn K (.ref f_law_flow) = true)
    {f_law_flow_due : Addr} {od_law_flow_due an_law_flow_due : Option Addr} {sl_law_flow_due : Array (Option Value)} {oc_law_flow_due kV_law_flow_due dc_law_flow_due pm_law_flow_due cd_law_flow_due ct_law_flow_due : Value}
    (a__law_flow_due : PySem.W.nsIn K mainGlobals "_law_flow_due" = some (some (.ref f_law_flow_due)))
    (l_law_flow_due : K.lookup f_law_flow_due = some ⟨oc_law_flow_due, od_law_flow_due, .func (PySem.W.fnOf "_law_flow_due" "_law_flow_due" (defArgs (topS 27)) (defBody (topS 27)) (defScope (topS 27)) .none kV_law_flow_due dc_law_flow_due pm_law_flow_due an_law_flow_due cd_law_flow_due ct_law_flow_due), sl_law_flow_due⟩) (c_law_flow_due : PySem.W.codeIn K cd_law_flow_due "_law_flow_due" = true) (k_law_flow_due : PySem.W.keepIn K (.ref f_law_flow_due) = true)
    {f_law_for_due : Addr} {od_law_for_due an_law_for_due : Option Addr} {sl_law_for_due : Array (Option Value)} {oc_law_for_due kV_law_for_due dc_law_for_due pm_law_for_due cd_law_for_due ct_law_for_due : Value}
    (a__law_for_due : PySem.W.nsIn K mainGlobals "_law_for_due" = some (some (.ref f_law_for_due)))
    (l_law_for_due : K.lookup f_law_for_due = some ⟨oc_law_for_due, od_law_for_due, .func (PySem.W.fnOf "_law_for_due" "_law_for_due" (defArgs (topS 28)) (defBody (topS 28)) (defScope (topS 28)) .none kV_law_for_due dc_law_for_due pm_law_for_due an_law_for_due cd_law_for_due ct_law_for_due), sl_law_for_due⟩) (c_law_for_due : PySem.W.codeIn K cd_law_for_due "_law_for_due" = true) (k_law_for_due : PySem.W.keepIn K (.ref f_law_for_due) = true)
    {f_law_bent : Addr} {od_law_bent an_law_bent : Option Addr} {sl_law_bent : Array (Option Value)} {oc_law_bent kV_law_bent dc_law_bent pm_law_bent cd_law_bent ct_law_bent : Value}
    (a__law_bent : PySem.W.nsIn K mainGlobals "_law_bent" = some (some (.ref f_law_bent)))
    (l_law_bent : K.lookup f_law_bent = some ⟨oc_law_bent, od_law_bent, .func (PySem.W.fnOf "_law_bent" "_law_bent" (defArgs (topS 29)) (defBody (topS 29)) (defScope (topS 29)) .none kV_law_bent dc_law_bent pm_law_bent an_law_bent cd_law_bent ct_law_bent), sl_law_bent⟩) (c_law_bent : PySem.W.codeIn K cd_law_bent "_law_bent" = true) (k_law_bent : PySem.W.keepIn K (.ref f_law_bent) = true)
    {f_law_told : Addr} {od_law_told an_law_told : Option Addr} {sl_law_told : Array (Option Value)} {oc_law_told kV_law_told dc_law_told pm_law_told cd_law_told ct_law_told : Value}
    (a__law_told : PySem.W.nsIn K mainGlobals "_law_told" = some (some (.ref f_law_told)))
    (l_law_told : K.lookup f_law_told = some ⟨oc_law_told, od_law_told, .func (PySem.W.fnOf "_law_told" "_law_told" (defArgs (topS 30)) (defBody (topS 30)) (defScope (topS 30)) .none kV_law_told dc_law_told pm_law_told an_law_told cd_law_told ct_law_told), sl_law_told⟩) (c_law_told : PySem.W.codeIn K cd_law_told "_law_told" = true) (k_law_told : PySem.W.keepIn K (.ref f_law_told) = true)
    {f_law_is_town_right : Addr} {od_law_is_town_right an_law_is_town_right : Option Addr} {sl_law_is_town_right : Array (Option Value)} {oc_law_is_town_right kV_law_is_town_right dc_law_is_town_right pm_law_is_town_right cd_law_is_town_right ct_law_is_town_right : Value}
    (a__law_is_town_right : PySem.W.nsIn K mainGlobals "_law_is_town_right" = some (some (.ref f_law_is_town_right)))
    (l_law_is_town_right : K.lookup f_law_is_town_right = some ⟨oc_law_is_town_right, od_law_is_town_right, .func (PySem.W.fnOf "_law_is_town_right" "_law_is_town_right" (defArgs (topS 31)) (defBody (topS 31)) (defScope (topS 31)) .none kV_law_is_town_right dc_law_is_town_right pm_law_is_town_right an_law_is_town_right cd_law_is_town_right ct_law_is_town_right), sl_law_is_town_right⟩) (c_law_is_town_right : PySem.W.codeIn K cd_law_is_town_right "_law_is_town_right" = true) (k_law_is_town_right : PySem.W.keepIn K (.ref f_law_is_town_right) = true)
    {f_law : Addr} {od_law an_law : Option Addr} {sl_law : Array (Option Value)} {oc_law kV_law dc_law pm_law cd_law ct_law : Value}
    (a_law : PySem.W.nsIn K mainGlobals "law" = some (some (.ref f_law)))
    (l_law : K.lookup f_law = some ⟨oc_law, od_law, .func (PySem.W.fnOf "law" "law" (defArgs (topS 32)) (defBody (topS 32)) (defScope (topS 32)) .none kV_law dc_law pm_law an_law cd_law ct_law), sl_law⟩) (c_law : PySem.W.codeIn K cd_law "law" = true) (k_law : PySem.W.keepIn K (.ref f_law) = true)
    (z_abs : PySem.W.nsIn K mainGlobals "abs" = some none)
    (z_all : PySem.W.nsIn K mainGlobals "all" = some none)
    (z_bool : PySem.W.nsIn K mainGlobals "bool" = some none)
    (z_enumerate : PySem.W.nsIn K mainGlobals "enumerate" = some none)
    (z_int : PySem.W.nsIn K mainGlobals "int" = some none)
    (z_isinstance : PySem.W.nsIn K mainGlobals "isinstance" = some none)
    (z_len : PySem.W.nsIn K mainGlobals "len" = some none)
    (z_list : PySem.W.nsIn K mainGlobals "list" = some none)
    (z_max : PySem.W.nsIn K mainGlobals "max" = some none)
    (z_min : PySem.W.nsIn K mainGlobals "min" = some none)
    (z_range : PySem.W.nsIn K mainGlobals "range" = some none)
    (z_repr : PySem.W.nsIn K mainGlobals "repr" = some none)
    (z_sorted : PySem.W.nsIn K mainGlobals "sorted" = some none)
    (z_sum : PySem.W.nsIn K mainGlobals "sum" = some none)
    (z_tuple : PySem.W.nsIn K mainGlobals "tuple" = some none)
    (z_zip : PySem.W.nsIn K mainGlobals "zip" = some none)
    {t_MAX_MONEY : Tok} (i_MAX_MONEY : PySem.W.nsIn K mainGlobals "MAX_MONEY" = some (some (.int 1000 t_MAX_MONEY)))
    {C_Unfit : Addr} (x_Unfit : PySem.W.nsIn K mainGlobals "Unfit" = some (some (.ref C_Unfit))) (xk_Unfit : PySem.W.keepIn K (.ref C_Unfit) = true) (xq_Unfit : PySem.W.excIn K C_Unfit [.type "ValueError", .type "Exception", .type "BaseException", .type "object"] "ValueError.__new__" = true) (xs_Unfit : PySem.W.subIn K (.ref C_Unfit) (.type "BaseException") = some true) (xt_Unfit : PySem.W.typeIn K (.ref C_Unfit) = some (.type "type")) (xc_Unfit : PySem.W.isClsIn K C_Unfit = true)
    (xm_Unfit_Unfit : PySem.W.subIn K (.ref C_Unfit) (.ref C_Unfit) = some true) :
    ∃ fd : FuncData, (∀ (s : Shared) (v : Value), BindsTo s fd ⟨[v], []⟩ [("script", v)]) ∧ ∀ base : Heap, K.In base → base.Ns mainGlobals mg → FnG l.prog w K mg base 11 fa fd ["script"] (spW K mg 1 [] r_law) := by
  have e := hfa.symm.trans (PySem.W.mg_of X G a_law)
  cases e
  have Z : Ft mg := ⟨PySem.W.mg_none_of X G z_abs, PySem.W.mg_none_of X G z_all, PySem.W.mg_none_of X G z_bool, PySem.W.mg_none_of X G z_enumerate, PySem.W.mg_none_of X G z_int, PySem.W.mg_none_of X G z_isinstance, PySem.W.mg_none_of X G z_len, PySem.W.mg_none_of X G z_list, PySem.W.mg_none_of X G z_max, PySem.W.mg_none_of X G z_min, PySem.W.mg_none_of X G z_range, PySem.W.mg_none_of X G z_repr, PySem.W.mg_none_of X G z_sorted, PySem.W.mg_none_of X G z_sum, PySem.W.mg_none_of X G z_tuple, PySem.W.mg_none_of X G z_zip, ⟨_, PySem.W.mg_of X G i_MAX_MONEY⟩⟩
  have E_Unfit : ExcF K mg "Unfit" := ⟨C_Unfit, PySem.W.mg_of X G x_Unfit, xk_Unfit, xq_Unfit, xs_Unfit, xt_Unfit⟩
  have S : SubF K mg (subT subL) := (subT_cons (PySem.W.mg_of X G x_Unfit) (PySem.W.mg_of X G x_Unfit) (exm_of xs_Unfit xc_Unfit xt_Unfit xm_Unfit_Unfit) subT_nil)
  have F_is_number := fun_mk (x := "is_number") (qual := "is_number") (st := topS 5) l_is_number c_is_number k_is_number
  have b_is_number := F_is_number.binds (ps := ["value"]) fun _ _ _ _ _ _ us hl => match us, hl with | [_], _ => rfl
  have F_is_within := fun_mk (x := "is_within") (qual := "is_within") (st := topS 6) l_is_within c_is_within k_is_within
  have b_is_within := F_is_within.binds (ps := ["value", "least", "most"]) fun _ _ _ _ _ _ us hl => match us, hl with | [_, _, _], _ => rfl
  have F_reached := fun_mk (x := "reached") (qual := "reached") (st := topS 7) l_reached c_reached k_reached
  have b_reached := F_reached.binds (ps := ["houses", "roads", "house"]) fun _ _ _ _ _ _ us hl => match us, hl with | [_, _, _], _ => rfl
  have F_money := fun_mk (x := "money") (qual := "money") (st := topS 9) l_money c_money k_money
  have b_money := F_money.binds (ps := ["purse"]) fun _ _ _ _ _ _ us hl => match us, hl with | [_], _ => rfl
  have F_is_row := fun_mk (x := "is_row") (qual := "is_row") (st := topS 11) l_is_row c_is_row k_is_row
  have b_is_row := F_is_row.binds (ps := ["town", "value"]) fun _ _ _ _ _ _ us hl => match us, hl with | [_, _], _ => rfl
  have F_flow_error := fun_mk (x := "flow_error") (qual := "flow_error") (st := topS 12) l_flow_error c_flow_error k_flow_error
  have b_flow_error := F_flow_error.binds (ps := ["town", "value"]) fun _ _ _ _ _ _ us hl => match us, hl with | [_, _], _ => rfl
  have F_ends := fun_mk (x := "ends") (qual := "ends") (st := topS 13) l_ends c_ends k_ends
  have b_ends := F_ends.binds (ps := ["town", "flow"]) fun _ _ _ _ _ _ us hl => match us, hl with | [_, _], _ => rfl
  have F_cut_flow := fun_mk (x := "cut_flow") (qual := "cut_flow") (st := topS 14) l_cut_flow c_cut_flow k_cut_flow
  have b_cut_flow := F_cut_flow.binds (ps := ["town", "script"]) fun _ _ _ _ _ _ us hl => match us, hl with | [_, _], _ => rfl
  have F_tree_places := fun_mk (x := "tree_places") (qual := "tree_places") (st := topS 15) l_tree_places c_tree_places k_tree_places
  have b_tree_places := F_tree_places.binds (ps := ["town"]) fun _ _ _ _ _ _ us hl => match us, hl with | [_], _ => rfl
  have F_flow_for := fun_mk (x := "flow_for") (qual := "flow_for") (st := topS 16) l_flow_for c_flow_for k_flow_for
  have b_flow_for := F_flow_for.binds (ps := ["town", "purse"]) fun _ _ _ _ _ _ us hl => match us, hl with | [_, _], _ => rfl
  have F_flow_for_error := fun_mk (x := "flow_for_error") (qual := "flow_for_error") (st := topS 17) l_flow_for_error c_flow_for_error k_flow_for_error
  have b_flow_for_error := F_flow_for_error.binds (ps := ["town", "purse", "value"]) fun _ _ _ _ _ _ us hl => match us, hl with | [_, _, _], _ => rfl
  have F_law_deck := fun_mk (x := "_law_deck") (qual := "_law_deck") (st := topS 19) l_law_deck c_law_deck k_law_deck
  have b_law_deck := F_law_deck.binds (ps := ["script"]) fun _ _ _ _ _ _ us hl => match us, hl with | [_], _ => rfl
  have F_law_draw := fun_mk (x := "_law_draw") (qual := "_law_draw") (st := topS 20) l_law_draw c_law_draw k_law_draw
  have b_law_draw := F_law_draw.binds (ps := ["deck", "many"]) fun _ _ _ _ _ _ us hl => match us, hl with | [_, _], _ => rfl
  have F_law_pick := fun_mk (x := "_law_pick") (qual := "_law_pick") (st := topS 21) l_law_pick c_law_pick k_law_pick
  have b_law_pick := F_law_pick.binds (ps := ["deck", "row"]) fun _ _ _ _ _ _ us hl => match us, hl with | [_, _], _ => rfl
  have F_law_any := fun_mk (x := "_law_any") (qual := "_law_any") (st := topS 22) l_law_any c_law_any k_law_any
  have b_law_any := F_law_any.binds (ps := ["deck", "deep"]) fun _ _ _ _ _ _ us hl => match us, hl with | [_, _], _ => rfl
  have F_law_town := fun_mk (x := "_law_town") (qual := "_law_town") (st := topS 23) l_law_town c_law_town k_law_town
  have b_law_town := F_law_town.binds (ps := ["deck", "most", "more"]) fun _ _ _ _ _ _ us hl => match us, hl with | [_, _, _], _ => rfl
  have F_law_ends := fun_mk (x := "_law_ends") (qual := "_law_ends") (st := topS 24) l_law_ends c_law_ends k_law_ends
  have b_law_ends := F_law_ends.binds (ps := ["town", "flow"]) fun _ _ _ _ _ _ us hl => match us, hl with | [_, _], _ => rfl
  have F_law_cut := fun_mk (x := "_law_cut") (qual := "_law_cut") (st := topS 25) l_law_cut c_law_cut k_law_cut
  have b_law_cut := F_law_cut.binds (ps := ["town", "script"]) fun _ _ _ _ _ _ us hl => match us, hl with | [_, _], _ => rfl
  have F_law_flow := fun_mk (x := "_law_flow") (qual := "_law_flow") (st := topS 26) l_law_flow c_law_flow k_law_flow
  have b_law_flow := F_law_flow.binds (ps := ["deck", "size"]) fun _ _ _ _ _ _ us hl => match us, hl with | [_, _], _ => rfl
  have F_law_flow_due := fun_mk (x := "_law_flow_due") (qual := "_law_flow_due") (st := topS 27) l_law_flow_due c_law_flow_due k_law_flow_due
  have b_law_flow_due := F_law_flow_due.binds (ps := ["town", "value"]) fun _ _ _ _ _ _ us hl => match us, hl with | [_, _], _ => rfl
  have F_law_for_due := fun_mk (x := "_law_for_due") (qual := "_law_for_due") (st := topS 28) l_law_for_due c_law_for_due k_law_for_due
  have b_law_for_due := F_law_for_due.binds (ps := ["town", "purse", "value"]) fun _ _ _ _ _ _ us hl => match us, hl with | [_, _, _], _ => rfl
  have F_law_bent := fun_mk (x := "_law_bent") (qual := "_law_bent") (st := topS 29) l_law_bent c_law_bent k_law_bent
  have b_law_bent := F_law_bent.binds (ps := ["deck", "flow"]) fun _ _ _ _ _ _ us hl => match us, hl with | [_, _], _ => rfl
  have F_law_told := fun_mk (x := "_law_told") (qual := "_law_told") (st := topS 30) l_law_told c_law_told k_law_told
  have b_law_told := F_law_told.binds (ps := ["town", "purse", "is_named"]) fun _ _ _ _ _ _ us hl => match us, hl with | [_, _, _], _ => rfl
  have F_law_is_town_right := fun_mk (x := "_law_is_town_right") (qual := "_law_is_town_right") (st := topS 31) l_law_is_town_right c_law_is_town_right k_law_is_town_right
  have b_law_is_town_right := F_law_is_town_right.binds (ps := ["deck", "town"]) fun _ _ _ _ _ _ us hl => match us, hl with | [_, _], _ => rfl
  have F_law := fun_mk (x := "law") (qual := "law") (st := topS 32) l_law c_law k_law
  have kb_flow_for_purse_town := Fun_kw (ps := ["town", "purse"]) (ks := ["purse", "town"]) (π := [1, 0]) F_flow_for fun _ _ _ _ _ _ ws hl => match ws, hl with | [_, _], _ => rfl
  have kb_ends_flow_town := Fun_kw (ps := ["town", "flow"]) (ks := ["flow", "town"]) (π := [1, 0]) F_ends fun _ _ _ _ _ _ ws hl => match ws, hl with | [_, _], _ => rfl
  have kb_cut_flow_script_town := Fun_kw (ps := ["town", "script"]) (ks := ["script", "town"]) (π := [1, 0]) F_cut_flow fun _ _ _ _ _ _ ws hl => match ws, hl with | [_, _], _ => rfl
  have kb_flow_error_value_town := Fun_kw (ps := ["town", "value"]) (ks := ["value", "town"]) (π := [1, 0]) F_flow_error fun _ _ _ _ _ _ ws hl => match ws, hl with | [_, _], _ => rfl
  have kb_flow_for_error_value_purse_town := Fun_kw (ps := ["town", "purse", "value"]) (ks := ["value", "purse", "town"]) (π := [2, 1, 0]) F_flow_for_error fun _ _ _ _ _ _ ws hl => match ws, hl with | [_, _, _], _ => rfl
  refine ⟨PySem.W.fnOf "law" "law" (defArgs (topS 32)) (defBody (topS 32)) (defScope (topS 32)) .none kV_law dc_law pm_law an_law cd_law ct_law, fun s v => .of_eq rfl, fun base _ _ => ?_⟩
  have C_is_number : Cal l.prog w K mg base 1 "is_number" 1 [] r_is_number := ⟨_, _, _, PySem.W.mg_of X G a_is_number, k_is_number, b_is_number, (ok_is_number Z  F_is_number)⟩
  have C_reached : Cal l.prog w K mg base 1 "reached" 3 [] r_reached := ⟨_, _, _, PySem.W.mg_of X G a_reached, k_reached, b_reached, (ok_reached Z  F_reached)⟩
  have C_money : Cal l.prog w K mg base 1 "money" 1 [] r_money := ⟨_, _, _, PySem.W.mg_of X G a_money, k_money, b_money, (ok_money Z  F_money)⟩
  have C_is_row : Cal l.prog w K mg base 1 "is_row" 2 [] r_is_row := ⟨_, _, _, PySem.W.mg_of X G a_is_row, k_is_row, b_is_row, (ok_is_row Z  F_is_row)⟩
  have C_ends : Cal l.prog w K mg base 1 "ends" 2 [] r_ends := ⟨_, _, _, PySem.W.mg_of X G a_ends, k_ends, b_ends, (ok_ends Z  F_ends)⟩
  have K_ends_flow_town : CalK l.prog w K mg base 1 "ends" 2 r_ends ["flow", "town"] [1, 0] := ⟨_, _, _, PySem.W.mg_of X G a_ends, k_ends, kb_ends_flow_town, (ok_ends Z  F_ends)⟩
  have C_cut_flow : Cal l.prog w K mg base 1 "cut_flow" 2 [] r_cut_flow := ⟨_, _, _, PySem.W.mg_of X G a_cut_flow, k_cut_flow, b_cut_flow, (ok_cut_flow Z  F_cut_flow)⟩
  have K_cut_flow_script_town : CalK l.prog w K mg base 1 "cut_flow" 2 r_cut_flow ["script", "town"] [1, 0] := ⟨_, _, _, PySem.W.mg_of X G a_cut_flow, k_cut_flow, kb_cut_flow_script_town, (ok_cut_flow Z  F_cut_flow)⟩
  have C_law_deck : Cal l.prog w K mg base 1 "_law_deck" 1 [] r_law_deck := ⟨_, _, _, PySem.W.mg_of X G a__law_deck, k_law_deck, b_law_deck, (ok_law_deck Z  F_law_deck)⟩
  have C_law_draw : Cal l.prog w K mg base 1 "_law_draw" 2 [0] r_law_draw := ⟨_, _, _, PySem.W.mg_of X G a__law_draw, k_law_draw, b_law_draw, (ok_law_draw Z  F_law_draw)⟩
  have C_law_ends : Cal l.prog w K mg base 1 "_law_ends" 2 [] r_law_ends := ⟨_, _, _, PySem.W.mg_of X G a__law_ends, k_law_ends, b_law_ends, (ok_law_ends Z  F_law_ends)⟩
  have C_law_cut : Cal l.prog w K mg base 1 "_law_cut" 2 [] r_law_cut := ⟨_, _, _, PySem.W.mg_of X G a__law_cut, k_law_cut, b_law_cut, (ok_law_cut Z  F_law_cut)⟩
  have C_law_flow_due : Cal l.prog w K mg base 1 "_law_flow_due" 2 [] r_law_flow_due := ⟨_, _, _, PySem.W.mg_of X G a__law_flow_due, k_law_flow_due, b_law_flow_due, (ok_law_flow_due Z  F_law_flow_due)⟩
  have C_is_within : Cal l.prog w K mg base 2 "is_within" 3 [] r_is_within := ⟨_, _, _, PySem.W.mg_of X G a_is_within, k_is_within, b_is_within, (ok_is_within Z C_is_number F_is_within)⟩
  have C_tree_places : Cal l.prog w K mg base 2 "tree_places" 1 [] r_tree_places := ⟨_, _, _, PySem.W.mg_of X G a_tree_places, k_tree_places, b_tree_places, (ok_tree_places Z C_reached F_tree_places)⟩
  have C_flow_for_error : Cal l.prog w K mg base 2 "flow_for_error" 3 [] r_flow_for_error := ⟨_, _, _, PySem.W.mg_of X G a_flow_for_error, k_flow_for_error, b_flow_for_error, (ok_flow_for_error Z C_is_row C_is_number C_ends F_flow_for_error)⟩
  have K_flow_for_error_value_purse_town : CalK l.prog w K mg base 2 "flow_for_error" 3 r_flow_for_error ["value", "purse", "town"] [2, 1, 0] := ⟨_, _, _, PySem.W.mg_of X G a_flow_for_error, k_flow_for_error, kb_flow_for_error_value_purse_town, (ok_flow_for_error Z C_is_row C_is_number C_ends F_flow_for_error)⟩
  have C_law_pick : Cal l.prog w K mg base 2 "_law_pick" 2 [0] r_law_pick := ⟨_, _, _, PySem.W.mg_of X G a__law_pick, k_law_pick, b_law_pick, (ok_law_pick Z C_law_draw F_law_pick)⟩
  have C_law_town : Cal l.prog w K mg base 2 "_law_town" 3 [0] r_law_town := ⟨_, _, _, PySem.W.mg_of X G a__law_town, k_law_town, b_law_town, (ok_law_town Z C_law_draw F_law_town)⟩
  have C_law_for_due : Cal l.prog w K mg base 2 "_law_for_due" 3 [] r_law_for_due := ⟨_, _, _, PySem.W.mg_of X G a__law_for_due, k_law_for_due, b_law_for_due, (ok_law_for_due Z C_law_ends F_law_for_due)⟩
  have C_flow_error : Cal l.prog w K mg base 3 "flow_error" 2 [] r_flow_error := ⟨_, _, _, PySem.W.mg_of X G a_flow_error, k_flow_error, b_flow_error, (ok_flow_error Z C_is_row C_is_within F_flow_error)⟩
  have K_flow_error_value_town : CalK l.prog w K mg base 3 "flow_error" 2 r_flow_error ["value", "town"] [1, 0] := ⟨_, _, _, PySem.W.mg_of X G a_flow_error, k_flow_error, kb_flow_error_value_town, (ok_flow_error Z C_is_row C_is_within F_flow_error)⟩
  have C_flow_for : Cal l.prog w K mg base 3 "flow_for" 2 [] r_flow_for := ⟨_, _, _, PySem.W.mg_of X G a_flow_for, k_flow_for, b_flow_for, (ok_flow_for Z C_money C_tree_places C_reached E_Unfit F_flow_for)⟩
  have K_flow_for_purse_town : CalK l.prog w K mg base 3 "flow_for" 2 r_flow_for ["purse", "town"] [1, 0] := ⟨_, _, _, PySem.W.mg_of X G a_flow_for, k_flow_for, kb_flow_for_purse_town, (ok_flow_for Z C_money C_tree_places C_reached E_Unfit F_flow_for)⟩
  have C_law_flow : Cal l.prog w K mg base 3 "_law_flow" 2 [0] r_law_flow := ⟨_, _, _, PySem.W.mg_of X G a__law_flow, k_law_flow, b_law_flow, (ok_law_flow Z C_law_pick C_law_draw F_law_flow)⟩
  have C_law_told : Cal l.prog w K mg base 4 "_law_told" 3 [] r_law_told := ⟨_, _, _, PySem.W.mg_of X G a__law_told, k_law_told, b_law_told, (ok_law_told Z C_flow_for K_flow_for_purse_town E_Unfit S F_law_told)⟩
  have C_law_any : Cal l.prog w K mg base 8 "_law_any" 2 [0] (r_law_any 6) := ok_law_any Z C_law_draw C_law_pick F_law_any (PySem.W.mg_of X G a__law_any) k_law_any b_law_any 6
  have C_law_bent : Cal l.prog w K mg base 9 "_law_bent" 2 [0] r_law_bent := ⟨_, _, _, PySem.W.mg_of X G a__law_bent, k_law_bent, b_law_bent, (ok_law_bent Z C_law_draw C_law_any C_law_pick F_law_bent)⟩
  have C_law_is_town_right : Cal l.prog w K mg base 10 "_law_is_town_right" 2 [0] r_law_is_town_right := ⟨_, _, _, PySem.W.mg_of X G a__law_is_town_right, k_law_is_town_right, b_law_is_town_right, (ok_law_is_town_right Z C_law_flow C_law_draw C_law_ends C_ends C_cut_flow C_law_cut C_law_told C_law_for_due C_flow_for_error C_law_bent C_law_any C_law_flow_due C_flow_error K_ends_flow_town K_cut_flow_script_town K_flow_error_value_town K_flow_for_error_value_purse_town F_law_is_town_right)⟩
  exact (ok_law Z C_law_deck C_law_pick C_law_town C_law_is_town_right F_law)
/- CASES a_is_number l_is_number c_is_number k_is_number a_is_within l_is_within c_is_within k_is_within a_reached l_reached c_reached k_reached a_money l_money c_money k_money a_is_row l_is_row c_is_row k_is_row a_flow_error l_flow_error c_flow_error k_flow_error a_ends l_ends c_ends k_ends a_cut_flow l_cut_flow c_cut_flow k_cut_flow a_tree_places l_tree_places c_tree_places k_tree_places a_flow_for l_flow_for c_flow_for k_flow_for a_flow_for_error l_flow_for_error c_flow_for_error k_flow_for_error a__law_deck l_law_deck c_law_deck k_law_deck a__law_draw l_law_draw c_law_draw k_law_draw a__law_pick l_law_pick c_law_pick k_law_pick a__law_any l_law_any c_law_any k_law_any a__law_town l_law_town c_law_town k_law_town a__law_ends l_law_ends c_law_ends k_law_ends a__law_cut l_law_cut c_law_cut k_law_cut a__law_flow l_law_flow c_law_flow k_law_flow a__law_flow_due l_law_flow_due c_law_flow_due k_law_flow_due a__law_for_due l_law_for_due c_law_for_due k_law_for_due a__law_bent l_law_bent c_law_bent k_law_bent a__law_told l_law_told c_law_told k_law_told a__law_is_town_right l_law_is_town_right c_law_is_town_right k_law_is_town_right a_law l_law c_law k_law z_abs z_all z_bool z_enumerate z_int z_isinstance z_len z_list z_max z_min z_range z_repr z_sorted z_sum z_tuple z_zip i_MAX_MONEY x_Unfit xk_Unfit xq_Unfit xs_Unfit xt_Unfit xc_Unfit xm_Unfit_Unfit -/
end K79
namespace K79
open PySem L2 VL VG
local macro_rules | `(tactic| simp! only [$ls,*]) => `(tactic| simp (implicitDefEqProofs := false) only [r_mutD, r_mdA, r_mdB, r_mdC, r_mdD, r_mdE, r_mdF, r_mdG, r_partE, r_ptA, r_ptB, r_ptC, r_ptD, r_ptE, r_ptF, r_ptG, r_lcBE, r_lbA, r_lbB, r_lbC, r_raiseS, r_finx, r_finX, r_tryS, r_tryn, r_tryr, r_tryx, r_catc, r_catt, r_catf, r_parP, r_parPK, r_parPC, r_puts0, r_putsc, r_evs0, r_evsv, r_evsK, r_evsL, r_evsR, r_evsr, r_bor, r_rds0, r_rdsc, r_cons, r_rdv, r_rdr, r_join, r_lift, r_nxO, r_primK, r_prim, r_feed, r_p1, r_p2, r_pb, r_kc, r_var, r_varc, r_varl, r_vark, r_varF, r_mov, r_movc, r_movl, r_movk, r_movt, r_movs, r_tst, r_tstK, r_asW, r_asK, r_andT, r_andC, r_orT, r_orC, r_notT, r_notC, r_ifE, r_ifC, r_andE, r_andK1, r_andK0, r_orE, r_orK0, r_orK1, r_notE, r_notK, r_frzE, r_frzW, r_frzK, r_intOf, r_intK, r_intE, r_intL, r_chain2, r_ch1, r_ch2, r_ch3, r_chain3, r_dh1, r_dh2, r_dh3, r_yes, r_take0, r_takev, r_taker, r_takeA, r_takeR, r_ref0, r_refv, r_refr, r_back0, r_backc, r_call, r_callK, r_callA, r_callB, r_callBx, r_callC, r_callX, r_kwE, r_kwK, r_kwA, r_kwB, r_kwC, r_kwCx, r_wsv0, r_wsvc, r_seqI, r_seqK, r_itl, r_itt, r_rngI, r_lcE, r_lcK, r_lcB, r_lc0, r_lcc, r_lcA, r_lcT, r_lcF, r_lcS, r_noX, r_wipe0, r_wipec, r_cold, r_cold0, r_coldc, r_bk0, r_bkc, r_walkE, r_walkF, r_srcl, r_srct, r_srck, r_forS, r_lp0, r_lpc, r_lpN, r_loopK, r_unpS, r_unpK, r_tgN, r_tgT, r_tgTl, r_tgsN, r_tgsC, r_asgS, r_asgK, r_retS, r_retK, r_ifS, r_ifK, r_dropS, r_dropK, r_seqS, r_skipS, r_par2, r_par2K, r_parS, r_parF, r_parK, r_sets0, r_setsc, r_putNew, r_disp, r_dispF, r_dispA, r_dispB, r_flat0, r_flatc, r_mutE, r_mutK, r_mutL, r_mutF, r_mutG, r_mutH, r_app, r_ext, r_extc, r_pop, r_popK, r_putS, r_putD, r_putA, r_putE, r_putB, r_putC, r_setl, r_setL, r_setk, r_setK, r_sett, r_setT, r_finn, r_finr, r_finA, r_pick0, r_pickc, r_pickA, r_tup, r_tupK, r_lst, r_lstK, r_len_l, r_len_cl, r_len_t, r_len_k, r_len_dt, r_len_s, r_len_x, r_isic, r_isil, r_isik, r_ix_t, r_ix_cl, r_ix_l, r_ix_k, r_ixK, r_keyi, r_keys, r_coldW, r_addi, r_addt, r_subi, r_muli, r_modi, r_divi, r_lti, r_lei, r_gti, r_gei, r_negi, r_inti, r_intb, r_cmp, r_isn, r_isnt, r_nfn, r_addcl, r_addll, r_addlc, r_addcc, r_addO, few, eq_self, small_line, colds_map, Int.cast_ofNat_Int, Int.natCast_zero, Int.natCast_one, b_ok, b_exn, b_no, t_ok, t_exn, t_no, sq_nx, sq_rt, sq_exn, sq_no, fz, fzAll, fzKV, keyD, isPl, kindW, kindD, eqi, eqb, neb, Bool.not_true, Bool.not_false, List.all, id, fz_colds, boolsD_map, at_0, at_1, at_2, ty_int_NoneType, ty_int_bool, ty_int_int, ty_int_str, ty_int_list, ty_int_tuple, ty_int_dict, ty_bool_NoneType, ty_bool_bool, ty_bool_int, ty_bool_str, ty_bool_list, ty_bool_tuple, ty_bool_dict, ty_str_NoneType, ty_str_bool, ty_str_int, ty_str_str, ty_str_list, ty_str_tuple, ty_str_dict, ty_tuple_NoneType, ty_tuple_bool, ty_tuple_int, ty_tuple_str, ty_tuple_list, ty_tuple_tuple, ty_tuple_dict, ty_list_NoneType, ty_list_bool, ty_list_int, ty_list_str, ty_list_list, ty_list_tuple, ty_list_dict, ty_dict_NoneType, ty_dict_bool, ty_dict_int, ty_dict_str, ty_dict_list, ty_dict_tuple, ty_dict_dict, colds, List.find?_cons, List.find?_nil, List.any_cons, List.any_nil, decide_true, decide_false, Nat.reduceLeDiff, Int.reduceEq, ne_eq, not_false_eq_true, Bool.or_true, Bool.true_or, Bool.false_or, Bool.or_false, Bool.false_eq_true, allG, anyG, boolsD, List.all_cons, List.all_nil, Bool.and_true, Bool.true_and, Bool.and_false, Bool.false_and, and_self, and_true, true_and, false_and, and_false, takeW, takeL, List.getElem?_cons_zero, List.getElem?_cons_succ, List.set_cons_zero, List.set_cons_succ, List.length_cons, List.length_nil, List.map_cons, List.map_nil, List.cons_append, List.nil_append, List.replicate_succ, List.replicate_zero, Nat.sub_self, Nat.zero_add, Nat.reduceSub, Nat.reduceAdd, if_true, if_false, Option.map_some, Option.map_none, Option.bind_some, List.append_nil, r_runD, $ls,*])
local macro_rules | `(tactic| simp! only [$ls,*] at $h:ident) => `(tactic| simp (implicitDefEqProofs := false) only [r_mutD, r_mdA, r_mdB, r_mdC, r_mdD, r_mdE, r_mdF, r_mdG, r_partE, r_ptA, r_ptB, r_ptC, r_ptD, r_ptE, r_ptF, r_ptG, r_lcBE, r_lbA, r_lbB, r_lbC, r_raiseS, r_finx, r_finX, r_tryS, r_tryn, r_tryr, r_tryx, r_catc, r_catt, r_catf, r_parP, r_parPK, r_parPC, r_puts0, r_putsc, r_evs0, r_evsv, r_evsK, r_evsL, r_evsR, r_evsr, r_bor, r_rds0, r_rdsc, r_cons, r_rdv, r_rdr, r_join, r_lift, r_nxO, r_primK, r_prim, r_feed, r_p1, r_p2, r_pb, r_kc, r_var, r_varc, r_varl, r_vark, r_varF, r_mov, r_movc, r_movl, r_movk, r_movt, r_movs, r_tst, r_tstK, r_asW, r_asK, r_andT, r_andC, r_orT, r_orC, r_notT, r_notC, r_ifE, r_ifC, r_andE, r_andK1, r_andK0, r_orE, r_orK0, r_orK1, r_notE, r_notK, r_frzE, r_frzW, r_frzK, r_intOf, r_intK, r_intE, r_intL, r_chain2, r_ch1, r_ch2, r_ch3, r_chain3, r_dh1, r_dh2, r_dh3, r_yes, r_take0, r_takev, r_taker, r_takeA, r_takeR, r_ref0, r_refv, r_refr, r_back0, r_backc, r_call, r_callK, r_callA, r_callB, r_callBx, r_callC, r_callX, r_kwE, r_kwK, r_kwA, r_kwB, r_kwC, r_kwCx, r_wsv0, r_wsvc, r_seqI, r_seqK, r_itl, r_itt, r_rngI, r_lcE, r_lcK, r_lcB, r_lc0, r_lcc, r_lcA, r_lcT, r_lcF, r_lcS, r_noX, r_wipe0, r_wipec, r_cold, r_cold0, r_coldc, r_bk0, r_bkc, r_walkE, r_walkF, r_srcl, r_srct, r_srck, r_forS, r_lp0, r_lpc, r_lpN, r_loopK, r_unpS, r_unpK, r_tgN, r_tgT, r_tgTl, r_tgsN, r_tgsC, r_asgS, r_asgK, r_retS, r_retK, r_ifS, r_ifK, r_dropS, r_dropK, r_seqS, r_skipS, r_par2, r_par2K, r_parS, r_parF, r_parK, r_sets0, r_setsc, r_putNew, r_disp, r_dispF, r_dispA, r_dispB, r_flat0, r_flatc, r_mutE, r_mutK, r_mutL, r_mutF, r_mutG, r_mutH, r_app, r_ext, r_extc, r_pop, r_popK, r_putS, r_putD, r_putA, r_putE, r_putB, r_putC, r_setl, r_setL, r_setk, r_setK, r_sett, r_setT, r_finn, r_finr, r_finA, r_pick0, r_pickc, r_pickA, r_tup, r_tupK, r_lst, r_lstK, r_len_l, r_len_cl, r_len_t, r_len_k, r_len_dt, r_len_s, r_len_x, r_isic, r_isil, r_isik, r_ix_t, r_ix_cl, r_ix_l, r_ix_k, r_ixK, r_keyi, r_keys, r_coldW, r_addi, r_addt, r_subi, r_muli, r_modi, r_divi, r_lti, r_lei, r_gti, r_gei, r_negi, r_inti, r_intb, r_cmp, r_isn, r_isnt, r_nfn, r_addcl, r_addll, r_addlc, r_addcc, r_addO, few, eq_self, small_line, colds_map, Int.cast_ofNat_Int, Int.natCast_zero, Int.natCast_one, b_ok, b_exn, b_no, t_ok, t_exn, t_no, sq_nx, sq_rt, sq_exn, sq_no, fz, fzAll, fzKV, keyD, isPl, kindW, kindD, eqi, eqb, neb, Bool.not_true, Bool.not_false, List.all, id, fz_colds, boolsD_map, at_0, at_1, at_2, ty_int_NoneType, ty_int_bool, ty_int_int, ty_int_str, ty_int_list, ty_int_tuple, ty_int_dict, ty_bool_NoneType, ty_bool_bool, ty_bool_int, ty_bool_str, ty_bool_list, ty_bool_tuple, ty_bool_dict, ty_str_NoneType, ty_str_bool, ty_str_int, ty_str_str, ty_str_list, ty_str_tuple, ty_str_dict, ty_tuple_NoneType, ty_tuple_bool, ty_tuple_int, ty_tuple_str, ty_tuple_list, ty_tuple_tuple, ty_tuple_dict, ty_list_NoneType, ty_list_bool, ty_list_int, ty_list_str, ty_list_list, ty_list_tuple, ty_list_dict, ty_dict_NoneType, ty_dict_bool, ty_dict_int, ty_dict_str, ty_dict_list, ty_dict_tuple, ty_dict_dict, colds, List.find?_cons, List.find?_nil, List.any_cons, List.any_nil, decide_true, decide_false, Nat.reduceLeDiff, Int.reduceEq, ne_eq, not_false_eq_true, Bool.or_true, Bool.true_or, Bool.false_or, Bool.or_false, Bool.false_eq_true, allG, anyG, boolsD, List.all_cons, List.all_nil, Bool.and_true, Bool.true_and, Bool.and_false, Bool.false_and, and_self, and_true, true_and, false_and, and_false, takeW, takeL, List.getElem?_cons_zero, List.getElem?_cons_succ, List.set_cons_zero, List.set_cons_succ, List.length_cons, List.length_nil, List.map_cons, List.map_nil, List.cons_append, List.nil_append, List.replicate_succ, List.replicate_zero, Nat.sub_self, Nat.zero_add, Nat.reduceSub, Nat.reduceAdd, if_true, if_false, Option.map_some, Option.map_none, Option.bind_some, List.append_nil, r_runD, $ls,*] at $h:ident)
/-! what the generic texts say, in this law's names -/
theorem t_pick {p : W} (hp : Deck p) (ds : List PyData) (hn : ds ≠ []) (hl : ds.length ≤ 1000) : ∃ d ∈ ds, ∃ p', Deck p' ∧ r_law_pick [p, .c (.list ds)] = .ok (.c d) [p'] := pick_s hp ds hn hl
theorem t_draw {p : W} {m : Int} (h : Deck p) (hm : 0 < m) (hm2 : m < 1073741824) : ∃ r p', 0 ≤ r ∧ r < m ∧ Deck p' ∧ r_law_draw [p, .c (.int m)] = .ok (.c (.int r)) [p'] := draw_s h hm hm2
theorem t_town {p : W} (hp : Deck p) (most : Nat) (hm1 : 1 ≤ most) (hm2 : most ≤ 50) (more : Nat) (hm3 : more ≤ 50) : ∃ (n : Nat) (rs : List Rd) (p' : W), Deck p' ∧ n ≤ most ∧ rs.length < n + more ∧ TownOk n rs ∧ r_law_town [p, .c (.int most), .c (.int more)] = .ok (.c (townD n rs)) [p'] := law_town_s hp most hm1 hm2 more hm3
theorem t_deck (ns : List Int) (hn : ns.length ≤ 63) : ∃ p, Deck p ∧ r_law_deck [.ks true (ns.map .int)] = .ok p [] := law_deck_s 1624579 ns hn
theorem any_eq : ∀ d, r_law_any d = VG.rAny d
  | 0 => rfl
  | d + 1 => by
    unfold r_law_any VG.rAny
    rw [any_eq d]
    rfl
theorem t_any (k : Nat) (hk : k < 6) {p : W} (hp : Deck p) : ∃ (v : PyData) (p' : W), Deck p' ∧ Ok k (4 ^ (k + 1)) v ∧ r_law_any 6 [p, .c (.int k)] = .ok (.c v) [p'] := by
  rw [any_eq]
  exact any_s 6 k hk p hp
section
variable {n : Nat} {rs : List Rd} (ok : TownOk n rs)
include ok
theorem t_ends (f : List Int) : r_ends [.c (townD n rs), .c (tupI f)] = .ok (.c (tupI (endsL n rs f))) [] := ends_s ok f
theorem t_law_ends (f : List Int) : r_law_ends [.c (townD n rs), .c (tupI f)] = .ok (.c (tupI (endsL n rs f))) [] := law_ends_s ok f
theorem t_cut (ps : List Int) (hp : ps.length = n) : r_cut_flow [.c (townD n rs), .c (tupI ps)] = .ok (.c (tupI (cutL rs ps))) [] := cut_flow_s ok ps hp
theorem t_law_cut (ps : List Int) (hp : ps.length = n) : r_law_cut [.c (townD n rs), .c (tupI ps)] = .ok (.c (tupI (cutL rs ps))) [] := cut_flow_s ok ps hp
theorem t_flow_for {f ps : List Int} (hps : ps.length = n) (h0 : ps.sum = 0) (hf : OnTree rs n f ps) : r_flow_for [.c (townD n rs), .c (tupI ps)] = .ok (.c (tupI f)) [] := flow_for_s ok hps h0 hf
omit ok in
theorem t_flow_for_x {ps : List Int} (h0 : ps.sum ≠ 0) : r_flow_for [.c (townD n rs), .c (tupI ps)] = .exn ⟨"Unfit", []⟩ [] := flow_for_x h0
omit ok in
theorem t_flow_error (d : PyData) : r_flow_error [.c (townD n rs), .c d] = .ok (.c (flowDue rs.length d)) [] := flow_error_s n rs d
omit ok in
theorem t_flow_due (d : PyData) : r_law_flow_due [.c (townD n rs), .c d] = .ok (.c (flowDue rs.length d)) [] := flow_due_s n rs d
theorem t_for_error (ps : List Int) (d : PyData) : r_flow_for_error [.c (townD n rs), .c (tupI ps), .c d] = .ok (.c (forDue n rs ps d)) [] := for_error_s ok ps d
theorem t_for_due (ps : List Int) (d : PyData) : r_law_for_due [.c (townD n rs), .c (tupI ps), .c d] = .ok (.c (forDue n rs ps d)) [] := for_due_s ok ps d
end
theorem sub_uu : subT subL "Unfit" "Unfit" = some true := by decide +kernel
theorem told_ok {n : Nat} {rs : List Rd} (ok : TownOk n rs) {f ps : List Int} (hps : ps.length = n) (h0 : ps.sum = 0) (hf : OnTree rs n f ps) (b : Bool) : r_law_told [.c (townD n rs), .c (tupI ps), .c (.bool b)] = .ok (.c (tupI f)) [] := by
  have e := t_flow_for ok hps h0 hf
  unfold r_law_told g_law_told
  cases b <;> simp! only [e, gd0, gd1]
theorem told_x {n : Nat} {rs : List Rd} {ps : List Int} (h0 : ps.sum ≠ 0) (b : Bool) : r_law_told [.c (townD n rs), .c (tupI ps), .c (.bool b)] = .ok (.c (.str "unfit")) [] := by
  have e := t_flow_for_x (n := n) (rs := rs) h0
  unfold r_law_told g_law_told
  cases b <;> simp! only [e, sub_uu, gd0, gd1]
/-! ### a drawn flow -/
theorem flow_lc (s : Option W) (T : Nat) (hT : T ≤ 1000) : ∀ (ds : List PyData) (p : W), Deck p → ∃ (xs : List Int) (p' : W), Deck p' ∧ xs.length = ds.length ∧ (∀ x ∈ xs, x.natAbs ≤ 1000) ∧
    lcLoop [3] (tgN 3) yesT (prim (P2 subF2) [(.val (callE (r_law_draw) [(.bor 0), (.val (frzE (prim (P2 addF2) [(.val (prim (P2 mulF2) [(.val (kc (.int 2))), (.bor 2)])), (.val (kc (.int 1)))])))])), (.bor 2)]) ds [some p, s, some (.c (.int T)), none] = .ok (xs.map .int) [some p', s, some (.c (.int T)), none]
  | [], p, hp => ⟨[], p, hp, rfl, by simp, rfl⟩
  | d :: ds, p, hp => by
    obtain ⟨r, p1, h0, h1, hp1, e⟩ := t_draw (m := 2 * (T : Int) + 1) hp (by omega) (by omega)
    obtain ⟨xs, p', hp', hl, hx, ih⟩ := flow_lc s T hT ds p1 hp1
    have hm : CMulA 2 (T : Int) := mulA_l 2 _ (by decide)
    refine ⟨(r - T) :: xs, p', hp', by simp [hl], fun x hx' => ?_, ?_⟩
    · rcases List.mem_cons.1 hx' with rfl | hx'
      · omega
      · exact hx x hx'
    · simp! only [hm, e, ih]
theorem t_flow {p : W} (hp : Deck p) (m : Nat) (hm : m ≤ 1000) : ∃ (xs : List Int) (p' : W), Deck p' ∧ xs.length = m ∧ (∀ x ∈ xs, x.natAbs ≤ 1000) ∧ r_law_flow [p, .c (.int m)] = .ok (.c (tupI xs)) [p'] := by
  obtain ⟨d, hd, p1, hp1, e1⟩ := t_pick hp [.int 1, .int 3, .int 9, .int 1000] (by simp) (by simp)
  obtain ⟨T, rfl, hT⟩ : ∃ T : Nat, d = .int T ∧ T ≤ 1000 := by
    simp only [List.mem_cons, List.not_mem_nil, or_false] at hd
    rcases hd with rfl | rfl | rfl | rfl
    · exact ⟨1, rfl, by decide⟩
    · exact ⟨3, rfl, by decide⟩
    · exact ⟨9, rfl, by decide⟩
    · exact ⟨1000, rfl, by decide⟩
  obtain ⟨xs, p', hp', hl, hx, e2⟩ := flow_lc (some (.c (.int m))) T hT ((VG.upTo m).map .int) p1 hp1
  rw [List.length_map, upTo_len] at hl
  have hrg : rng1 [.c (.int m)] = some ((VG.upTo m).map .int) := rng1_s m (by omega)
  have hz : ((VG.upTo m).map PyData.int).length ≤ sizeLine := by rw [List.length_map, upTo_len]; exact small_line hm
  have ht := tuple_ints xs
  refine ⟨xs, p', hp', hl, hx, ?_⟩
  unfold r_law_flow g_law_flow tupI
  simp! only [e1, hrg, hz, e2, ht]
/-! ### a flow with something put otherwise -/
theorem lab_small {ps : List Int} {B : Nat} (h : ∀ x ∈ ps, x.natAbs < B) (hB : 0 < B) (v : Int) : (lab ps v).natAbs < B := by
  unfold lab
  rw [List.getD_eq_getElem?_getD]
  cases e : ps[v.toNat]? with
  | none => exact hB
  | some x => exact h x (List.mem_of_getElem? e)
theorem ne_tints (xs ys : List Int) : neF2 (.c (tupI xs)) (.c (tupI ys)) = some (!decide (xs = ys)) := by
  unfold neF2
  rw [eq_tints]
  rfl
theorem ne_nil (xs : List Int) : neF2 (.c (tupI xs)) (.c (.tuple [])) = some (!decide (xs = [])) := ne_tints xs []
noncomputable def bentAt : VL.Env → R W := (frzE (ifE (tst (prim (PB neF2) [(.bor 1), (.val (prim tupF []))])) (callE (r_law_draw) [(.bor 0), (.val (frzE (prim (P1 lenF) [(.bor 1)])))]) (kc (.int 0))))
noncomputable def bentLast : VL.Env → R W := (frzE (ifE (tst (prim (PB neF2) [(.bor 1), (.val (prim tupF []))])) (prim (P2 addF2) [(.val (prim (P2 ixF2) [(.bor 1), (.bor 3)])), (.val (kc (.int 1)))]) (kc (.int 0))))
theorem bent_at {p : W} (hp : Deck p) (xs : List Int) (hl : xs.length ≤ 100) (x2 x3 x4 : Option W) : ∃ (k : Nat) (p' : W), Deck p' ∧ (xs = [] ∧ k = 0 ∨ k < xs.length) ∧ bentAt [some p, some (.c (tupI xs)), x2, x3, x4] = .ok (.c (.int k)) [some p', some (.c (tupI xs)), x2, x3, x4] := by
  by_cases h : xs = []
  · have hd : (!decide (xs = [])) = false := by simp [h]
    have hn := ne_nil xs
    rw [hd] at hn
    refine ⟨0, p, hp, .inl ⟨h, rfl⟩, ?_⟩
    unfold bentAt
    simp! only [hn]
  · have hd : (!decide (xs = [])) = true := by simp [h]
    have hn := ne_nil xs
    rw [hd] at hn
    have h0 : 0 < xs.length := List.length_pos_iff.2 h
    obtain ⟨r, p1, hr0, hr1, hp1, e⟩ := t_draw (m := (xs.length : Nat)) hp (by omega) (by omega)
    obtain ⟨k, rfl⟩ : ∃ k : Nat, r = k := ⟨r.toNat, by omega⟩
    have hll : (xs.map PyData.int).length = xs.length := List.length_map _
    refine ⟨k, p1, hp1, .inr (by omega), ?_⟩
    unfold tupI at *
    unfold bentAt
    simp! only [hn, hll, e]
theorem bent_last (p : W) (xs : List Int) (hx : ∀ x ∈ xs, x.natAbs ≤ 1000) (k : Nat) (hk : xs = [] ∧ k = 0 ∨ k < xs.length) (x2 x4 : Option W) : ∃ y : Int, y.natAbs < 2 ^ 64 ∧ bentLast [some p, some (.c (tupI xs)), x2, some (.c (.int k)), x4] = .ok (.c (.int y)) [some p, some (.c (tupI xs)), x2, some (.c (.int k)), x4] := by
  by_cases h : xs = []
  · have hd : (!decide (xs = [])) = false := by simp [h]
    have hn := ne_nil xs
    rw [hd] at hn
    refine ⟨0, by decide, ?_⟩
    unfold bentLast
    simp! only [hn]
  · have hd : (!decide (xs = [])) = true := by simp [h]
    have hn := ne_nil xs
    rw [hd] at hn
    rcases hk with ⟨h', _⟩ | hk
    · exact absurd h' h
    · have ha := at_lab (L := xs) (x := (k : Int)) (by omega) (by omega)
      have hs : (lab xs (k : Int)).natAbs < 1001 := lab_small (fun x hx' => by have := hx x hx'; omega) (by decide) _
      refine ⟨lab xs k + 1, by omega, ?_⟩
      unfold tupI at *
      unfold bentLast
      simp! only [hn, ha]
theorem list_t (ds : List PyData) : listF (.c (.tuple ds)) = some (.l (ds.map .c)) := rfl
theorem t_bent {p : W} (hp : Deck p) (xs : List Int) (hl : xs.length ≤ 100) (hx : ∀ x ∈ xs, x.natAbs ≤ 1000) : ∃ (w : W) (d : PyData) (p' : W), Deck p' ∧ fz w = some d ∧ Ok 5 1100 d ∧ r_law_bent [p, .c (tupI xs)] = .ok w [p'] := by
  obtain ⟨k, p1, hp1, hk, e1⟩ := bent_at hp xs hl none none none
  obtain ⟨r, p2, hr0, hr1, hp2, e2⟩ := t_draw (m := 6) hp1 (by decide) (by decide)
  have hO : OkAll 4 100 (xs.map PyData.int) := (oka_of (k := 4) (m := 0) (ds := xs.map PyData.int) fun d hd => by
    obtain ⟨x, hx', rfl⟩ := List.mem_map.1 hd
    exact ok_int x (by have := hx x hx'; omega)).mono (Nat.le_refl _) (by rw [List.length_map]; omega)
  have k1 : (k : Int) + 1 = ((k + 1 : Nat) : Int) := rfl
  have s1 := sl01_t (ds := xs.map .int) (k := k)
  have s2 := sl10_t (ds := xs.map .int) (k := k + 1)
  have l1 : ((xs.map PyData.int).take k).length ≤ 100 := by rw [List.length_take, List.length_map]; omega
  have l2 : ((xs.map PyData.int).drop (k + 1)).length ≤ 100 := by rw [List.length_drop, List.length_map]; omega
  have z1 : ((xs.map PyData.int).take k).length + ((xs.map PyData.int).drop (k + 1)).length ≤ sizeLine := small_line (by omega)
  have z2' : (xs.map PyData.int).length + 1 ≤ sizeLine := small_line (by rw [List.length_map]; omega)
  have z3 : ((xs.map PyData.int).take k).length + 1 ≤ sizeLine := small_line (by omega)
  have e1' := e1
  unfold bentAt at e1'
  have law : g_law_bent = (seqS (par2S 3 4 [.val bentAt, .val (frzE (callE (r_law_draw) [(.bor 0), (.val (kc (.int 6)))]))]) (seqS (ifS (tst (prim (PB eqF2) [(.bor 4), (.val (kc (.int 0)))])) (retS (prim (P2 addF2) [(.val (prim sl01 [(.bor 1), .val (var 3)])), (.val (prim sl10 [(.bor 1), .val (prim (P2 addF2) [(.bor 3), (.val (kc (.int 1)))])]))])) skipS) (seqS (ifS (tst (prim (PB eqF2) [(.bor 4), (.val (kc (.int 1)))])) (retS (prim (P2 addF2) [(.bor 1), (.val (prim tupF [(.val (kc (.int 0)))]))])) skipS) (seqS (ifS (tst (prim (PB eqF2) [(.bor 4), (.val (kc (.int 2)))])) (retS (prim (P1 listF) [(.bor 1)])) skipS) (seqS (asgS 2 (prim lstF [(.val (kc (.bool true))), (.val (kc .none)), (.val (kc (.str "1"))), (.val (kc (.int 1001))), (.val (prim (P1 negF) [(.val (kc (.int 1001)))])), (.val (kc (.int 1000))), (.val (prim (P1 negF) [(.val (kc (.int 1000)))])), (.val (prim tupF [(.val (kc (.int 1)))])), (.val (frzE (prim (P2 powF2) [(.val (kc (.int 10))), (.val (kc (.int 50)))]))), (.val (frzE (callE (r_law_any 6) [(.bor 0), (.val (kc (.int 2)))])))])) (seqS (dropS (mutE appM 2 [(.val bentLast)])) (retS (prim (P2 addF2) [(.val (prim (P2 addF2) [(.val (prim sl01 [(.bor 1), .val (var 3)])), (.val (prim tupF [(.val (frzE (callE (r_law_pick) [(.bor 0), (.val (var 2))])))]))])), (.val (prim sl10 [(.bor 1), .val (prim (P2 addF2) [(.bor 3), (.val (kc (.int 1)))])]))])))))))) := rfl
  by_cases h0 : r = 0
  · have d0 := decide_eq_true h0
    refine ⟨.c (.tuple ((xs.map PyData.int).take k ++ (xs.map PyData.int).drop (k + 1))), _, p2, hp2, rfl, ((hO.take k).append (hO.drop (k + 1))).tuple.mono (Nat.le_refl _) (by decide), ?_⟩
    unfold r_law_bent
    rw [law]
    unfold tupI at *
    simp! only [e1, e2, d0, s1, k1, s2, z1]
  have d0 := decide_eq_false h0
  by_cases h1 : r = 1
  · have d1 := decide_eq_true h1
    refine ⟨.c (.tuple (xs.map PyData.int ++ [.int 0])), _, p2, hp2, rfl, (hO.append (oka_cons (n := 0) (ok_int 0 (by decide)) (oka_nil (n := 0)) (Nat.le_refl _))).tuple.mono (Nat.le_refl _) (by decide), ?_⟩
    unfold r_law_bent
    rw [law]
    unfold tupI at *
    simp! only [e1, e2, d0, d1, z2']
  have d1 := decide_eq_false h1
  by_cases h2 : r = 2
  · have d2 := decide_eq_true h2
    refine ⟨.l ((xs.map PyData.int).map .c), .list (xs.map .int), p2, hp2, by simp only [fz, fz_colds, Option.map_some], hO.list.mono (Nat.le_refl _) (by decide), ?_⟩
    unfold r_law_bent
    rw [law]
    unfold tupI at *
    simp! only [e1, e2, d0, d1, d2, list_t]
  have d2 := decide_eq_false h2
  obtain ⟨v, p3, hp3, hv, e3⟩ := t_any 2 (by decide) hp2
  have e3 : r_law_any 6 [p2, .c (.int 2)] = .ok (.c v) [p3] := e3
  obtain ⟨B, hB, hpow⟩ := pow50
  obtain ⟨y, hy, e4⟩ := bent_last p3 xs hx k hk (some (.l [.c (.bool true), .c .none, .c (.str "1"), .c (.int 1001), .c (.int (-1001)), .c (.int 1000), .c (.int (-1000)), .c (.tuple [.int 1]), .c (.int B), .c v])) (some (.c (.int r)))
  obtain ⟨u, hu, p4, hp4, e5⟩ := t_pick hp3 [.bool true, .none, .str "1", .int 1001, .int (-1001), .int 1000, .int (-1000), .tuple [.int 1], .int B, v, .int y] (by simp) (by simp)
  have ho : Ok 4 64 u := by
    simp only [List.mem_cons, List.not_mem_nil, or_false] at hu
    rcases hu with rfl | rfl | rfl | rfl | rfl | rfl | rfl | rfl | rfl | rfl | rfl
    · exact ok_bool _
    · exact ok_none
    · exact (ok_b (k := 0) (n := 4) (by decide +kernel)).mono (Nat.zero_le _) (by decide)
    · exact ok_int _ (by decide)
    · exact ok_int _ (by decide)
    · exact ok_int _ (by decide)
    · exact ok_int _ (by decide)
    · exact (oka_cons (k := 0) (n := 0) (n' := 1) (ok_int 1 (by decide)) (oka_nil (n := 0)) (Nat.le_refl _)).tuple.mono (by decide) (by decide)
    · exact ok_big B hB
    · exact hv.mono (by decide) (by decide)
    · exact ok_int y hy
  have z4 : ((xs.map PyData.int).take k ++ [u]).length + ((xs.map PyData.int).drop (k + 1)).length ≤ sizeLine := small_line (by rw [List.length_append, List.length_singleton]; omega)
  refine ⟨.c (.tuple ((xs.map PyData.int).take k ++ [u] ++ (xs.map PyData.int).drop (k + 1))), _, p4, hp4, rfl, (((hO.take k).append (oka_cons (n := 64) ho (oka_nil (n := 0)) (Nat.le_refl _))).append (hO.drop (k + 1))).tuple.mono (Nat.le_refl _) (by decide), ?_⟩
  unfold r_law_bent
  rw [law]
  unfold tupI at *
  simp! only [e1, e2, d0, d1, d2, hpow, e3, e4, e5, s1, k1, s2, z3, z4]
/-! ### a town: its loops -/
noncomputable def namedB : VL.Env → RS := (seqS (asgS 12 (frzE (callE (r_law_told) [(.val (var 1)), (.val (var 2)), (.val (var 8))]))) (ifS (orT (tst (prim (PB isntF2) [(.val (callE (r_law_for_due) [(.val (var 1)), (.val (var 2)), (.val (var 12))])), (.val (kc .none))])) (tst (prim (PB isntF2) [(.val (callE (r_flow_for_error) [(.val (var 1)), (.val (var 2)), (.val (var 12))])), (.val (kc .none))]))) (retS (kc (.bool false))) skipS))
noncomputable def valB : VL.Env → RS := (seqS (asgS 11 (frzE (prim (P1 tupleF) [(.val (lcE [16] (seqI (var 2)) (tgN 16) yesT (prim (P2 max2F) [(.val (prim (P1 negF) [(.val (kc (.int 1000)))])), (.val (prim (P2 min2F) [(.val (kc (.int 1000))), (.bor 16)]))])))]))) (seqS (par2S 13 14 [.val (frzE (prim lstF [(.val (frzE (callE (r_law_flow_due) [(.val (var 1)), (.val (var 10))]))), (.val (frzE (callE (r_law_for_due) [(.val (var 1)), (.val (var 11)), (.val (var 10))])))])), .val (prim (P1 reprF) [(.bor 10)])]) (seqS (asgS 3 (frzE (prim lstF [(.val (frzE (callE (r_flow_error) [(.val (var 1)), (.val (var 10))]))), (.val (frzE (callE (r_flow_for_error) [(.val (var 1)), (.val (var 11)), (.val (var 10))])))]))) (seqS (ifS (tst (prim (PB eqF2) [(.bor 9), (.val (kc (.int 1)))])) (asgS 3 (frzE (prim lstF [(.val (frzE (kwE (r_flow_error) [1, 0] [(.val (var 10)), (.val (var 1))]))), (.val (frzE (kwE (r_flow_for_error) [2, 1, 0] [(.val (var 10)), (.val (var 11)), (.val (var 1))])))]))) skipS) (ifS (orT (tst (prim (PB neS2) [(.val (prim (P1 reprF) [(.bor 3)])), (.val (prim (P1 reprF) [(.bor 13)]))])) (tst (prim (PB neS2) [(.val (prim (P1 reprF) [(.bor 10)])), (.bor 14)]))) (retS (kc (.bool false))) skipS)))))
theorem town_eq : g_law_is_town_right = (seqS (par2S 4 5 [.val (prim (P1 lenF) [(.val (prim (P2 ixF2) [(.bor 1), (.val (kc (.int 1)))]))]), .val (prim (P1 reprF) [(.bor 1)])]) (seqS (par2S 6 7 [.val (frzE (callE (r_law_flow) [(.bor 0), (.val (var 4))])), .val (frzE (prim (P1 tupleF) [(.val (lcE [15] (rngI rng1 [(.val (frzE (prim (P2 ixF2) [(.bor 1), (.val (kc (.int 0)))])))]) (tgN 15) yesT (prim (P2 subF2) [(.val (callE (r_law_draw) [(.bor 0), (.val (kc (.int 2001)))])), (.val (kc (.int 1000)))])))]))]) (seqS (asgS 2 (frzE (callE (r_law_ends) [(.val (var 1)), (.val (var 6))]))) (seqS (asgS 3 (frzE (prim lstF [(.val (frzE (callE (r_ends) [(.val (var 1)), (.val (var 6))]))), (.val (frzE (kwE (r_ends) [1, 0] [(.val (var 6)), (.val (var 1))]))), (.val (frzE (callE (r_cut_flow) [(.val (var 1)), (.val (var 7))]))), (.val (frzE (kwE (r_cut_flow) [1, 0] [(.val (var 7)), (.val (var 1))])))]))) (seqS (ifS (tst (prim (PB neS2) [(.val (prim (P1 reprF) [(.bor 3)])), (.val (prim (P1 reprF) [(.val (prim lstF [(.val (var 2)), (.val (var 2)), (.val (frzE (callE (r_law_cut) [(.val (var 1)), (.val (var 7))]))), (.val (frzE (callE (r_law_cut) [(.val (var 1)), (.val (var 7))])))]))]))])) (retS (kc (.bool false))) skipS) (seqS (ifS (tst (prim (PB leF2) [(.val (walkE maxG (lcE [16] (seqI (var 2)) (tgN 16) yesT (prim (P1 absF) [(.bor 16)])))), (.val (kc (.int 1000)))])) (forS (seqI (prim tupF [(.val (kc (.bool false))), (.val (kc (.bool true)))])) (tgN 8) namedB) skipS) (seqS (ifS (tst (prim (PB neF2) [(.val (callE (r_law_told) [(.val (var 1)), (.val (frzE (prim (P2 addF2) [(.val (prim tupF [(.val (kc (.int 1)))])), (.val (prim (P2 mulF2) [(.val (prim tupF [(.val (kc (.int 0)))])), (.val (prim (P2 subF2) [(.val (prim (P2 ixF2) [(.bor 1), (.val (kc (.int 0)))])), (.val (kc (.int 1)))]))]))]))), (.val (kc (.bool false)))])), (.val (kc (.str "unfit")))])) (retS (kc (.bool false))) skipS) (seqS (forS (rngI en1 [.val (frzE (prim lstF [(.val (var 6)), (.val (frzE (callE (r_law_bent) [(.bor 0), (.val (var 6))]))), (.val (frzE (callE (r_law_bent) [(.bor 0), (.val (var 6))]))), (.val (frzE (callE (r_law_any 6) [(.bor 0), (.val (kc (.int 4)))]))), (.val (prim tupF []))]))]) (tgT 2 (tgsC (tgN 9) (tgsC (tgN 10) tgsN))) valB) (retS (prim (PB eqS2) [(.val (prim (P1 reprF) [(.bor 1)])), (.bor 5)])))))))))) := rfl
section
variable (x0 x1 x2 x3 x4 x5 x6 x7 x8 x9 x10 x11 x12 x13 x14 x15 x16 : Option W)
theorem script_lc : ∀ (ds : List PyData) (p : W), Deck p → ∃ (xs : List Int) (p' : W), Deck p' ∧ xs.length = ds.length ∧ (∀ x ∈ xs, x.natAbs ≤ 1000) ∧
    lcLoop [15] (tgN 15) yesT (prim (P2 subF2) [(.val (callE (r_law_draw) [(.bor 0), (.val (kc (.int 2001)))])), (.val (kc (.int 1000)))]) ds [some p, x1, x2, x3, x4, x5, x6, x7, x8, x9, x10, x11, x12, x13, x14, none, x16] = .ok (xs.map .int) [some p', x1, x2, x3, x4, x5, x6, x7, x8, x9, x10, x11, x12, x13, x14, none, x16]
  | [], p, hp => ⟨[], p, hp, rfl, by simp, rfl⟩
  | d :: ds, p, hp => by
    obtain ⟨r, p1, h0, h1, hp1, e⟩ := t_draw (m := 2001) hp (by decide) (by decide)
    obtain ⟨xs, p', hp', hl, hx, ih⟩ := script_lc ds p1 hp1
    refine ⟨(r - 1000) :: xs, p', hp', by simp [hl], fun x hx' => ?_, ?_⟩
    · rcases List.mem_cons.1 hx' with rfl | hx'
      · omega
      · exact hx x hx'
    · simp! only [e, ih]
def absL (xs : List Int) : List Int := xs.map fun i => if i < 0 then -i else i
theorem abs_lc : ∀ xs : List Int, lcLoop [16] (tgN 16) yesT (prim (P1 absF) [(.bor 16)]) (xs.map .int) [x0, x1, x2, x3, x4, x5, x6, x7, x8, x9, x10, x11, x12, x13, x14, x15, none] = .ok ((absL xs).map .int) [x0, x1, x2, x3, x4, x5, x6, x7, x8, x9, x10, x11, x12, x13, x14, x15, none]
  | [] => rfl
  | x :: xs => by
    have ih := abs_lc xs
    unfold absL at *
    rw [List.map_cons, List.map_cons, List.map_cons]
    simp! only [abs_i, ih]
def clip (i : Int) : Int := if (if i < 1000 then i else 1000) > -1000 then (if i < 1000 then i else 1000) else -1000
theorem clip_lc : ∀ xs : List Int, lcLoop [16] (tgN 16) yesT (prim (P2 max2F) [(.val (prim (P1 negF) [(.val (kc (.int 1000)))])), (.val (prim (P2 min2F) [(.val (kc (.int 1000))), (.bor 16)]))]) (xs.map .int) [x0, x1, x2, x3, x4, x5, x6, x7, x8, x9, x10, x11, x12, x13, x14, x15, none] = .ok ((xs.map clip).map .int) [x0, x1, x2, x3, x4, x5, x6, x7, x8, x9, x10, x11, x12, x13, x14, x15, none]
  | [] => rfl
  | x :: xs => by
    have ih := clip_lc xs
    rw [List.map_cons, List.map_cons, List.map_cons]
    unfold clip at *
    simp! only [min2_i, max2_i, ih]
end
theorem max_ints (xs : List Int) (h : xs ≠ []) : ∃ M : Int, maxG (xs.map .int) = some (.int M) := by
  unfold maxG
  rw [intsD_i]
  cases xs with
  | nil => exact absurd rfl h
  | cons x xs => exact ⟨_, rfl⟩
theorem named_s {n : Nat} {rs : List Rd} (ok : TownOk n rs) {f ps : List Int} (hps : ps.length = n) (h0 : ps.sum = 0) (hf : OnTree rs n f ps) (b : Bool) (x0 x3 x4 x5 x6 x7 x9 x10 x11 x12 x13 x14 x15 x16 : Option W) :
    namedB [x0, some (.c (townD n rs)), some (.c (tupI ps)), x3, x4, x5, x6, x7, some (.c (.bool b)), x9, x10, x11, x12, x13, x14, x15, x16] = .nx [x0, some (.c (townD n rs)), some (.c (tupI ps)), x3, x4, x5, x6, x7, some (.c (.bool b)), x9, x10, x11, some (.c (tupI f)), x13, x14, x15, x16] := by
  have e1 := told_ok ok hps h0 hf b
  have hd : forDue n rs ps (tupI f) = .none := by
    unfold forDue tupI
    show (if (f.map PyData.int).length = rs.length then _ else _) = _
    rw [if_pos (by rw [List.length_map]; exact hf.len), isI_ints]
    show (if endsL n rs f = ps then _ else _) = _
    rw [if_pos (on_tree_ends hps hf)]
  have e2 := t_for_due ok ps (tupI f)
  have e3 := t_for_error ok ps (tupI f)
  rw [hd] at e2 e3
  unfold namedB
  simp! only [e1, e2, e3]
theorem bad_lt : ∀ (ds : List PyData) (j k : Nat), badAt j ds = some k → k < j + ds.length
  | [], _, _, h => by cases h
  | d :: ds, j, k, h => by
    unfold badAt at h
    rw [List.length_cons]
    split at h
    · have := bad_lt ds (j + 1) k h
      omega
    · simp only [Option.some.injEq] at h
      omega
theorem ok_flowDue (m : Nat) (hm : m ≤ 1000) (d : PyData) : Ok 2 10 (flowDue m d) := by
  have hs : Ok 2 10 (.str "form") := (ok_b (k := 0) (n := 4) (by decide +kernel)).mono (Nat.zero_le _) (by decide)
  unfold flowDue
  cases d with
  | tuple ds =>
    show Ok 2 10 (if ds.length = m then _ else _)
    by_cases hl : ds.length = m
    · rw [if_pos hl]
      cases hb : badAt 0 ds with
      | none => exact ok_none
      | some k =>
        have := bad_lt ds 0 k hb
        have h1 : Ok 0 4 (.str "road") := ok_b (by decide +kernel)
        exact (oka_cons (n' := 10) h1 (oka_cons (n := 0) (ok_int (k : Int) (by omega)) (oka_nil (n := 0)) (Nat.le_refl _)) (by decide)).tuple.mono (by decide) (Nat.le_refl _)
    · rw [if_neg hl]; exact hs
  | _ => exact hs
theorem ok_forDue (n : Nat) (rs : List Rd) (ps : List Int) (d : PyData) : Ok 2 10 (forDue n rs ps d) := by
  have hs : Ok 2 10 (.str "form") := (ok_b (k := 0) (n := 4) (by decide +kernel)).mono (Nat.zero_le _) (by decide)
  have hs2 : Ok 2 10 (.str "ends") := (ok_b (k := 0) (n := 4) (by decide +kernel)).mono (Nat.zero_le _) (by decide)
  unfold forDue
  cases d with
  | tuple ds =>
    show Ok 2 10 (if ds.length = rs.length then _ else _)
    by_cases hl : ds.length = rs.length
    · rw [if_pos hl]
      cases hb : isI ds with
      | none => exact hs
      | some xs =>
        show Ok 2 10 (if endsL n rs xs = ps then _ else _)
        split
        · exact ok_none
        · exact hs2
    · rw [if_neg hl]; exact hs
  | _ => exact hs
theorem repr_2 {a b : PyData} (h : showOk (.list [a, b]) = true) : reprF (.c (.list [a, b])) = some (.c (.str (PyData.list [a, b]).shown)) := repr_c h
theorem val_s {n : Nat} {rs : List Rd} (ok : TownOk n rs) (hr : rs.length ≤ 100) (ps : List Int) (hps : ps.length ≤ 100) (k : Nat) (d : PyData) (hd : Ok 5 1100 d) (x0 x3 x4 x5 x6 x7 x8 x11 x12 x13 x14 x15 : Option W) : ∃ y3 y11 y13 y14 : Option W,
    valB [x0, some (.c (townD n rs)), some (.c (tupI ps)), x3, x4, x5, x6, x7, x8, some (.c (.int k)), some (.c d), x11, x12, x13, x14, x15, none] = .nx [x0, some (.c (townD n rs)), some (.c (tupI ps)), y3, x4, x5, x6, x7, x8, some (.c (.int k)), some (.c d), y11, x12, y13, y14, x15, none] := by
  have c1 := clip_lc x0 (some (.c (townD n rs))) (some (.c (tupI ps))) x3 x4 x5 x6 x7 x8 (some (.c (.int k))) (some (.c d)) x11 x12 x13 x14 x15 ps
  have hz : (ps.map PyData.int).length ≤ sizeLine := by rw [List.length_map]; exact small_line (by omega)
  have ht := tuple_ints (ps.map clip)
  have e1 := t_flow_due (n := n) (rs := rs) d
  have e2 := t_for_due ok (ps.map clip) d
  have e3 := t_flow_error (n := n) (rs := rs) d
  have e4 := t_for_error ok (ps.map clip) d
  have hq : showOk (.list [flowDue rs.length d, forDue n rs (ps.map clip) d]) = true :=
    (oka_cons (n' := 100) (ok_flowDue rs.length (by omega) d) (oka_cons (ok_forDue n rs (ps.map clip) d) (oka_nil (n := 0)) (Nat.le_refl _)) (by decide)).list.showOk (by decide) (by decide)
  have q1 := repr_c hq
  have q2 := repr_c (hd.showOk (by decide) (by decide))
  have hit : itemsOf (tupI ps) = some (ps.map .int) := rfl
  have htt : PyData.tuple ((ps.map clip).map .int) = tupI (ps.map clip) := rfl
  rw [htt] at ht
  by_cases hk : (k : Int) = 1
  · have dk := decide_eq_true hk
    refine ⟨some (.c (.list [flowDue rs.length d, forDue n rs (ps.map clip) d])), some (.c (tupI (ps.map clip))), some (.c (.list [flowDue rs.length d, forDue n rs (ps.map clip) d])), some (.c (.str d.shown)), ?_⟩
    unfold valB
    simp! only [hit, c1, hz, ht, e1, e2, e3, e4, q1, q2, dk, gd0, gd1, gd2, neS_same]
  · have dk := decide_eq_false hk
    refine ⟨some (.c (.list [flowDue rs.length d, forDue n rs (ps.map clip) d])), some (.c (tupI (ps.map clip))), some (.c (.list [flowDue rs.length d, forDue n rs (ps.map clip) d])), some (.c (.str d.shown)), ?_⟩
    unfold valB
    simp! only [hit, c1, hz, ht, e1, e2, e3, e4, q1, q2, dk, gd0, gd1, gd2, neS_same]
theorem val_lp {n : Nat} {rs : List Rd} (ok : TownOk n rs) (hr : rs.length ≤ 100) (ps : List Int) (hps : ps.length ≤ 100) (x0 x4 x5 x6 x7 x8 x12 x15 : Option W) : ∀ (ds : List PyData) (k : Nat) (x3 x9 x10 x11 x13 x14 : Option W), (∀ d ∈ ds, Ok 5 1100 d) → ∃ y3 y9 y10 y11 y13 y14 : Option W,
    loopS (tgT 2 (tgsC (tgN 9) (tgsC (tgN 10) tgsN))) valB (enP k ds) [x0, some (.c (townD n rs)), some (.c (tupI ps)), x3, x4, x5, x6, x7, x8, x9, x10, x11, x12, x13, x14, x15, none] = .nx [x0, some (.c (townD n rs)), some (.c (tupI ps)), y3, x4, x5, x6, x7, x8, y9, y10, y11, x12, y13, y14, x15, none]
  | [], k, x3, x9, x10, x11, x13, x14, _ => ⟨x3, x9, x10, x11, x13, x14, rfl⟩
  | d :: ds, k, x3, x9, x10, x11, x13, x14, h => by
    obtain ⟨y3, y11, y13, y14, e⟩ := val_s ok hr ps hps k d (h d (by simp)) x0 x3 x4 x5 x6 x7 x8 x11 x12 x13 x14 x15
    obtain ⟨z3, z9, z10, z11, z13, z14, ih⟩ := val_lp ok hr ps hps x0 x4 x5 x6 x7 x8 x12 x15 ds (k + 1) y3 (some (.c (.int k))) (some (.c d)) y11 y13 y14 fun d hd => h d (by simp [hd])
    refine ⟨z3, z9, z10, z11, z13, z14, ?_⟩
    rw [← ih]
    conv => lhs; unfold enP
    simp! only [e]
theorem named_lp {n : Nat} {rs : List Rd} (ok : TownOk n rs) {f ps : List Int} (hps : ps.length = n) (h0 : ps.sum = 0) (hf : OnTree rs n f ps) (x0 x3 x4 x5 x6 x7 x8 x9 x10 x11 x12 x13 x14 x15 x16 : Option W) :
    loopS (tgN 8) namedB [.bool false, .bool true] [x0, some (.c (townD n rs)), some (.c (tupI ps)), x3, x4, x5, x6, x7, x8, x9, x10, x11, x12, x13, x14, x15, x16] = .nx [x0, some (.c (townD n rs)), some (.c (tupI ps)), x3, x4, x5, x6, x7, some (.c (.bool true)), x9, x10, x11, some (.c (tupI f)), x13, x14, x15, x16] := by
  have e1 := named_s ok hps h0 hf false x0 x3 x4 x5 x6 x7 x9 x10 x11 x12 x13 x14 x15 x16
  have e2 := named_s ok hps h0 hf true x0 x3 x4 x5 x6 x7 x9 x10 x11 (some (.c (tupI f))) x13 x14 x15 x16
  simp! only [e1, e2]
theorem ends_small (B : Nat) (v : Int) : ∀ (rs : List Rd) (f : List Int), (∀ x ∈ f, x.natAbs ≤ B) → (endsAt rs f v).natAbs ≤ 2 * B * rs.length
  | [], f, _ => by cases f <;> exact Nat.zero_le _
  | (a, b) :: rs, [], _ => Nat.zero_le _
  | (a, b) :: rs, x :: f, h => by
    have ih := ends_small B v rs f fun y hy => h y (by simp [hy])
    have hx := h x (by simp)
    show ((if b = v then x else 0) - (if a = v then x else 0) + endsAt rs f v).natAbs ≤ 2 * B * (rs.length + 1)
    rw [Nat.mul_add, Nat.mul_one]
    split <;> split <;> omega
theorem eqS_same (x : Str) : eqS2 (.c (.str x)) (.c (.str x)) = some true := by
  show some (x == x) = some true
  simp
theorem ne_unfit : neF2 (.c (.str "unfit")) (.c (.str "unfit")) = some false := by
  rw [VL.nes "unfit" "unfit" (by decide +kernel) (by decide +kernel)]
  decide +kernel
theorem rep_zero (m : Nat) : PyData.tuple (List.replicate m [PyData.int 0]).flatten = tupI (List.replicate m (0 : Int)) := by
  unfold tupI
  congr 1
  induction m with
  | zero => rfl
  | succ m ih => rw [List.replicate_succ, List.replicate_succ, List.flatten_cons, ih]; rfl
theorem sum_rep0 : ∀ m : Nat, (List.replicate m (0 : Int)).sum = 0
  | 0 => rfl
  | m + 1 => by rw [List.replicate_succ, List.sum_cons, sum_rep0 m]; rfl
theorem town_s {p : W} (hp : Deck p) {n : Nat} {rs : List Rd} (ok : TownOk n rs) (hr : rs.length ≤ 100) (hn : n ≤ 100) : ∃ p', Deck p' ∧ r_law_is_town_right [p, .c (townD n rs)] = .ok (.c (.bool true)) [p'] := by
  have hpos := ok.pos
  have hlen : (rs.map rdD).length = rs.length := List.length_map _
  have hix0 : ixF2 (.c (townD n rs)) (.c (.int 0)) = some (.c (.int n)) := rfl
  have hix1 : ixF2 (.c (townD n rs)) (.c (.int 1)) = some (.c (.tuple (rs.map rdD))) := rfl
  have q1 := repr_c ((ok_town ok).showOk (by decide) (by decide))
  obtain ⟨f, p1, hp1, hfl, hf, e1⟩ := t_flow hp rs.length (by omega)
  have hrg : rng1 [.c (.int n)] = some ((VG.upTo n).map .int) := rng1_s n (by omega)
  have z1 : ((VG.upTo n).map PyData.int).length ≤ sizeLine := by rw [List.length_map, upTo_len]; exact small_line (by omega)
  obtain ⟨sc, p2, hp2, hsl, hs, e2⟩ := script_lc (some (.c (townD n rs))) none none (some (.c (.int (rs.length : Nat)))) (some (.c (.str (townD n rs).shown))) none none none none none none none none none none ((VG.upTo n).map .int) p1 hp1
  rw [List.length_map, upTo_len] at hsl
  have ht1 := tuple_ints sc
  have htt : ∀ xs : List Int, PyData.tuple (xs.map .int) = tupI xs := fun _ => rfl
  rw [htt] at ht1
  have e3 := t_law_ends ok f
  have e4 := t_ends ok f
  have e5 := t_cut ok sc hsl
  have e6 := t_law_cut ok sc hsl
  have hEl := ends_len n rs f
  have hEs : ∀ x ∈ endsL n rs f, x.natAbs < 2 ^ 64 := fun x hx => by
    unfold endsL at hx
    obtain ⟨v, _, rfl⟩ := List.mem_map.1 hx
    have h1 := ends_small 1000 v rs f hf
    have h2 : 2 * 1000 * rs.length ≤ 2 * 1000 * 100 := Nat.mul_le_mul_left _ hr
    omega
  have hE0 := ends_sum ok f
  have hcl : (cutL rs sc).length = rs.length := List.length_map _
  have hcs : ∀ x ∈ cutL rs sc, x.natAbs < 2 ^ 64 := fun x hx => by
    obtain ⟨r, _, rfl⟩ := List.mem_map.1 hx
    have h1 := lab_small (ps := sc) (B := 1001) (fun x hx => by have := hs x hx; omega) (by decide) r.1
    have h2 := lab_small (ps := sc) (B := 1001) (fun x hx => by have := hs x hx; omega) (by decide) r.2
    omega
  have o1 := ok_tup (m := 100) hEs (by omega)
  have o2 := ok_tup (m := 100) hcs (by omega)
  have ho : showOk (.list [tupI (endsL n rs f), tupI (endsL n rs f), tupI (cutL rs sc), tupI (cutL rs sc)]) = true :=
    (oka_cons (n' := 1000) o1 (oka_cons o1 (oka_cons o2 (oka_cons o2 (oka_nil (n := 0)) (Nat.le_refl _)) (Nat.le_refl _)) (Nat.le_refl _)) (by decide)).list.showOk (by decide) (by decide)
  have q2 := repr_c ho
  have q3 : reprF (.l [.c (tupI (endsL n rs f)), .c (tupI (endsL n rs f)), .c (tupI (cutL rs sc)), .c (tupI (cutL rs sc))]) = some (.c (.str (PyData.list [tupI (endsL n rs f), tupI (endsL n rs f), tupI (cutL rs sc), tupI (cutL rs sc)]).shown)) := by
    unfold reprF
    simp only [fz, fzAll, Option.map_some, ho, if_true]
  obtain ⟨t, ht⟩ := on_tree_ex ok hEl hE0
  have c1 := abs_lc (some p2) (some (.c (townD n rs))) (some (.c (tupI (endsL n rs f)))) (some (.c (.list [tupI (endsL n rs f), tupI (endsL n rs f), tupI (cutL rs sc), tupI (cutL rs sc)]))) (some (.c (.int (rs.length : Nat)))) (some (.c (.str (townD n rs).shown))) (some (.c (tupI f))) (some (.c (tupI sc))) none none none none none none none none (endsL n rs f)
  have z2' : ((endsL n rs f).map PyData.int).length ≤ sizeLine := by rw [List.length_map, hEl]; exact small_line (by omega)
  obtain ⟨M, hM⟩ := max_ints (absL (endsL n rs f)) (by
    intro h
    have := congrArg List.length h
    unfold absL at this
    rw [List.length_map, hEl] at this
    simp at this
    omega)
  have hit : itemsOf (tupI (endsL n rs f)) = some ((endsL n rs f).map .int) := rfl
  have hm := mul_t (ds := [.int 0]) ((n - 1 : Nat) : Int) (by omega) (by omega) (by simp)
  rw [Int.toNat_natCast] at hm
  have hm' : mulF2 (.c (.tuple [.int 0])) (.c (.int ((n : Int) - 1))) = some (.c (.tuple (List.replicate (n - 1) [PyData.int 0]).flatten)) := by
    have hn1 : (n : Int) - 1 = ((n - 1 : Nat) : Int) := by omega
    rw [hn1]
    exact hm
  have hadd : addF2 (.c (.tuple [.int 1])) (.c (.tuple (List.replicate (n - 1) [PyData.int 0]).flatten)) = some (.c (tupI (1 :: List.replicate (n - 1) 0))) := by
    have hr0 := rep_zero (n - 1)
    rw [hr0]
    unfold tupI
    rw [r_addt _ _ (small_line (by simp; omega))]
    rfl
  have e7 := told_x (n := n) (rs := rs) (ps := 1 :: List.replicate (n - 1) 0) (by rw [List.sum_cons, sum_rep0]; decide) false
  obtain ⟨w1, v1, p3, hp3, hw1, hv1, e8⟩ := t_bent hp2 f (by omega) hf
  obtain ⟨w2, v2, p4, hp4, hw2, hv2, e9⟩ := t_bent hp3 f (by omega) hf
  obtain ⟨v3, p5, hp5, hv3, e10⟩ := t_any 4 (by decide) hp4
  have e10 : r_law_any 6 [p4, .c (.int 4)] = .ok (.c v3) [p5] := e10
  have hO1 : Ok 5 1100 (tupI f) := (ok_tup (m := 100) (fun x hx => by have := hf x hx; omega) (by omega)).mono (by decide) (by decide)
  have hall : ∀ d ∈ [tupI f, v1, v2, v3, .tuple []], Ok 5 1100 d := by
    intro d hd
    simp only [List.mem_cons, List.not_mem_nil, or_false] at hd
    rcases hd with rfl | rfl | rfl | rfl | rfl
    · exact hO1
    · exact hv1
    · exact hv2
    · exact hv3.mono (by decide) (by decide)
    · exact (ok_b (k := 1) (n := 0) (by decide +kernel)).mono (by decide) (by decide)
  have hen := en_l [tupI f, v1, v2, v3, .tuple []]
  refine ⟨p5, hp5, ?_⟩
  unfold r_law_is_town_right
  rw [town_eq]
  by_cases hMl : M ≤ 1000
  · have dM := decide_eq_true hMl
    have hnl := named_lp ok hEl hE0 ht (some p2) (some (.c (.list [tupI (endsL n rs f), tupI (endsL n rs f), tupI (cutL rs sc), tupI (cutL rs sc)]))) (some (.c (.int (rs.length : Nat)))) (some (.c (.str (townD n rs).shown))) (some (.c (tupI f))) (some (.c (tupI sc))) none none none none none none none none none
    obtain ⟨y3, y9, y10, y11, y13, y14, el⟩ := val_lp ok hr (endsL n rs f) (by omega) (some p5) (some (.c (.int (rs.length : Nat)))) (some (.c (.str (townD n rs).shown))) (some (.c (tupI f))) (some (.c (tupI sc))) (some (.c (.bool true))) (some (.c (tupI t))) none [tupI f, v1, v2, v3, .tuple []] 0 (some (.c (.list [tupI (endsL n rs f), tupI (endsL n rs f), tupI (cutL rs sc), tupI (cutL rs sc)]))) none none none none none hall
    simp! only [hix1, hlen, q1, e1, hix0, hrg, z1, e2, ht1, e3, e4, gd0, gd1, e5, e6, q2, q3, neS_same, hit, c1, z2', hM, dM, hnl, hm', hadd, e7, ne_unfit, e8, hw1, e9, hw2, e10, hen, el, eqS_same]
  · have dM := decide_eq_false hMl
    obtain ⟨y3, y9, y10, y11, y13, y14, el⟩ := val_lp ok hr (endsL n rs f) (by omega) (some p5) (some (.c (.int (rs.length : Nat)))) (some (.c (.str (townD n rs).shown))) (some (.c (tupI f))) (some (.c (tupI sc))) none none none [tupI f, v1, v2, v3, .tuple []] 0 (some (.c (.list [tupI (endsL n rs f), tupI (endsL n rs f), tupI (cutL rs sc), tupI (cutL rs sc)]))) none none none none none hall
    simp! only [hix1, hlen, q1, e1, hix0, hrg, z1, e2, ht1, e3, e4, gd0, gd1, e5, e6, q2, q3, neS_same, hit, c1, z2', hM, dM, hm', hadd, e7, ne_unfit, e8, hw1, e9, hw2, e10, hen, el, eqS_same]
noncomputable def turnB : VL.Env → RS := (ifS (notT (tst (callE (r_law_is_town_right) [(.bor 1), (.val (frzE (callE (r_law_town) [(.bor 1), (.val (frzE (callE (r_law_pick) [(.bor 1), (.val (frzE (prim lstF [(.val (kc (.int 8))), (.val (kc (.int 4))), (.val (kc (.int 2)))])))]))), (.val (kc (.int 6)))])))]))) (retS (kc (.bool false))) skipS)
theorem law_eq : g_law = (seqS (asgS 1 (callE (r_law_deck) [(.val (mov 0))])) (seqS (forS (rngI rng1 [(.val (kc (.int 3)))]) (tgN 2) turnB) (retS (kc (.bool true))))) := rfl
theorem turn_s {p : W} (hp : Deck p) (s t : Option W) : ∃ p', Deck p' ∧ turnB [s, some p, t] = .nx [s, some p', t] := by
  obtain ⟨d, hd, p1, hp1, e1⟩ := t_pick hp [.int 8, .int 4, .int 2] (by simp) (by simp)
  obtain ⟨most, rfl, hm1, hm2⟩ : ∃ m : Nat, d = .int m ∧ 1 ≤ m ∧ m ≤ 8 := by
    simp only [List.mem_cons, List.not_mem_nil, or_false] at hd
    rcases hd with rfl | rfl | rfl
    · exact ⟨8, rfl, by decide, by decide⟩
    · exact ⟨4, rfl, by decide, by decide⟩
    · exact ⟨2, rfl, by decide, by decide⟩
  obtain ⟨n, rs, p2, hp2, hn, hr, ok, e2⟩ := t_town hp1 most hm1 (by omega) 6 (by decide)
  have e2' : r_law_town [p1, .c (.int (most : Int)), .c (.int 6)] = .ok (.c (townD n rs)) [p2] := e2
  obtain ⟨p3, hp3, e3⟩ := town_s hp2 ok (by omega) (by omega)
  refine ⟨p3, hp3, ?_⟩
  unfold turnB
  simp! only [e1, e2', e3]
theorem plain (ns : List Int) (hl : ns.length ≤ 63) : ∃ us, r_law [.ks true (ns.map .int)] = .ok (.c (.bool true)) us := by
  obtain ⟨p0, hp0, e0⟩ := t_deck ns hl
  have hr3 : rng1 [.c (.int 3)] = some ([.int 0, .int 1, .int 2] : List PyData) := rng1_s 3 (by decide)
  obtain ⟨p1, hp1, e1⟩ := turn_s hp0 none (some (.c (.int 0)))
  obtain ⟨p2, hp2, e2⟩ := turn_s hp1 none (some (.c (.int 1)))
  obtain ⟨p3, hp3, e3⟩ := turn_s hp2 none (some (.c (.int 2)))
  refine ⟨[], ?_⟩
  unfold r_law
  rw [law_eq]
  simp! only [e0, hr3, e1, e2, e3]
end K79
open PySem PySem.W PyProof.Rows
set_option maxHeartbeats 0 in
theorem PySem.Challenge.cw_roadloans_k79_whole_flows_holds : PySem.Challenge.rw_roadloans_k79_whole_flows.Holds := by
  w_on; o_law; k_head; (case hw => w_witness2)
  k_fill
  refine VL.walk_G (l := PySem.Challenge.rw_roadloans_k79_whole_flows) (n := 63) (k := 11) (x := "script") (g := K79.r_law) rfl (by decide) rfl ⟨rfl, by decide, by decide⟩ (fun w h Y => PySem.W.kIn_of Y) ?F K79.plain
  case F =>
    intro w mg fa h KX G hmg
    refine' K79.all_mk KX G hmg ?a_is_number ?l_is_number ?c_is_number ?k_is_number ?a_is_within ?l_is_within ?c_is_within ?k_is_within ?a_reached ?l_reached ?c_reached ?k_reached ?a_money ?l_money ?c_money ?k_money ?a_is_row ?l_is_row ?c_is_row ?k_is_row ?a_flow_error ?l_flow_error ?c_flow_error ?k_flow_error ?a_ends ?l_ends ?c_ends ?k_ends ?a_cut_flow ?l_cut_flow ?c_cut_flow ?k_cut_flow ?a_tree_places ?l_tree_places ?c_tree_places ?k_tree_places ?a_flow_for ?l_flow_for ?c_flow_for ?k_flow_for ?a_flow_for_error ?l_flow_for_error ?c_flow_for_error ?k_flow_for_error ?a__law_deck ?l_law_deck ?c_law_deck ?k_law_deck ?a__law_draw ?l_law_draw ?c_law_draw ?k_law_draw ?a__law_pick ?l_law_pick ?c_law_pick ?k_law_pick ?a__law_any ?l_law_any ?c_law_any ?k_law_any ?a__law_town ?l_law_town ?c_law_town ?k_law_town ?a__law_ends ?l_law_ends ?c_law_ends ?k_law_ends ?a__law_cut ?l_law_cut ?c_law_cut ?k_law_cut ?a__law_flow ?l_law_flow ?c_law_flow ?k_law_flow ?a__law_flow_due ?l_law_flow_due ?c_law_flow_due ?k_law_flow_due ?a__law_for_due ?l_law_for_due ?c_law_for_due ?k_law_for_due ?a__law_bent ?l_law_bent ?c_law_bent ?k_law_bent ?a__law_told ?l_law_told ?c_law_told ?k_law_told ?a__law_is_town_right ?l_law_is_town_right ?c_law_is_town_right ?k_law_is_town_right ?a_law ?l_law ?c_law ?k_law ?z_abs ?z_all ?z_bool ?z_enumerate ?z_int ?z_isinstance ?z_len ?z_list ?z_max ?z_min ?z_range ?z_repr ?z_sorted ?z_sum ?z_tuple ?z_zip ?i_MAX_MONEY ?x_Unfit ?xk_Unfit ?xq_Unfit ?xs_Unfit ?xt_Unfit ?xc_Unfit ?xm_Unfit_Unfit
    (case a_is_number => k_is)
    (case l_is_number => k_is)
    (case c_is_number => k_is)
    (case k_is_number => k_is)
    (case a_is_within => k_is)
    (case l_is_within => k_is)
    (case c_is_within => k_is)
    (case k_is_within => k_is)
    (case a_reached => k_is)
    (case l_reached => k_is)
    (case c_reached => k_is)
    (case k_reached => k_is)
    (case a_money => k_is)
    (case l_money => k_is)
    (case c_money => k_is)
    (case k_money => k_is)
    (case a_is_row => k_is)
    (case l_is_row => k_is)
    (case c_is_row => k_is)
    (case k_is_row => k_is)
    (case a_flow_error => k_is)
    (case l_flow_error => k_is)
    (case c_flow_error => k_is)
    (case k_flow_error => k_is)
    (case a_ends => k_is)
    (case l_ends => k_is)
    (case c_ends => k_is)
    (case k_ends => k_is)
    (case a_cut_flow => k_is)
    (case l_cut_flow => k_is)
    (case c_cut_flow => k_is)
    (case k_cut_flow => k_is)
    (case a_tree_places => k_is)
    (case l_tree_places => k_is)
    (case c_tree_places => k_is)
    (case k_tree_places => k_is)
    (case a_flow_for => k_is)
    (case l_flow_for => k_is)
    (case c_flow_for => k_is)
    (case k_flow_for => k_is)
    (case a_flow_for_error => k_is)
    (case l_flow_for_error => k_is)
    (case c_flow_for_error => k_is)
    (case k_flow_for_error => k_is)
    (case a__law_deck => k_is)
    (case l_law_deck => k_is)
    (case c_law_deck => k_is)
    (case k_law_deck => k_is)
    (case a__law_draw => k_is)
    (case l_law_draw => k_is)
    (case c_law_draw => k_is)
    (case k_law_draw => k_is)
    (case a__law_pick => k_is)
    (case l_law_pick => k_is)
    (case c_law_pick => k_is)
    (case k_law_pick => k_is)
    (case a__law_any => k_is)
    (case l_law_any => k_is)
    (case c_law_any => k_is)
    (case k_law_any => k_is)
    (case a__law_town => k_is)
    (case l_law_town => k_is)
    (case c_law_town => k_is)
    (case k_law_town => k_is)
    (case a__law_ends => k_is)
    (case l_law_ends => k_is)
    (case c_law_ends => k_is)
    (case k_law_ends => k_is)
    (case a__law_cut => k_is)
    (case l_law_cut => k_is)
    (case c_law_cut => k_is)
    (case k_law_cut => k_is)
    (case a__law_flow => k_is)
    (case l_law_flow => k_is)
    (case c_law_flow => k_is)
    (case k_law_flow => k_is)
    (case a__law_flow_due => k_is)
    (case l_law_flow_due => k_is)
    (case c_law_flow_due => k_is)
    (case k_law_flow_due => k_is)
    (case a__law_for_due => k_is)
    (case l_law_for_due => k_is)
    (case c_law_for_due => k_is)
    (case k_law_for_due => k_is)
    (case a__law_bent => k_is)
    (case l_law_bent => k_is)
    (case c_law_bent => k_is)
    (case k_law_bent => k_is)
    (case a__law_told => k_is)
    (case l_law_told => k_is)
    (case c_law_told => k_is)
    (case k_law_told => k_is)
    (case a__law_is_town_right => k_is)
    (case l_law_is_town_right => k_is)
    (case c_law_is_town_right => k_is)
    (case k_law_is_town_right => k_is)
    (case a_law => k_is)
    (case l_law => k_is)
    (case c_law => k_is)
    (case k_law => k_is)
    (case z_abs => k_is)
    (case z_all => k_is)
    (case z_bool => k_is)
    (case z_enumerate => k_is)
    (case z_int => k_is)
    (case z_isinstance => k_is)
    (case z_len => k_is)
    (case z_list => k_is)
    (case z_max => k_is)
    (case z_min => k_is)
    (case z_range => k_is)
    (case z_repr => k_is)
    (case z_sorted => k_is)
    (case z_sum => k_is)
    (case z_tuple => k_is)
    (case z_zip => k_is)
    (case i_MAX_MONEY => k_is)
    (case x_Unfit => k_is)
    (case xk_Unfit => k_is)
    (case xq_Unfit => k_exc)
    (case xs_Unfit => k_is)
    (case xt_Unfit => k_is)
    (case xc_Unfit => k_is)
    (case xm_Unfit_Unfit => first | rfl | k_is)
