import PyProof.Rows.All
import Wide.All
import OpenK.AllK
import Wide.FinOn
import HandS.Style
import HandS.ForMost
import HandS.Deep
import HandS.TupAny
import HandS.IsInst
import HandS.Wide
import HandS.TupMul
import HandS.Conv
import HandS.SortInts
import HandS.TupSets
import HandS.Zip
import HandS.Walk
import HandS.Defaults
import KE.GoesMore
import HandS.Text
import PyProof.AutoSeq1
import HandS.WideBits
import HandS.Flow
import KE.KStateDown
import HandS.Ends
import HandS.More
import HandS.Words
import HandS.WordsExc
import HandS.Head0
import HandS.Head1
import HandS.Head2
import HandS.HeadEnd
import HandS.HeadHook1
import HandS.HeadHook2
import PySem.Challenge.RW_slipstall_k24_whole_nothing_lost_of_pool
set_option Elab.async false
set_option linter.all false
set_option maxRecDepth 100000
set_option maxHeartbeats 4000000
namespace Pd
open PySem PySem.Spec PyProof.Rows L2
abbrev D := PyData
mutual
inductive Dq (H : Hp) : V → D → Prop
  | non : Dq H .non .none
  | bl (b : Bool) : Dq H (.bl b) (.bool b)
  | int (i : Int) : Dq H (.int i) (.int i)
  | str (x : Str) : Dq H (.str x) (.str x)
  | lst {a : Addr} {xs : List V} {ds : List D} : H a = some (.lst xs) → DqA H xs ds → Dq H (.ref a) (.list ds)
  | tup {a : Addr} {xs : List V} {ds : List D} : H a = some (.tup xs) → DqA H xs ds → Dq H (.ref a) (.tuple ds)
inductive DqA (H : Hp) : List V → List D → Prop
  | nil : DqA H [] []
  | cons {v : V} {vs : List V} {d : D} {ds : List D} : Dq H v d → DqA H vs ds → DqA H (v :: vs) (d :: ds)
end
mutual
theorem dqMono {H H' : Hp} (e : Same H H') : ∀ {v : V} {d : D}, Dq H v d → Dq H' v d
  | _, _, .non => .non
  | _, _, .bl b => .bl b
  | _, _, .int i => .int i
  | _, _, .str x => .str x
  | _, _, .lst hs ha => .lst (e _ _ hs) (dqAMono e ha)
  | _, _, .tup hs ha => .tup (e _ _ hs) (dqAMono e ha)
theorem dqAMono {H H' : Hp} (e : Same H H') : ∀ {vs : List V} {ds : List D}, DqA H vs ds → DqA H' vs ds
  | _, _, .nil => .nil
  | _, _, .cons h t => .cons (dqMono e h) (dqAMono e t)
end
mutual
theorem dqDp {K : PySem.W.Frag} {H : Hp} : ∀ {v : V} {d : D}, Dq H v d → Dp K H v d
  | _, _, .non => .non
  | _, _, .bl b => .bl b
  | _, _, .int i => .int i
  | _, _, .str x => .str x
  | _, _, .lst hs ha => .lst (.inl (.inl hs)) (dqADp ha)
  | _, _, .tup hs ha => .tup (.inl (.inl hs)) (dqADp ha)
theorem dqADp {K : PySem.W.Frag} {H : Hp} : ∀ {vs : List V} {ds : List D}, DqA H vs ds → DpAll K H vs ds
  | _, _, .nil => .nil
  | _, _, .cons h t => .cons (dqDp h) (dqADp t)
end
section
variable {H : Hp}
theorem DqA.len : ∀ {vs : List V} {ds : List D}, DqA H vs ds → vs.length = ds.length
  | _, _, .nil => rfl
  | _, _, .cons _ t => congrArg (· + 1) (DqA.len t)
theorem DqA.get : ∀ {vs : List V} {ds : List D} {i : Nat} {d : D}, DqA H vs ds → ds[i]? = some d → ∃ v, vs[i]? = some v ∧ Dq H v d
  | _, _, _, _, .nil, e => by simp at e
  | _, _, 0, _, .cons h _, e => by simp at e; subst e; exact ⟨_, rfl, h⟩
  | _, _, i + 1, d, .cons _ t, e => by
    obtain ⟨v, a, b⟩ := DqA.get (i := i) (d := d) t (by simpa using e)
    exact ⟨v, by simpa using a, b⟩
theorem DqA.getV : ∀ {vs : List V} {ds : List D} {i : Nat} {v : V}, DqA H vs ds → vs[i]? = some v → ∃ d, ds[i]? = some d ∧ Dq H v d
  | _, _, _, _, .nil, e => by simp at e
  | _, _, 0, _, .cons h _, e => by simp at e; subst e; exact ⟨_, rfl, h⟩
  | _, _, i + 1, d, .cons _ t, e => by
    obtain ⟨v, a, b⟩ := DqA.getV (i := i) (v := d) t (by simpa using e)
    exact ⟨v, by simpa using a, b⟩
theorem DqA.app : ∀ {vs ws : List V} {ds es : List D}, DqA H vs ds → DqA H ws es → DqA H (vs ++ ws) (ds ++ es)
  | _, _, _, _, .nil, s => s
  | _, _, _, _, .cons h t, s => .cons h (DqA.app t s)
theorem DqA.take : ∀ {vs : List V} {ds : List D} (n : Nat), DqA H vs ds → DqA H (vs.take n) (ds.take n)
  | _, _, 0, _ => .nil
  | _, _, _ + 1, .nil => .nil
  | _, _, n + 1, .cons r t => .cons r (DqA.take n t)
theorem DqA.drop : ∀ {vs : List V} {ds : List D} (n : Nat), DqA H vs ds → DqA H (vs.drop n) (ds.drop n)
  | _, _, 0, r => r
  | _, _, _ + 1, .nil => .nil
  | _, _, n + 1, .cons _ t => DqA.drop n t
theorem DqA.set {v : V} {d : D} (h : Dq H v d) : ∀ {vs : List V} {ds : List D} (n : Nat), DqA H vs ds → DqA H (vs.set n v) (ds.set n d)
  | _, _, _, .nil => .nil
  | _, _, 0, .cons _ t => .cons h t
  | _, _, n + 1, .cons r t => .cons r (DqA.set h n t)
theorem DqA.erase : ∀ {vs : List V} {ds : List D} (n : Nat), DqA H vs ds → DqA H (vs.eraseIdx n) (ds.eraseIdx n)
  | _, _, _, .nil => .nil
  | _, _, 0, .cons _ t => t
  | _, _, n + 1, .cons r t => .cons r (DqA.erase n t)
theorem DqA.one {v : V} {d : D} (h : Dq H v d) : DqA H [v] [d] := .cons h .nil
end
inductive Sl where
  | no
  | val (d : D)
  | own (a : Addr) (ds : List D)
  | scr (ns : List Int)
abbrev Env := List Sl
def owns : Env → List Addr
  | [] => []
  | .no :: r => owns r
  | .val _ :: r => owns r
  | .own a _ :: r => a :: owns r
  | .scr _ :: r => owns r
inductive Rho (K : PySem.W.Frag) (G H : Hp) : L2.St → Env → Prop
  | nil : Rho K G H [] []
  | no {s : Option V} {σ : L2.St} {ρ : Env} : Rho K G H σ ρ → Rho K G H (s :: σ) (.no :: ρ)
  | val {v : V} {d : D} {σ : L2.St} {ρ : Env} : Dq G v d → Rho K G H σ ρ → Rho K G H (some v :: σ) (.val d :: ρ)
  | own {a : Addr} {vs : List V} {ds : List D} {σ : L2.St} {ρ : Env} : H a = some (.lst vs) → DqA G vs ds → Rho K G H σ ρ → Rho K G H (some (.ref a) :: σ) (.own a ds :: ρ)
  | scr {a : Addr} {ns : List Int} {σ : L2.St} {ρ : Env} : SqL K G a (ns.map V.int) → Rho K G H σ ρ → Rho K G H (some (.ref a) :: σ) (.scr ns :: ρ)
section
variable {K : PySem.W.Frag} {G H G' H' : Hp}
theorem Rho.len : ∀ {σ : L2.St} {ρ : Env}, Rho K G H σ ρ → σ.length = ρ.length
  | _, _, .nil => rfl
  | _, _, .no t => congrArg (· + 1) t.len
  | _, _, .val _ t => congrArg (· + 1) t.len
  | _, _, .own _ _ t => congrArg (· + 1) t.len
  | _, _, .scr _ t => congrArg (· + 1) t.len
theorem Rho.mono (g : Same G G') : ∀ {σ : L2.St} {ρ : Env}, Rho K G H σ ρ → (∀ a ∈ owns ρ, H' a = H a) → Rho K G' H' σ ρ
  | _, _, .nil, _ => .nil
  | _, _, .no t, k => .no (t.mono g k)
  | _, _, .val h t, k => .val (dqMono g h) (t.mono g k)
  | _, _, .own e h t, k => .own ((k _ List.mem_cons_self).trans e) (dqAMono g h) (t.mono g fun a z => k a (List.mem_cons_of_mem _ z))
  | _, _, .scr q t, k => .scr (g.seq q) (t.mono g k)
theorem Rho.get : ∀ {σ : L2.St} {ρ : Env} {i : Nat} {d : D}, Rho K G H σ ρ → ρ[i]? = some (.val d) → ∃ v, σ[i]? = some (some v) ∧ Dq G v d
  | _, _, _, _, .nil, e => by simp at e
  | _, _, 0, _, .no _, e => by simp at e
  | _, _, 0, _, .own _ _ _, e => by simp at e
  | _, _, 0, _, .scr _ _, e => by simp at e
  | _, _, 0, _, .val h _, e => by simp at e; subst e; exact ⟨_, rfl, h⟩
  | _, _, i + 1, d, .no t, e => by simpa using Rho.get (i := i) (d := d) t (by simpa using e)
  | _, _, i + 1, d, .val _ t, e => by simpa using Rho.get (i := i) (d := d) t (by simpa using e)
  | _, _, i + 1, d, .own _ _ t, e => by simpa using Rho.get (i := i) (d := d) t (by simpa using e)
  | _, _, i + 1, d, .scr _ t, e => by simpa using Rho.get (i := i) (d := d) t (by simpa using e)
theorem Rho.getO : ∀ {σ : L2.St} {ρ : Env} {i : Nat} {a : Addr} {ds : List D}, Rho K G H σ ρ → ρ[i]? = some (.own a ds) → σ[i]? = some (some (.ref a)) ∧ a ∈ owns ρ ∧ ∃ vs, H a = some (.lst vs) ∧ DqA G vs ds
  | _, _, _, _, _, .nil, e => by simp at e
  | _, _, 0, _, _, .no _, e => by simp at e
  | _, _, 0, _, _, .val _ _, e => by simp at e
  | _, _, 0, _, _, .scr _ _, e => by simp at e
  | _, _, 0, _, _, .own h q _, e => by simp at e; obtain ⟨rfl, rfl⟩ := e; exact ⟨rfl, List.mem_cons_self, _, h, q⟩
  | _, _, i + 1, a, d, .no t, e => by simpa [owns] using Rho.getO (i := i) (a := a) (ds := d) t (by simpa using e)
  | _, _, i + 1, a, d, .val _ t, e => by simpa [owns] using Rho.getO (i := i) (a := a) (ds := d) t (by simpa using e)
  | _, _, i + 1, a, d, .scr _ t, e => by simpa [owns] using Rho.getO (i := i) (a := a) (ds := d) t (by simpa using e)
  | _, _, i + 1, a, d, .own _ _ t, e => by
    obtain ⟨x, y, z⟩ := Rho.getO (i := i) (a := a) (ds := d) t (by simpa using e)
    exact ⟨by simpa using x, List.mem_cons_of_mem _ y, z⟩
theorem Rho.getS : ∀ {σ : L2.St} {ρ : Env} {i : Nat} {ns : List Int}, Rho K G H σ ρ → ρ[i]? = some (.scr ns) → ∃ a, σ[i]? = some (some (.ref a)) ∧ SqL K G a (ns.map V.int)
  | _, _, _, _, .nil, e => by simp at e
  | _, _, 0, _, .no _, e => by simp at e
  | _, _, 0, _, .own _ _ _, e => by simp at e
  | _, _, 0, _, .val _ _, e => by simp at e
  | _, _, 0, _, .scr h _, e => by simp at e; subst e; exact ⟨_, rfl, h⟩
  | _, _, i + 1, d, .no t, e => by simpa using Rho.getS (i := i) (ns := d) t (by simpa using e)
  | _, _, i + 1, d, .val _ t, e => by simpa using Rho.getS (i := i) (ns := d) t (by simpa using e)
  | _, _, i + 1, d, .own _ _ t, e => by simpa using Rho.getS (i := i) (ns := d) t (by simpa using e)
  | _, _, i + 1, d, .scr _ t, e => by simpa using Rho.getS (i := i) (ns := d) t (by simpa using e)
theorem owns_set_sub : ∀ {ρ : Env} {i : Nat} {s : Sl} {a : Addr}, a ∈ owns (ρ.set i s) → a ∈ owns ρ ∨ a ∈ owns [s]
  | [], _, _, _, h => .inl h
  | x :: r, 0, s, a, h => by
    cases s with
    | no => cases x <;> first | exact .inl h | exact .inl (List.mem_cons_of_mem _ h)
    | val d => cases x <;> first | exact .inl h | exact .inl (List.mem_cons_of_mem _ h)
    | scr d => cases x <;> first | exact .inl h | exact .inl (List.mem_cons_of_mem _ h)
    | own b ds =>
      rcases List.mem_cons.mp (show a ∈ b :: owns r from h) with e | e
      · exact .inr (by rw [e]; exact List.mem_cons_self)
      · cases x <;> first | exact .inl e | exact .inl (List.mem_cons_of_mem _ e)
  | x :: r, i + 1, s, a, h => by
    cases x with
    | no => exact owns_set_sub (ρ := r) (i := i) h
    | val d => exact owns_set_sub (ρ := r) (i := i) h
    | scr d => exact owns_set_sub (ρ := r) (i := i) h
    | own b ds =>
      rcases List.mem_cons.mp (show a ∈ b :: owns (r.set i s) from h) with e | e
      · exact .inl (by rw [e]; exact List.mem_cons_self)
      · exact (owns_set_sub (ρ := r) (i := i) e).imp (List.mem_cons_of_mem _) id
theorem owns_set_nd : ∀ {ρ : Env} {i : Nat} {s : Sl}, (owns ρ).Nodup → (∀ a ∈ owns [s], a ∉ owns ρ) → (owns (ρ.set i s)).Nodup
  | [], _, _, h, _ => h
  | x :: r, 0, s, h, k => by
    have hr : (owns r).Nodup := by cases x <;> first | exact h | exact (List.nodup_cons.mp h).2
    cases s with
    | no => exact hr
    | val d => exact hr
    | scr d => exact hr
    | own b ds =>
      refine List.nodup_cons.mpr ⟨fun z => k b List.mem_cons_self ?_, hr⟩
      cases x <;> first | exact z | exact List.mem_cons_of_mem _ z
  | x :: r, i + 1, s, h, k => by
    cases x with
    | no => exact owns_set_nd (ρ := r) (i := i) h k
    | val d => exact owns_set_nd (ρ := r) (i := i) h k
    | scr d => exact owns_set_nd (ρ := r) (i := i) h k
    | own b ds =>
      obtain ⟨h1, h2⟩ := List.nodup_cons.mp h
      refine List.nodup_cons.mpr ⟨fun z => ?_, owns_set_nd (ρ := r) (i := i) h2 fun a ha z => k a ha (List.mem_cons_of_mem _ z)⟩
      rcases owns_set_sub z with z | z
      · exact h1 z
      · exact k b z List.mem_cons_self
theorem owns_set_own : ∀ {ρ : Env} {i : Nat} {a : Addr} {ds es : List D}, ρ[i]? = some (.own a ds) → owns (ρ.set i (.own a es)) = owns ρ
  | [], _, _, _, _, h => by simp at h
  | x :: r, 0, a, ds, es, h => by simp at h; subst h; rfl
  | x :: r, i + 1, a, ds, es, h => by
    have e := owns_set_own (ρ := r) (i := i) (a := a) (ds := ds) (es := es) (by simpa using h)
    cases x with
    | no => exact e
    | val d => exact e
    | scr d => exact e
    | own b cs => exact congrArg (b :: ·) e
theorem Rho.setV {v : V} {d : D} (h : Dq G v d) : ∀ {σ : L2.St} {ρ : Env} (i : Nat), Rho K G H σ ρ → Rho K G H (σ.set i (some v)) (ρ.set i (.val d))
  | _, _, _, .nil => .nil
  | _, _, 0, .no t => .val h t
  | _, _, 0, .val _ t => .val h t
  | _, _, 0, .scr _ t => .val h t
  | _, _, 0, .own _ _ t => .val h t
  | _, _, i + 1, .no t => .no (Rho.setV h i t)
  | _, _, i + 1, .val q t => .val q (Rho.setV h i t)
  | _, _, i + 1, .scr q t => .scr q (Rho.setV h i t)
  | _, _, i + 1, .own e q t => .own e q (Rho.setV h i t)
theorem Rho.setO {a : Addr} {vs : List V} {ds : List D} (e : H a = some (.lst vs)) (h : DqA G vs ds) : ∀ {σ : L2.St} {ρ : Env} (i : Nat), Rho K G H σ ρ → Rho K G H (σ.set i (some (.ref a))) (ρ.set i (.own a ds))
  | _, _, _, .nil => .nil
  | _, _, 0, .no t => .own e h t
  | _, _, 0, .val _ t => .own e h t
  | _, _, 0, .scr _ t => .own e h t
  | _, _, 0, .own _ _ t => .own e h t
  | _, _, i + 1, .no t => .no (Rho.setO e h i t)
  | _, _, i + 1, .val q t => .val q (Rho.setO e h i t)
  | _, _, i + 1, .scr q t => .scr q (Rho.setO e h i t)
  | _, _, i + 1, .own e' q t => .own e' q (Rho.setO e h i t)
theorem Rho.setN (v : Option V) : ∀ {σ : L2.St} {ρ : Env} (i : Nat), Rho K G H σ ρ → Rho K G H (σ.set i v) (ρ.set i .no)
  | _, _, _, .nil => .nil
  | _, _, 0, .no t => .no t
  | _, _, 0, .val _ t => .no t
  | _, _, 0, .scr _ t => .no t
  | _, _, 0, .own _ _ t => .no t
  | _, _, i + 1, .no t => .no (Rho.setN v i t)
  | _, _, i + 1, .val q t => .val q (Rho.setN v i t)
  | _, _, i + 1, .scr q t => .scr q (Rho.setN v i t)
  | _, _, i + 1, .own e q t => .own e q (Rho.setN v i t)
theorem set_self {α : Type} : ∀ {l : List α} {i : Nat} {x : α}, l[i]? = some x → l.set i x = l
  | [], _, _, h => by simp at h
  | y :: r, 0, x, h => by simp at h; subst h; rfl
  | y :: r, i + 1, x, h => by
    have e := set_self (l := r) (i := i) (x := x) (by simpa using h)
    show y :: r.set i x = y :: r
    rw [e]
theorem Rho.mut {a : Addr} {vs : List V} {es ds : List D} (h : DqA G vs es) {σ : L2.St} {ρ : Env} (r : Rho K G H σ ρ) : ∀ {i : Nat}, (owns ρ).Nodup → ρ[i]? = some (.own a ds) → Rho K G (upd H a (.lst vs)) σ (ρ.set i (.own a es)) := by
  induction r with
  | nil => intro i _ e; simp at e
  | no t ih =>
    intro i nd e
    cases i with
    | zero => simp at e
    | succ i => exact .no (ih nd (by simpa using e))
  | val q t ih =>
    intro i nd e
    cases i with
    | zero => simp at e
    | succ i => exact .val q (ih nd (by simpa using e))
  | scr q t ih =>
    intro i nd e
    cases i with
    | zero => simp at e
    | succ i => exact .scr q (ih nd (by simpa using e))
  | @own b ws cs σ ρ e' q t ih =>
    intro i nd e
    obtain ⟨n1, n2⟩ := List.nodup_cons.mp nd
    cases i with
    | zero =>
      simp at e
      obtain ⟨rfl, rfl⟩ := e
      exact .own upd_same h (t.mono (Same.refl _) fun c hc => upd_ne fun z => n1 (by rw [← z]; exact hc))
    | succ i =>
      have e2 : ρ[i]? = some (.own a ds) := by simpa using e
      have hi := Rho.getO t e2
      exact .own ((upd_ne fun z => n1 (by rw [z]; exact hi.2.1)).trans e') q (ih n2 e2)
end
structure Wd where
  G : Hp
  H : Hp
  O : List Addr
structure At (K : PySem.W.Frag) (W : Wd) (G H : Hp) (σ : L2.St) (ρ : Env) : Prop where
  gg : Same W.G G
  gh : Same G H
  hh : ∀ b o, W.H b = some o → b ∉ W.O → H b = some o
  dm : ∀ b, W.H b ≠ none → H b ≠ none
  fr : ∀ b, G b ≠ none → W.G b = none → W.H b = none
  ow : ∀ a ∈ owns ρ, a ∈ W.O ∨ W.H a = none
  rho : Rho K G H σ ρ
  nd : (owns ρ).Nodup
  ng : ∀ a ∈ owns ρ, G a = none
section
variable {K : PySem.W.Frag} {W : Wd} {G H G' H' : Hp} {σ σ' : L2.St} {ρ ρ' : Env}
theorem noneOf {α : Type} {x : Option α} (h : ¬ x ≠ none) : x = none := Classical.not_not.mp h
theorem At.here (a : At K W G H σ ρ) : At K ⟨G, H, owns ρ⟩ G H σ ρ :=
  ⟨Same.refl _, a.gh, fun _ _ e _ => e, fun _ h => h, fun _ h z => absurd z h, fun _ h => .inl h, a.rho, a.nd, a.ng⟩
theorem At.trans (a : At K W G H σ ρ) (b : At K ⟨G, H, owns ρ⟩ G' H' σ' ρ') : At K W G' H' σ' ρ' := by
  have down : ∀ c, H c = none → W.H c = none := fun c z => noneOf fun h => a.dm c h z
  refine ⟨a.gg.trans b.gg, b.gh, fun c o e h => b.hh c o (a.hh c o e h) fun z => ?_, fun c h => b.dm c (a.dm c h), fun c h z => ?_, fun c h => ?_, b.rho, b.nd, b.ng⟩
  · rcases a.ow c z with q | q
    · exact h q
    · rw [q] at e; cases e
  · by_cases q : G c = none
    · exact down c (b.fr c h q)
    · exact a.fr c q z
  · rcases b.ow c h with q | q
    · exact a.ow c q
    · exact .inr (down c q)
theorem At.alloc {p : Addr} (o : HO) (a : At K W G H σ ρ) (hp : H p = none) : At K W (upd G p o) (upd H p o) σ ρ := by
  have gp : G p = none := noneOf fun h => by
    cases q : G p with
    | none => exact h q
    | some u => rw [a.gh _ _ q] at hp; cases hp
  have wp : W.H p = none := noneOf fun h => a.dm p h hp
  have np : ∀ c, c ∈ owns ρ → c ≠ p := fun c h z => by
    have : ∃ o, H c = some o := by
      have go : ∀ {σ : L2.St} {ρ : Env}, Rho K G H σ ρ → c ∈ owns ρ → ∃ o, H c = some o := by
        intro σ ρ r
        induction r with
        | nil => intro h; cases h
        | no _ ih => exact ih
        | val _ _ ih => exact ih
        | scr _ _ ih => exact ih
        | own e _ _ ih =>
          intro h
          rcases List.mem_cons.mp h with q | q
          · exact ⟨_, by rw [q]; exact e⟩
          · exact ih q
      exact go a.rho h
    obtain ⟨u, e⟩ := this
    rw [z, hp] at e; cases e
  refine ⟨fun b u e => ?_, fun b u e => ?_, fun b u e h => ?_, fun b h => ?_, fun b h z => ?_, a.ow, a.rho.mono (fun b u e => ?_) fun c h => upd_ne (np c h), a.nd, fun c h => ?_⟩
  · rw [upd_ne (ne_of_none (a.gg _ _ e) gp)]; exact a.gg _ _ e
  · by_cases q : b = p
    · subst q; rw [upd_same] at e ⊢; exact e
    · rw [upd_ne q] at e ⊢; exact a.gh _ _ e
  · rw [upd_ne (ne_of_none e wp)]; exact a.hh b u e h
  · by_cases q : b = p
    · subst q; rw [upd_same]; simp
    · rw [upd_ne q]; exact a.dm b h
  · by_cases q : b = p
    · subst q; exact wp
    · rw [upd_ne q] at h; exact a.fr b h z
  · rw [upd_ne (ne_of_none e gp)]; exact e
  · rw [upd_ne (np c h)]; exact a.ng c h
theorem At.ownThere (a : At K W G H σ ρ) {c : Addr} (h : c ∈ owns ρ) : ∃ vs, H c = some (.lst vs) := by
  have go : ∀ {σ : L2.St} {ρ : Env}, Rho K G H σ ρ → c ∈ owns ρ → ∃ vs, H c = some (.lst vs) := by
    intro σ ρ r
    induction r with
    | nil => intro h; cases h
    | no _ ih => exact ih
    | val _ _ ih => exact ih
    | scr _ _ ih => exact ih
    | own e _ _ ih =>
      intro h
      rcases List.mem_cons.mp h with q | q
      · exact ⟨_, by rw [q]; exact e⟩
      · exact ih q
  exact go a.rho h
theorem At.gNone (a : At K W G H σ ρ) {p : Addr} (hp : H p = none) : G p = none := noneOf fun h => by
  cases q : G p with
  | none => exact h q
  | some u => rw [a.gh _ _ q] at hp; cases hp
theorem At.wNone (a : At K W G H σ ρ) {p : Addr} (hp : H p = none) : W.H p = none := noneOf fun h => a.dm p h hp
theorem At.raw {p : Addr} (o : HO) (a : At K W G H σ ρ) (hp : H p = none) : At K W G (upd H p o) σ ρ := by
  have wp := a.wNone hp
  have np : ∀ c, c ∈ owns ρ → c ≠ p := fun c h z => by
    obtain ⟨vs, e⟩ := a.ownThere h
    rw [z, hp] at e; cases e
  refine ⟨a.gg, fun b u e => ?_, fun b u e h => ?_, fun b h => ?_, a.fr, a.ow, a.rho.mono (Same.refl _) fun c h => upd_ne (np c h), a.nd, a.ng⟩
  · rw [upd_ne (ne_of_none (a.gh _ _ e) hp)]; exact a.gh _ _ e
  · rw [upd_ne (ne_of_none e wp)]; exact a.hh b u e h
  · by_cases q : b = p
    · subst q; rw [upd_same]; simp
    · rw [upd_ne q]; exact a.dm b h
theorem At.rawNot (a : At K W G H σ ρ) {p : Addr} (hp : H p = none) : p ∉ owns ρ := fun z => by
  obtain ⟨vs, e⟩ := a.ownThere z
  rw [hp] at e; cases e
theorem At.touch {p : Addr} {o : HO} (a : At K W G H σ ρ) (hn : p ∉ owns ρ) (hg : G p = none) (hw : W.H p = none) : At K W G (upd H p o) σ ρ := by
  have np : ∀ c, c ∈ owns ρ → c ≠ p := fun c h z => hn (by rw [← z]; exact h)
  refine ⟨a.gg, fun b u e => ?_, fun b u e h => ?_, fun b h => ?_, a.fr, a.ow, a.rho.mono (Same.refl _) fun c h => upd_ne (np c h), a.nd, a.ng⟩
  · rw [upd_ne (ne_of_none e hg)]; exact a.gh _ _ e
  · rw [upd_ne (ne_of_none e hw)]; exact a.hh b u e h
  · by_cases q : b = p
    · subst q; rw [upd_same]; simp
    · rw [upd_ne q]; exact a.dm b h
theorem At.freeze {p : Addr} {o : HO} (a : At K W G H σ ρ) (ho : H p = some o) (hn : p ∉ owns ρ) (hg : G p = none) (hw : W.H p = none) : At K W (upd G p o) H σ ρ := by
  have np : ∀ c, c ∈ owns ρ → c ≠ p := fun c h z => hn (by rw [← z]; exact h)
  refine ⟨fun b u e => ?_, fun b u e => ?_, a.hh, a.dm, fun b h z => ?_, a.ow, a.rho.mono (fun b u e => ?_) fun c h => rfl, a.nd, fun c h => ?_⟩
  · rw [upd_ne (ne_of_none (a.gg _ _ e) hg)]; exact a.gg _ _ e
  · by_cases q : b = p
    · subst q; rw [upd_same] at e; rw [ho]; exact e
    · rw [upd_ne q] at e; exact a.gh _ _ e
  · by_cases q : b = p
    · subst q; exact hw
    · rw [upd_ne q] at h; exact a.fr b h z
  · rw [upd_ne (ne_of_none e hg)]; exact e
  · rw [upd_ne (np c h)]; exact a.ng c h
theorem same_upd1 {p : Addr} {o : HO} (h : G p = none) : Same G (upd G p o) := fun b u e => by rw [upd_ne (ne_of_none e h)]; exact e
theorem At.setV {v : V} {d : D} (i : Nat) (a : At K W G H σ ρ) (h : Dq G v d) : At K W G H (σ.set i (some v)) (ρ.set i (.val d)) :=
  ⟨a.gg, a.gh, a.hh, a.dm, a.fr, fun c z => (owns_set_sub z).elim (a.ow c) (fun q => nomatch q), a.rho.setV h i, owns_set_nd a.nd (fun c q => nomatch q), fun c z => (owns_set_sub z).elim (a.ng c) (fun q => nomatch q)⟩
theorem At.setN (v : Option V) (i : Nat) (a : At K W G H σ ρ) : At K W G H (σ.set i v) (ρ.set i .no) :=
  ⟨a.gg, a.gh, a.hh, a.dm, a.fr, fun c z => (owns_set_sub z).elim (a.ow c) (fun q => nomatch q), a.rho.setN v i, owns_set_nd a.nd (fun c q => nomatch q), fun c z => (owns_set_sub z).elim (a.ng c) (fun q => nomatch q)⟩
theorem At.setO {c : Addr} {vs : List V} {ds : List D} (i : Nat) (a : At K W G H σ ρ) (e : H c = some (.lst vs)) (hn : c ∉ owns ρ) (hg : G c = none) (hw : W.H c = none) (h : DqA G vs ds) : At K W G H (σ.set i (some (.ref c))) (ρ.set i (.own c ds)) := by
  have one : ∀ b, b ∈ owns [Sl.own c ds] → b = c := fun b q => by simpa [owns] using q
  exact ⟨a.gg, a.gh, a.hh, a.dm, a.fr, fun b z => (owns_set_sub z).elim (a.ow b) fun q => .inr (by rw [one b q]; exact hw), a.rho.setO e h i, owns_set_nd a.nd (fun b q => by rw [one b q]; exact hn), fun b z => (owns_set_sub z).elim (a.ng b) fun q => by rw [one b q]; exact hg⟩
theorem At.mut {c : Addr} {vs : List V} {ds es : List D} {i : Nat} (a : At K W G H σ ρ) (hi : ρ[i]? = some (.own c ds)) (h : DqA G vs es) : At K W G (upd H c (.lst vs)) σ (ρ.set i (.own c es)) := by
  obtain ⟨h1, h2, ws, h3, h4⟩ := a.rho.getO hi
  have e := owns_set_own (es := es) hi
  refine ⟨a.gg, fun b u q => ?_, fun b u q k => ?_, fun b k => ?_, a.fr, fun b z => a.ow b (by rw [← e]; exact z), Rho.mut h a.rho a.nd hi, by rw [e]; exact a.nd, fun b z => a.ng b (by rw [← e]; exact z)⟩
  · rw [upd_ne (ne_of_none q (a.ng c h2))]; exact a.gh _ _ q
  · have n : b ≠ c := fun z => by
      subst z
      rcases a.ow b h2 with r | r
      · exact k r
      · rw [r] at q; cases q
    rw [upd_ne n]; exact a.hh b u q k
  · by_cases q : b = c
    · subst q; rw [upd_same]; simp
    · rw [upd_ne q]; exact a.dm b k
theorem At.get {i : Nat} {d : D} (a : At K W G H σ ρ) (h : ρ[i]? = some (.val d)) : ∃ v, σ[i]? = some (some v) ∧ Dq G v d := a.rho.get h
theorem At.getO {i : Nat} {c : Addr} {ds : List D} (a : At K W G H σ ρ) (h : ρ[i]? = some (.own c ds)) : σ[i]? = some (some (.ref c)) ∧ G c = none ∧ ∃ vs, H c = some (.lst vs) ∧ DqA G vs ds := by
  obtain ⟨h1, h2, h3⟩ := a.rho.getO h
  exact ⟨h1, a.ng c h2, h3⟩
theorem At.still2 {i : Nat} {c : Addr} {ds : List D} (a : At K W G H σ ρ) (h : ρ[i]? = some (.own c ds)) (hw : W.H c = none) : ∃ vs, At K W (upd G c (.lst vs)) H σ (ρ.set i (.val (.list ds))) ∧ Same G (upd G c (.lst vs)) := by
  obtain ⟨h1, h2, vs, h3, h4⟩ := a.rho.getO h
  have hg := a.ng c h2
  have a1 := a.setN (σ[i]?.getD none) i
  have hn : c ∉ owns (ρ.set i .no) := by
    have go : ∀ {ρ : Env} {i : Nat}, (owns ρ).Nodup → ρ[i]? = some (.own c ds) → c ∉ owns (ρ.set i .no) := by
      intro ρ
      induction ρ with
      | nil => intro i _ h; simp at h
      | cons x r ih =>
        intro i nd h
        cases i with
        | zero =>
          simp at h
          subst h
          exact (List.nodup_cons.mp nd).1
        | succ i =>
          have h' : r[i]? = some (.own c ds) := by simpa using h
          cases x with
          | no => exact ih nd h'
          | val d => exact ih nd h'
          | scr d => exact ih nd h'
          | own b es =>
            intro z
            rcases List.mem_cons.mp (show c ∈ b :: owns (r.set i .no) from z) with q | q
            · have mem : ∀ {ρ : Env} {i : Nat}, ρ[i]? = some (.own c ds) → c ∈ owns ρ := by
                intro ρ
                induction ρ with
                | nil => intro i h; simp at h
                | cons y r ih =>
                  intro i h
                  cases i with
                  | zero => simp at h; subst h; exact List.mem_cons_self
                  | succ i =>
                    have z := ih (i := i) (by simpa using h)
                    cases y <;> first | exact z | exact List.mem_cons_of_mem _ z
              exact (List.nodup_cons.mp nd).1 (by rw [← q]; exact mem h')
            · exact ih (List.nodup_cons.mp nd).2 h' q
    exact go a.nd h
  have a2 := a1.freeze (p := c) h3 hn hg hw
  have a3 := a2.setV i (v := .ref c) (d := .list ds) (.lst upd_same (dqAMono (same_upd1 hg) h4))
  have e1 : (ρ.set i Sl.no).set i (.val (.list ds)) = ρ.set i (.val (.list ds)) := by rw [List.set_set]
  have e2 : (σ.set i (σ[i]?.getD none)).set i (some (.ref c)) = σ := by rw [List.set_set]; exact set_self h1
  rw [e1, e2] at a3
  exact ⟨_, a3, same_upd1 hg⟩
theorem At.still {i : Nat} {c : Addr} {ds : List D} (a : At K W G H σ ρ) (h : ρ[i]? = some (.own c ds)) (hw : W.H c = none) : ∃ G', At K W G' H σ (ρ.set i (.val (.list ds))) ∧ Same G G' :=
  let ⟨_, x, y⟩ := a.still2 h hw
  ⟨_, x, y⟩
structure Ex (G H G' H' : Hp) : Prop where
  gg : Same G G'
  hh : Same H H'
  fr : ∀ b, G' b ≠ none → G b = none → H b = none
theorem Ex.refl (G H : Hp) : Ex G H G H := ⟨Same.refl _, Same.refl _, fun _ h z => absurd z h⟩
theorem Ex.trans {G H G' H' G2 H2 : Hp} (a : Ex G H G' H') (b : Ex G' H' G2 H2) : Ex G H G2 H2 := by
  refine ⟨a.gg.trans b.gg, a.hh.trans b.hh, fun c h z => ?_⟩
  by_cases q : G' c = none
  · have e := b.fr c h q
    cases r : H c with
    | none => rfl
    | some o => rw [a.hh _ _ r] at e; cases e
  · exact a.fr c q z
theorem Ex.alloc {G H : Hp} {p : Addr} {o : HO} (g : Same G H) (hp : H p = none) : Ex G H (upd G p o) (upd H p o) := by
  have gp : G p = none := noneOf fun h => by
    cases q : G p with
    | none => exact h q
    | some u => rw [g _ _ q] at hp; cases hp
  refine ⟨same_upd1 gp, same_upd1 hp, fun b h z => ?_⟩
  by_cases q : b = p
  · rw [q]; exact hp
  · rw [upd_ne q] at h; exact absurd z h
theorem Ex.raw {G H : Hp} {p : Addr} {o : HO} (hp : H p = none) : Ex G H G (upd H p o) := ⟨Same.refl _, same_upd1 hp, fun _ h z => absurd z h⟩
theorem Ex.frz {G H G' H' : Hp} {p : Addr} {o : HO} (a : Ex G H G' H') (hp : H p = none) (gp : G' p = none) : Ex G H (upd G' p o) H' := by
  refine ⟨a.gg.trans (same_upd1 gp), a.hh, fun b h z => ?_⟩
  by_cases q : b = p
  · rw [q]; exact hp
  · rw [upd_ne q] at h; exact a.fr b h z
theorem At.ex (a : At K W G H σ ρ) (x : Ex G H G' H') (h2 : Same G' H') : At K W G' H' σ ρ := by
  refine a.trans ⟨x.gg, h2, fun b o e _ => x.hh b o e, fun b h z => ?_, x.fr, fun c h => .inl h, a.rho.mono x.gg fun c h => ?_, a.nd, fun c h => noneOf fun z => ?_⟩
  · cases q : H b with
    | none => exact h q
    | some o => rw [x.hh b o q] at z; cases z
  · obtain ⟨vs, e⟩ := a.ownThere h
    rw [e, x.hh _ _ e]
  · obtain ⟨vs, e⟩ := a.ownThere h
    have := x.fr c z (a.ng c h)
    rw [e] at this; cases this
end
end Pd

set_option Elab.async false
set_option linter.all false
set_option maxRecDepth 100000
set_option maxHeartbeats 4000000
namespace Pd
open PySem PySem.Spec PyProof.Rows L2
def Hd (K : PySem.W.Frag) (G H : Hp) (v : V) (d : D) : Prop :=
  Dq G v d ∨ (∃ a vs ds, v = .ref a ∧ d = .list ds ∧ H a = some (.lst vs) ∧ DqA G vs ds)
def TEP (K : PySem.W.Frag) (ρ : Env) (m : Option D) : TE := fun σ H Q => ∃ W G d, At K W G H σ ρ ∧ m = some d ∧ ∀ v G' H', At K W G' H' σ ρ → Ex G H G' H' → Dq G' v d → Q v H'
def TEH (K : PySem.W.Frag) (ρ : Env) (m : Option D) : TE := fun σ H Q => ∃ W G d, At K W G H σ ρ ∧ m = some d ∧ ∀ v G' H', At K W G' H' σ ρ → Ex G H G' H' →
  (∀ G2 H2, At K W G2 H2 σ ρ → Same G' G2 → Hd K G2 H2 v d) → Q v H'
def TEF (K : PySem.W.Frag) (ρ : Env) (m : Option (List D)) : TE := fun σ H Q => ∃ W G ds, At K W G H σ ρ ∧ m = some ds ∧ ∀ a vs G' H', At K W G' H' σ ρ → Ex G H G' H' →
  H' a = some (.lst vs) → G' a = none → H a = none → DqA G' vs ds → Q (.ref a) H'
def TBT (K : PySem.W.Frag) (ρ : Env) (m : Option Bool) : TT := fun σ H Q => ∃ W G b, At K W G H σ ρ ∧ m = some b ∧ ∀ G' H', At K W G' H' σ ρ → Ex G H G' H' → Q b H'
abbrev EP (X : Cx) (e : Expr) (ρ : Env) (m : Option D) : Prop := PE X e (TEP X.K ρ m)
abbrev EH (X : Cx) (e : Expr) (ρ : Env) (m : Option D) : Prop := PE X e (TEH X.K ρ m)
abbrev EF (X : Cx) (e : Expr) (ρ : Env) (m : Option (List D)) : Prop := PE X e (TEF X.K ρ m)
abbrev BT (X : Cx) (e : Expr) (ρ : Env) (m : Option Bool) : Prop := PT X e (TBT X.K ρ m)
abbrev Bd := (β : Type) → (List D → Option β) → Option β
section
variable {X : Cx} {ρ : Env} {e a b c : Expr} {m m' ma mb mc : Option D} {pos : Pos}
theorem peImp {t t' : TE} (h : PE X e t) (k : ∀ σ H Q, t' σ H Q → t σ H Q) : PE X e t' := ⟨fun pins s σ H Q I q => h.run pins s σ H Q I (k _ _ _ q)⟩
theorem ptImp {t t' : TT} (h : PT X e t) (k : ∀ σ H Q, t' σ H Q → t σ H Q) : PT X e t' := ⟨fun pins s σ H Q I q => h.run pins s σ H Q I (k _ _ _ q)⟩
theorem pwImp {t t' : TT} (h : PW X e t) (k : ∀ σ H Q, t' σ H Q → t σ H Q) : PW X e t' := ⟨fun w pins s σ H Q I q => h.run w pins s σ H Q I (k _ _ _ q)⟩
theorem paImp {es : List Expr} {t t' : TA} (h : PA X es t) (k : ∀ σ H Q, t' σ H Q → t σ H Q) : PA X es t' := ⟨fun pos pins s σ H Q I q => h.run pos pins s σ H Q I (k _ _ _ q)⟩
theorem EP.is (h : EP X e ρ m) (q : m = m') : EP X e ρ m' := q ▸ h
theorem EH.is (h : EH X e ρ m) (q : m = m') : EH X e ρ m' := q ▸ h
theorem EF.is {m m' : Option (List D)} (h : EF X e ρ m) (q : m = m') : EF X e ρ m' := q ▸ h
theorem BT.is {m m' : Option Bool} (h : BT X e ρ m) (q : m = m') : BT X e ρ m' := q ▸ h
theorem bindS {α β : Type} {o : Option α} {f : α → Option β} {r : β} (h : o.bind f = some r) : ∃ x, o = some x ∧ f x = some r := by
  cases o with
  | none => cases h
  | some x => exact ⟨x, rfl, h⟩
theorem EP.h (h : EP X e ρ m) : EH X e ρ m := peImp h fun σ H Q ⟨W, G, d, at', em, k⟩ => ⟨W, G, d, at', em, fun v G' H' a s q => k v G' H' a s fun G2 H2 _ s2 => .inl (dqMono s2 q)⟩
theorem EF.p {m : Option (List D)} (h : EF X e ρ m) : EP X e ρ (m.bind fun ds => some (.list ds)) :=
  peImp h fun σ H Q ⟨W, G, d', at', em, k⟩ => by
    obtain ⟨ds, e1, em⟩ := bindS em
    cases em
    exact ⟨W, G, ds, at', e1, fun p vs G1 H1 a1 s1 q1 q2 q3 q5 => k _ _ _ (a1.freeze q1 (at'.rawNot q3) q2 (at'.wNone q3)) (s1.frz q3 q2) (.lst upd_same (dqAMono (same_upd1 q2) q5))⟩
theorem EF.h {m : Option (List D)} (h : EF X e ρ m) : EH X e ρ (m.bind fun ds => some (.list ds)) := h.p.h
def Gro (G H G' H' : Hp) : Prop := (G' = G ∧ H' = H) ∨ ∃ p o, H p = none ∧ G' = upd G p o ∧ H' = upd H p o
theorem At.gro {K : PySem.W.Frag} {W : Wd} {G H G' H' : Hp} {σ : L2.St} (a : At K W G H σ ρ) (g : Gro G H G' H') : At K W G' H' σ ρ ∧ Ex G H G' H' := by
  rcases g with ⟨rfl, rfl⟩ | ⟨p, o, hp, rfl, rfl⟩
  · exact ⟨a, Ex.refl _ _⟩
  · exact ⟨a.alloc o hp, Ex.alloc a.gh hp⟩
def rD (K : PySem.W.Frag) (f : D → D → Option D) : R2 := fun x y H Q => ∃ G d e r, Same G H ∧ Hd K G H x d ∧ Hd K G H y e ∧ f d e = some r ∧ ∀ z G' H', Gro G H G' H' → Dq G' z r → Q z H'
def rDL (K : PySem.W.Frag) (f : D → D → Option (List D)) : R2 := fun x y H Q => ∃ G d e r, Same G H ∧ Hd K G H x d ∧ Hd K G H y e ∧ f d e = some r ∧ ∀ p vs, H p = none → DqA G vs r → Q (.ref p) (upd H p (.lst vs))
def rB (K : PySem.W.Frag) (f : D → D → Option Bool) : R2 := fun x y H Q => ∃ G d e r, Same G H ∧ Hd K G H x d ∧ Hd K G H y e ∧ f d e = some r ∧ Q (.bl r) H
def dTruth : D → Option Bool
  | .none => some false
  | .bool b => some b
  | .int i => some (i != 0)
  | .str x => if x.length ≤ sizeLine then some ((x.length : Int) != 0) else none
  | .list xs => some !xs.isEmpty
  | .tuple xs => some !xs.isEmpty
  | .dict _ => none
theorem isEmpty_len {α β : Type} {xs : List α} {ys : List β} (h : xs.length = ys.length) : xs.isEmpty = ys.isEmpty := by
  cases xs <;> cases ys <;> first | rfl | cases h
theorem hdTruth {K : PySem.W.Frag} {G H : Hp} {v : V} {d : D} {b : Bool} (s : Same G H) (h : Hd K G H v d) (e : dTruth d = some b) : TruV K v H b := by
  rcases h with h | ⟨a, vs, ds, rfl, rfl, h, q⟩
  · cases h with
    | non => cases e; rfl
    | bl b => cases e; rfl
    | int i => cases e; rfl
    | str x =>
      have e : (if x.length ≤ sizeLine then some ((x.length : Int) != 0) else none) = some b := e
      split at e
      · rename_i hz
        cases e
        exact ⟨hz, rfl⟩
      · cases e
    | lst hl ha =>
      cases e
      exact .inl ⟨_, .inl (.inl (s _ _ hl)), by rw [isEmpty_len (DqA.len ha)]⟩
    | tup hl ha =>
      cases e
      exact .inr (.inl ⟨_, .inl (.inl (s _ _ hl)), by rw [isEmpty_len (DqA.len ha)]⟩)
  · cases e
    exact .inl ⟨_, .inl (.inl h), by rw [isEmpty_len (DqA.len q)]⟩
variable {ba bb : Option Bool} {rest : List Expr}
end
end Pd

set_option Elab.async false
set_option linter.all false
set_option maxRecDepth 100000
set_option maxHeartbeats 4000000
namespace Pd
open PySem PySem.Spec PyProof.Rows L2
def lineN : Nat := 16777216
theorem lineEq : sizeLine = lineN := sizeLine_eq
def dAdd : D → D → Option D
  | .int i, .int j => some (.int (i + j))
  | .str i, .str j => if i.length + j.length ≤ lineN then some (.str (i ++ j)) else none
  | .tuple xs, .tuple ys => if xs.length + ys.length ≤ lineN then some (.tuple (xs ++ ys)) else none
  | .list xs, .list ys => if xs.length + ys.length ≤ lineN then some (.list (xs ++ ys)) else none
  | _, _ => none
def dCat : D → D → Option (List D)
  | .list xs, .list ys => if xs.length + ys.length ≤ lineN then some (xs ++ ys) else none
  | _, _ => none
def dSub : D → D → Option D
  | .int i, .int j => some (.int (i - j))
  | _, _ => none
def dMul : D → D → Option D
  | .int i, .int j => if i.natAbs.log2 + j.natAbs.log2 < 1000000 then some (.int (i * j)) else none
  | .tuple xs, .int k => if k = 1 then some (.tuple xs) else if k ≤ 0 ∧ -1000 ≤ k then some (.tuple []) else if xs ≠ [] ∧ 2 ≤ k ∧ k ≤ 1000 ∧ xs.length ≤ 1000 then some (.tuple (List.replicate k.toNat xs).flatten) else none
  | _, _ => none
def dRep : D → D → Option (List D)
  | .list xs, .int k => if 0 ≤ k ∧ k ≤ 100000 ∧ xs.length ≤ 100 then some (List.replicate k.toNat xs).flatten else none
  | _, _ => none
def dDiv : D → D → Option D
  | .int i, .int j => if 0 < j ∧ (i.natAbs.log2 < 13000 ∨ j.natAbs.log2 < 9000) then some (.int (i / j)) else none
  | _, _ => none
def dMod : D → D → Option D
  | .int i, .int j => if 0 < j then some (.int (i % j)) else none
  | _, _ => none
def dPow : D → D → Option D
  | .int i, .int j => if 0 ≤ j ∧ j ≤ 1000000 ∧ i.natAbs < 2 ^ 64 then some (.int (i ^ j.toNat)) else none
  | _, _ => none
def dNeg : D → Option D
  | .int i => some (.int (-i))
  | _ => none
section
variable {K : PySem.W.Frag} {G H : Hp} {v : V}
theorem hdInt {i : Int} (h : Hd K G H v (.int i)) : v = .int i := by
  rcases h with h | ⟨_, _, _, _, e, _⟩
  · cases h; rfl
  · cases e
theorem hdBl {i : Bool} (h : Hd K G H v (.bool i)) : v = .bl i := by
  rcases h with h | ⟨_, _, _, _, e, _⟩
  · cases h; rfl
  · cases e
theorem hdNon (h : Hd K G H v .none) : v = .non := by
  rcases h with h | ⟨_, _, _, _, e, _⟩
  · cases h; rfl
  · cases e
theorem hdStr {i : Str} (h : Hd K G H v (.str i)) : v = .str i := by
  rcases h with h | ⟨_, _, _, _, e, _⟩
  · cases h; rfl
  · cases e
theorem hdTup {ds : List D} (h : Hd K G H v (.tuple ds)) : ∃ a vs, v = .ref a ∧ G a = some (.tup vs) ∧ DqA G vs ds := by
  rcases h with h | ⟨_, _, _, _, e, _⟩
  · cases h with
    | tup a b => exact ⟨_, _, rfl, a, b⟩
  · cases e
theorem hdLst (s : Same G H) {ds : List D} (h : Hd K G H v (.list ds)) : ∃ a vs, v = .ref a ∧ H a = some (.lst vs) ∧ DqA G vs ds := by
  rcases h with h | ⟨_, _, _, rfl, e, p, q⟩
  · cases h with
    | lst a b => exact ⟨_, _, rfl, s _ _ a, b⟩
  · cases e; exact ⟨_, _, rfl, p, q⟩
end
section
variable {X : Cx}
theorem od_add : OpR X (binaryOp .Add) (rD X.K dAdd) := by
  intro pins s σ H x y v u Q I rx ry ⟨G, d, e, r, gs, hx, hy, ef, k⟩
  cases d with
  | int i =>
    cases e with
    | int j =>
      cases ef
      exact op_add pins s σ H x y v u Q I rx ry ⟨i, j, hdInt hx, hdInt hy, k _ G H (.inl ⟨rfl, rfl⟩) (.int _)⟩
    | _ => cases ef
  | str i =>
    cases e with
    | str j =>
      have ef : (if i.length + j.length ≤ lineN then some (PyData.str (i ++ j)) else none) = some r := ef
      split at ef
      · rename_i hz
        cases ef
        exact op_add_str pins s σ H x y v u Q I rx ry ⟨i, j, hdStr hx, hdStr hy, by rw [lineEq]; exact hz, k _ G H (.inl ⟨rfl, rfl⟩) (.str _)⟩
      · cases ef
    | _ => cases ef
  | tuple xs =>
    cases e with
    | tuple ys =>
      have ef : (if xs.length + ys.length ≤ lineN then some (PyData.tuple (xs ++ ys)) else none) = some r := ef
      split at ef
      · rename_i hz
        cases ef
        obtain ⟨a, vs, rfl, ga, qa⟩ := hdTup hx
        obtain ⟨b, ws, rfl, gb, qb⟩ := hdTup hy
        have la := DqA.len qa
        have lb := DqA.len qb
        refine op_catA pins s σ H _ _ v u Q I rx ry ⟨a, b, vs, ws, rfl, rfl, .of (gs _ _ ga), .of (gs _ _ gb), by rw [lineEq, la, lb]; exact hz, fun z => ?_, fun _ z => ?_, fun _ _ p hp => ?_⟩
        · subst z
          cases qa
          exact k _ G H (.inl ⟨rfl, rfl⟩) (.tup gb qb)
        · subst z
          cases qb
          rw [List.append_nil] at k
          exact k _ G H (.inl ⟨rfl, rfl⟩) (.tup ga qa)
        · have gp : G p = none := noneOf fun h => by
            cases q : G p with
            | none => exact h q
            | some u => rw [gs _ _ q] at hp; cases hp
          exact k _ _ _ (.inr ⟨p, _, hp, rfl, rfl⟩) (.tup upd_same (dqAMono (same_upd1 gp) (DqA.app qa qb)))
      · cases ef
    | _ => cases ef
  | list xs =>
    cases e with
    | list ys =>
      have ef : (if xs.length + ys.length ≤ lineN then some (PyData.list (xs ++ ys)) else none) = some r := ef
      split at ef
      · rename_i hz
        cases ef
        obtain ⟨a, vs, rfl, ga, qa⟩ := hdLst gs hx
        obtain ⟨b, ws, rfl, gb, qb⟩ := hdLst gs hy
        have la := DqA.len qa
        have lb := DqA.len qb
        refine op_cat pins s σ H _ _ v u Q I rx ry ⟨a, b, vs, ws, rfl, rfl, ga, gb, by rw [lineEq, la, lb]; exact hz, fun p hp => ?_⟩
        have gp : G p = none := noneOf fun h => by
          cases q : G p with
          | none => exact h q
          | some u => rw [gs _ _ q] at hp; cases hp
        exact k _ _ _ (.inr ⟨p, _, hp, rfl, rfl⟩) (.lst upd_same (dqAMono (same_upd1 gp) (DqA.app qa qb)))
      · cases ef
    | _ => cases ef
  | _ => cases ef
theorem ol_cat : OpR X (binaryOp .Add) (rDL X.K dCat) := by
  intro pins s σ H x y v u Q I rx ry ⟨G, d, e, r, gs, hx, hy, ef, k⟩
  cases d with
  | list xs =>
    cases e with
    | list ys =>
      have ef : (if xs.length + ys.length ≤ lineN then some (xs ++ ys) else none) = some r := ef
      split at ef
      · rename_i hz
        cases ef
        obtain ⟨a, vs, rfl, ga, qa⟩ := hdLst gs hx
        obtain ⟨b, ws, rfl, gb, qb⟩ := hdLst gs hy
        have la := DqA.len qa
        have lb := DqA.len qb
        exact op_cat pins s σ H _ _ v u Q I rx ry ⟨a, b, vs, ws, rfl, rfl, ga, gb, by rw [lineEq, la, lb]; exact hz, fun p hp => k p _ hp (DqA.app qa qb)⟩
      · cases ef
    | _ => cases ef
  | _ => cases ef
theorem DqA.rep {vs : List V} {ds : List D} {G : Hp} (h : DqA G vs ds) : ∀ n : Nat, DqA G (List.replicate n vs).flatten (List.replicate n ds).flatten
  | 0 => .nil
  | n + 1 => by
    rw [List.replicate_succ, List.replicate_succ, List.flatten_cons, List.flatten_cons]
    exact DqA.app h (DqA.rep h n)
theorem ol_rep : OpR X (binaryOp .Mult) (rDL X.K dRep) := by
  intro pins s σ H x y v u Q I rx ry ⟨G, d, e, r, gs, hx, hy, ef, k⟩
  cases d with
  | list xs =>
    cases e with
    | int n =>
      have ef : (if 0 ≤ n ∧ n ≤ 100000 ∧ xs.length ≤ 100 then some (List.replicate n.toNat xs).flatten else none) = some r := ef
      split at ef
      · rename_i hz
        cases ef
        obtain ⟨a, vs, rfl, ga, qa⟩ := hdLst gs hx
        have la := DqA.len qa
        refine op_rep pins s σ H _ _ v u Q I rx ry ⟨a, n, vs, rfl, hdInt hy, ga, by omega, by omega, ?_, fun p hp => k p _ hp (DqA.rep qa _)⟩
        rw [lineEq, la]
        have : xs.length * n.toNat ≤ 100 * 100000 := Nat.mul_le_mul hz.2.2 (by omega)
        exact Nat.le_trans this (by decide)
      · cases ef
    | _ => cases ef
  | _ => cases ef
theorem od_sub : OpR X (binaryOp .Sub) (rD X.K dSub) := by
  intro pins s σ H x y v u Q I rx ry ⟨G, d, e, r, gs, hx, hy, ef, k⟩
  cases d with
  | int i =>
    cases e with
    | int j =>
      cases ef
      exact op_sub pins s σ H x y v u Q I rx ry ⟨i, j, hdInt hx, hdInt hy, k _ G H (.inl ⟨rfl, rfl⟩) (.int _)⟩
    | _ => cases ef
  | _ => cases ef
theorem tuple_mul1 (l : Addr) (items : Array Value) (n : Nat) (dd : Option Addr) (sl : Array (Option Value)) (x : Int) (u : Tok) (c0 : (decide (x < -(2 ^ 63)) || decide (x ≥ 2 ^ 63)) = false) (c1 : (items.isEmpty || x == 1) = true) :
    Meets (Builtin.«tuple.__mul__» ⟨[.ref l, .int x u], []⟩) (fun _ R s => s.heap.get? l = some { cls := .type "tuple", dict := dd, data := .seq items n, slots := sl } ∧
      R (.ok (.ret (Value.ref l))) s) :=
  .of_wp fun prog w A R s h => by
    obtain ⟨hp, g, d, tk, os⟩ := s
    obtain ⟨hl, h⟩ := h
    have f1 := AutoSeq1.idx_int
    wp_walk using wpAny_loadPart' hl
    repeat (first
      | (refine wpAny_ite_false (decide_eq_false (by rw [c0]; exact Bool.false_ne_true)) ?_; wp_walk using wpAny_loadPart' hl)
      | (refine wpAny_ite_true (decide_eq_true c1) ?_; wp_walk using wpAny_loadPart' hl))
    exact ⟨_, rfl, h⟩
theorem tuple_mul0 (l : Addr) (items : Array Value) (n : Nat) (dd : Option Addr) (sl : Array (Option Value)) (x : Int) (u : Tok) (c0 : (decide (x < -(2 ^ 63)) || decide (x ≥ 2 ^ 63)) = false) (c1 : (items.isEmpty || x == 1) = false) (c2 : (decide (x ≤ 0) || items.isEmpty) = true) :
    Meets (Builtin.«tuple.__mul__» ⟨[.ref l, .int x u], []⟩) (fun _ R s => s.heap.get? l = some { cls := .type "tuple", dict := dd, data := .seq items n, slots := sl } ∧
      R (.ok (.ret (Value.ref s.heap.objs.size))) { s with heap := s.heap.push { cls := Value.type "tuple", data := Data.seq #[] }, toks := s.toks }) :=
  .of_wp fun prog w A R s h => by
    obtain ⟨hp, g, d, tk, os⟩ := s
    obtain ⟨hl, h⟩ := h
    have f1 := AutoSeq1.idx_int
    wp_walk using wpAny_loadPart' hl
    repeat (first
      | (refine wpAny_ite_false (decide_eq_false (by rw [c0]; exact Bool.false_ne_true)) ?_; wp_walk using wpAny_loadPart' hl)
      | (refine wpAny_ite_false (decide_eq_false (by rw [c1]; exact Bool.false_ne_true)) ?_; wp_walk using wpAny_loadPart' hl)
      | (refine wpAny_ite_true (decide_eq_true c2) ?_; wp_walk using wpAny_loadPart' hl))
    exact ⟨_, rfl, h⟩
theorem op_rep01 : OpR X (binaryOp .Mult) (fun x y H Q => ∃ l k xs, x = .ref l ∧ y = .int k ∧ SqT X.K H l xs ∧ ((((k = 1 ∨ (k ≤ 0 ∧ xs = [])) ∧ -1000 ≤ k) ∧ Q (.ref l) H) ∨ (xs ≠ [] ∧ k ≤ 0 ∧ -1000 ≤ k ∧ ∀ p, H p = none → Q (.ref p) (upd H p (.tup []))))) := by
  intro pins s σ H x y v u Q I rx ry h
  obtain ⟨l, k, xs, rfl, rfl, hT, h⟩ := h
  cases rx
  obtain ⟨t, rfl⟩ := ry
  obtain ⟨its, r, ⟨⟨cls, dd, data, sl⟩, ho, hc, n, hd⟩, hs⟩ := I.tuple hT
  simp only at hc hd
  subst hc hd
  have hle : its.length = xs.length := r.length.symm
  rcases h with ⟨⟨hk, hb⟩, q⟩ | ⟨hne, hk, hb, q⟩
  · have c0 : (decide (k < -(2 ^ 63)) || decide (k ≥ 2 ^ 63)) = false := by
      have : k ≤ 1 := by omega
      rw [decide_eq_false (by omega), decide_eq_false (by omega)] <;> rfl
    have c1 : (its.toArray.isEmpty || k == 1) = true := by
      rcases hk with rfl | ⟨_, rfl⟩
      · simp
      · have : its = [] := List.eq_nil_of_length_eq_zero (by rw [hle]; rfl)
        subst this; rfl
    refine wpAny_binaryOp_repeat_ref (T := "tuple") (U := "int") (by decide) ⟨_, ho, rfl⟩ (fun s' => typeIs_int s' k t) noFill_tuple_mul F.fills_int_mul F.slot_int_rmul repeat_tuple F.slot_int_index.lookup
      (call_meets F.slot_int_rmul (typeIs_int s k t) F.entry_int_rmul (F.args_int_rmul_2 _ _) (int_rmul_tuple k t l its.toArray n dd sl)
        ⟨ho, rfl, ⟨_, ho, rfl⟩, call_meets F.slot_tuple_mul ⟨_, ho, rfl⟩ F.entry_tuple_mul (F.args_tuple_mul_2 _ _) (tuple_mul1 l its.toArray n dd sl k t c0 c1) ⟨ho, ?_⟩⟩)
    exact ⟨.ref l, H, I, rfl, q⟩
  · have c0 : (decide (k < -(2 ^ 63)) || decide (k ≥ 2 ^ 63)) = false := by
      rw [decide_eq_false (by omega), decide_eq_false (by omega)] <;> rfl
    have hi : its.toArray.isEmpty = false := by
      cases its with
      | nil => exact absurd (List.eq_nil_of_length_eq_zero hle.symm) hne
      | cons a b => rfl
    have c1 : (its.toArray.isEmpty || k == 1) = false := by
      rw [hi, Bool.false_or]
      exact beq_eq_false_iff_ne.mpr (by omega)
    have c2 : (decide (k ≤ 0) || its.toArray.isEmpty) = true := by
      rw [decide_eq_true hk]; rfl
    refine wpAny_binaryOp_repeat_ref (T := "tuple") (U := "int") (by decide) ⟨_, ho, rfl⟩ (fun s' => typeIs_int s' k t) noFill_tuple_mul F.fills_int_mul F.slot_int_rmul repeat_tuple F.slot_int_index.lookup
      (call_meets F.slot_int_rmul (typeIs_int s k t) F.entry_int_rmul (F.args_int_rmul_2 _ _) (int_rmul_tuple k t l its.toArray n dd sl)
        ⟨ho, rfl, ⟨_, ho, rfl⟩, call_meets F.slot_tuple_mul ⟨_, ho, rfl⟩ F.entry_tuple_mul (F.args_tuple_mul_2 _ _) (tuple_mul0 l its.toArray n dd sl k t c0 c1 c2) ⟨ho, ?_⟩⟩)
    refine ⟨.ref s.heap.objs.size, _, I.laid (t' := s.toks) (o := .tup []) (fun b ob q => Heap.get?_push_of_some _ q) (Nat.le_refl _) ?_, rfl, q _ (I.hok.fresh (Nat.le_refl _))⟩
    exact ⟨Nat.zero_le _, [], .nil, IsTup.new _ _⟩
theorem od_mul : OpR X (binaryOp .Mult) (rD X.K dMul) := by
  intro pins s σ H x y v u Q I rx ry ⟨G, d, e, r, gs, hx, hy, ef, k⟩
  cases d with
  | int i =>
    cases e with
    | int j =>
      have ef : (if i.natAbs.log2 + j.natAbs.log2 < 1000000 then some (PyData.int (i * j)) else none) = some r := ef
      split at ef
      · rename_i hz
        cases ef
        exact op_mulW pins s σ H x y v u Q I rx ry ⟨i, j, hdInt hx, hdInt hy, hz, k _ G H (.inl ⟨rfl, rfl⟩) (.int _)⟩
      · cases ef
    | _ => cases ef
  | tuple xs =>
    cases e with
    | int n =>
      have ef : (if n = 1 then some (PyData.tuple xs) else if n ≤ 0 ∧ -1000 ≤ n then some (PyData.tuple []) else if xs ≠ [] ∧ 2 ≤ n ∧ n ≤ 1000 ∧ xs.length ≤ 1000 then some (PyData.tuple (List.replicate n.toNat xs).flatten) else none) = some r := ef
      split at ef
      · rename_i hz
        cases ef
        obtain ⟨a, vs, rfl, ga, qa⟩ := hdTup hx
        exact op_rep01 pins s σ H _ _ v u Q I rx ry ⟨a, n, vs, rfl, hdInt hy, .of (gs _ _ ga), .inl ⟨⟨.inl hz, by omega⟩, k _ G H (.inl ⟨rfl, rfl⟩) (.tup ga qa)⟩⟩
      split at ef
      · rename_i hz
        cases ef
        obtain ⟨a, vs, rfl, ga, qa⟩ := hdTup hx
        by_cases hv : vs = []
        · subst hv
          cases qa
          exact op_rep01 pins s σ H _ _ v u Q I rx ry ⟨a, n, [], rfl, hdInt hy, .of (gs _ _ ga), .inl ⟨⟨.inr ⟨hz.1, rfl⟩, hz.2⟩, k _ G H (.inl ⟨rfl, rfl⟩) (.tup ga .nil)⟩⟩
        · refine op_rep01 pins s σ H _ _ v u Q I rx ry ⟨a, n, vs, rfl, hdInt hy, .of (gs _ _ ga), .inr ⟨hv, hz.1, hz.2, fun p hp => ?_⟩⟩
          have gp : G p = none := noneOf fun h => by
            cases q : G p with
            | none => exact h q
            | some u => rw [gs _ _ q] at hp; cases hp
          exact k _ _ _ (.inr ⟨p, _, hp, rfl, rfl⟩) (.tup upd_same .nil)
      split at ef
      · rename_i hz
        cases ef
        obtain ⟨a, vs, rfl, ga, qa⟩ := hdTup hx
        have la := DqA.len qa
        refine op_repT pins s σ H _ _ v u Q I rx ry ⟨a, n, vs, rfl, hdInt hy, .of (gs _ _ ga), fun z => hz.1 (by subst z; cases qa; rfl), hz.2.1, hz.2.2.1, by omega, fun p hp => ?_⟩
        have gp : G p = none := noneOf fun h => by
          cases q : G p with
          | none => exact h q
          | some u => rw [gs _ _ q] at hp; cases hp
        exact k _ _ _ (.inr ⟨p, _, hp, rfl, rfl⟩) (.tup upd_same (dqAMono (same_upd1 gp) (DqA.rep qa _)))
      · cases ef
    | _ => cases ef
  | _ => cases ef
theorem noPy {i j : Int} (h : i.natAbs.log2 < 13000 ∨ j.natAbs.log2 < 9000) : Builtin.divisionGoesByPylong i j = false := by
  rcases h with h | h
  · unfold Builtin.divisionGoesByPylong
    by_cases hj : j == 0
    · simp [hj]
    · by_cases hi : i == 0
      · simp [hi, hj]
      · simp only [hi, hj, Bool.and_eq_false_iff, decide_eq_false_iff_not]
        simp only [Bool.false_eq_true, if_false]
        by_cases q : j.natAbs.log2 / 30 + 1 > 300
        · right
          omega
        · left
          exact q
  · exact PyProof.noPylong_of_log2 h
theorem od_div : OpR X (binaryOp .FloorDiv) (rD X.K dDiv) := by
  intro pins s σ H x y v u Q I rx ry ⟨G, d, e, r, gs, hx, hy, ef, k⟩
  cases d with
  | int i =>
    cases e with
    | int j =>
      have ef : (if 0 < j ∧ (i.natAbs.log2 < 13000 ∨ j.natAbs.log2 < 9000) then some (PyData.int (i / j)) else none) = some r := ef
      split at ef
      · rename_i hz
        cases ef
        cases hdInt hx
        cases hdInt hy
        obtain ⟨t, rfl⟩ := rx
        obtain ⟨t', rfl⟩ := ry
        refine floordiv_int (by omega) ?_ (.inl (noPy hz.2))
        rw [Int.fdiv_eq_ediv_of_nonneg i (by omega)]
        exact ⟨.int _, H, I.tok _, ⟨_, rfl⟩, k _ G H (.inl ⟨rfl, rfl⟩) (.int _)⟩
      · cases ef
    | _ => cases ef
  | _ => cases ef
theorem od_mod : OpR X (binaryOp .Mod) (rD X.K dMod) := by
  intro pins s σ H x y v u Q I rx ry ⟨G, d, e, r, gs, hx, hy, ef, k⟩
  cases d with
  | int i =>
    cases e with
    | int j =>
      have ef : (if 0 < j then some (PyData.int (i % j)) else none) = some r := ef
      split at ef
      · rename_i hz
        cases ef
        exact op_mod pins s σ H x y v u Q I rx ry ⟨i, j, hdInt hx, hdInt hy, hz, k _ G H (.inl ⟨rfl, rfl⟩) (.int _)⟩
      · cases ef
    | _ => cases ef
  | _ => cases ef
theorem od_pow : OpR X (binaryOp .Pow) (rD X.K dPow) := by
  intro pins s σ H x y v u Q I rx ry ⟨G, d, e, r, gs, hx, hy, ef, k⟩
  cases d with
  | int i =>
    cases e with
    | int j =>
      have ef : (if 0 ≤ j ∧ j ≤ 1000000 ∧ i.natAbs < 2 ^ 64 then some (PyData.int (i ^ j.toNat)) else none) = some r := ef
      split at ef
      · rename_i hz
        cases ef
        exact op_pow pins s σ H x y v u Q I rx ry ⟨i, j, hdInt hx, hdInt hy, hz, k _ G H (.inl ⟨rfl, rfl⟩) (.int _)⟩
      · cases ef
    | _ => cases ef
  | _ => cases ef
def dLt : D → D → Option Bool
  | .int i, .int j => some (decide (i < j))
  | .str i, .str j => some (decide (i.cps.toList < j.cps.toList))
  | _, _ => none
def dLe : D → D → Option Bool
  | .int i, .int j => some (decide (i ≤ j))
  | _, _ => none
def dGt : D → D → Option Bool
  | .int i, .int j => some (decide (j < i))
  | _, _ => none
def dGe : D → D → Option Bool
  | .int i, .int j => some (decide (j ≤ i))
  | _, _ => none
def dEq (d e : D) : Option Bool := if SeqAt.shaped d = true ∧ SeqAt.shaped e = true then some (PyData.eqv d e) else none
def dNe (d e : D) : Option Bool := if SeqAt.shaped d = true ∧ SeqAt.shaped e = true then some (!PyData.eqv d e) else none
def dIsN (d e : D) : Option Bool := match e, d with
  | .none, .none => some true
  | .none, .dict _ => none
  | .none, _ => some false
  | _, _ => none
def dNotN (d e : D) : Option Bool := (dIsN d e).bind fun b => some !b
theorem oc_lt : OpR X (compareOp .Lt) (rB X.K dLt) := by
  intro pins s σ H x y v u Q I rx ry ⟨G, d, e, r, gs, hx, hy, ef, k⟩
  cases d with
  | int i =>
    cases e with
    | int j =>
      cases ef
      exact op_lt pins s σ H x y v u Q I rx ry ⟨i, j, hdInt hx, hdInt hy, k⟩
    | _ => cases ef
  | str i =>
    cases e with
    | str j =>
      cases ef
      exact op_lt_str pins s σ H x y v u Q I rx ry ⟨i, j, hdStr hx, hdStr hy, k⟩
    | _ => cases ef
  | _ => cases ef
theorem oc_le : OpR X (compareOp .LtE) (rB X.K dLe) := by
  intro pins s σ H x y v u Q I rx ry ⟨G, d, e, r, gs, hx, hy, ef, k⟩
  cases d with
  | int i =>
    cases e with
    | int j =>
      cases ef
      exact op_le pins s σ H x y v u Q I rx ry ⟨i, j, hdInt hx, hdInt hy, k⟩
    | _ => cases ef
  | _ => cases ef
theorem oc_gt : OpR X (compareOp .Gt) (rB X.K dGt) := by
  intro pins s σ H x y v u Q I rx ry ⟨G, d, e, r, gs, hx, hy, ef, k⟩
  cases d with
  | int i =>
    cases e with
    | int j =>
      cases ef
      exact op_gt pins s σ H x y v u Q I rx ry ⟨i, j, hdInt hx, hdInt hy, k⟩
    | _ => cases ef
  | _ => cases ef
theorem oc_ge : OpR X (compareOp .GtE) (rB X.K dGe) := by
  intro pins s σ H x y v u Q I rx ry ⟨G, d, e, r, gs, hx, hy, ef, k⟩
  cases d with
  | int i =>
    cases e with
    | int j =>
      cases ef
      exact op_ge pins s σ H x y v u Q I rx ry ⟨i, j, hdInt hx, hdInt hy, k⟩
    | _ => cases ef
  | _ => cases ef
theorem hdDp {K : PySem.W.Frag} {G H : Hp} {v : V} {d : D} (s : Same G H) (h : Hd K G H v d) : Dp K H v d := by
  rcases h with h | ⟨a, vs, ds, rfl, rfl, p, q⟩
  · exact dqDp (dqMono s h)
  · exact .lst (.inl (.inl p)) (dqADp (dqAMono s q))
theorem oc_eq (hu : X.A.units + 64 < cLine) : OpR X (compareOp .Eq) (rB X.K dEq) := by
  intro pins s σ H x y v u Q I rx ry ⟨G, d, e, r, gs, hx, hy, ef, k⟩
  have ef : (if SeqAt.shaped d = true ∧ SeqAt.shaped e = true then some (PyData.eqv d e) else none) = some r := ef
  split at ef
  · rename_i hz
    cases ef
    exact op_eqD hu pins s σ H x y v u Q I rx ry ⟨d, e, hdDp gs hx, hdDp gs hy, hz.1, hz.2, k⟩
  · cases ef
theorem oc_ne (hu : X.A.units + 64 < cLine) : OpR X (compareOp .NotEq) (rB X.K dNe) := by
  intro pins s σ H x y v u Q I rx ry ⟨G, d, e, r, gs, hx, hy, ef, k⟩
  have ef : (if SeqAt.shaped d = true ∧ SeqAt.shaped e = true then some (!PyData.eqv d e) else none) = some r := ef
  split at ef
  · rename_i hz
    cases ef
    exact op_neD hu pins s σ H x y v u Q I rx ry ⟨d, e, hdDp gs hx, hdDp gs hy, hz.1, hz.2, k⟩
  · cases ef
theorem isN_val {G H : Hp} {x y : V} {d e : D} {r : Bool} (hx : Hd X.K G H x d) (hy : Hd X.K G H y e) (ef : dIsN d e = some r) : y = .non ∧ r = decide (x = .non) := by
  cases e with
  | none =>
    refine ⟨hdNon hy, ?_⟩
    rcases hx with hx | ⟨a, vs, ds, rfl, rfl, p, q⟩
    · cases hx <;> (cases ef; simp)
    · cases ef; simp
  | _ => cases d <;> cases ef
theorem oc_isN : OpR X (compareOp .Is) (rB X.K dIsN) := by
  intro pins s σ H x y v u Q I rx ry ⟨G, d, e, r, gs, hx, hy, ef, k⟩
  obtain ⟨h1, h2⟩ := isN_val hx hy ef
  exact op_isN pins s σ H x y v u Q I rx ry ⟨h1, by rw [← h2]; exact k⟩
def dIs (d e : D) : Option Bool := match d, e with
  | .bool b, .bool c => some (decide (b = c))
  | d, e => dIsN d e
theorem oc_is : OpR X (compareOp .Is) (rB X.K dIs) := by
  intro pins s σ H x y v u Q I rx ry ⟨G, d, e, r, gs, hx, hy, ef, k⟩
  have go : dIsN d e = some r → wpAny (model X.prog X.w) X.A (compareOp .Is v u) (L2.EP X pins σ Q) X.xe s := fun ef => oc_isN pins s σ H x y v u Q I rx ry ⟨G, d, e, r, gs, hx, hy, ef, k⟩
  cases d with
  | bool b =>
    cases e with
    | bool c =>
      cases ef
      cases hdBl hx
      cases hdBl hy
      exact op_isBl pins s σ H _ _ v u Q I rx ry ⟨b, c, rfl, rfl, k⟩
    | _ => exact go ef
  | _ => exact go (by cases e <;> exact ef)
theorem oc_isnot : OpR X (compareOp .IsNot) (rB X.K dNotN) := by
  intro pins s σ H x y v u Q I rx ry ⟨G, d, e, r, gs, hx, hy, ef, k⟩
  obtain ⟨b, eb, ef⟩ := bindS ef
  cases ef
  obtain ⟨h1, h2⟩ := isN_val hx hy eb
  exact op_notN pins s σ H x y v u Q I rx ry ⟨h1, by rw [← h2]; exact k⟩
def dFlat : D → Bool
  | .none => true
  | .bool _ => true
  | .int _ => true
  | .str _ => true
  | _ => false
abbrev InOk (x c : D) (ds : List D) : Prop := (dFlat x = true ∧ ds.all dFlat = true) ∨ (SeqAt.shaped x = true ∧ SeqAt.shaped c = true)
def dIn : D → D → Option Bool
  | x, .list ds => if InOk x (.list ds) ds then some (ds.any fun y => PyData.eqv y x) else none
  | x, .tuple ds => if InOk x (.tuple ds) ds then some (ds.any fun y => PyData.eqv y x) else none
  | _, _ => none
def dNin (x xs : D) : Option Bool := (dIn x xs).bind fun b => some !b
theorem flat_of {G : Hp} {v : V} {d : D} (h : Dq G v d) (f : dFlat d = true) : flatV v = true := by
  cases h <;> first | rfl | cases f
theorem eqv_flat {G : Hp} {v u : V} {d e : D} (h : Dq G v d) (q : Dq G u e) (f : dFlat d = true) (g : dFlat e = true) : eqV v u = PyData.eqv d e := by
  cases h <;> cases q <;> first | rfl | (cases f; done) | (cases g; done) | (simp [eqV, PyData.eqv]; done) | skip
theorem inV_flat {G : Hp} {u : V} {e : D} (q : Dq G u e) (g : dFlat e = true) : ∀ {vs : List V} {ds : List D}, DqA G vs ds → ds.all dFlat = true → vs.all flatV = true ∧ inV u vs = ds.any fun y => PyData.eqv y e
  | _, _, .nil, _ => ⟨rfl, rfl⟩
  | _, _, .cons (v := v) (d := d) h t, f => by
    rw [List.all_cons, Bool.and_eq_true] at f
    obtain ⟨h1, h2⟩ := inV_flat q g t f.2
    refine ⟨by rw [List.all_cons, flat_of h f.1, h1]; rfl, ?_⟩
    show (eqV v u || inV u _) = (PyData.eqv d e || _)
    rw [h2, eqv_flat h q f.1 g]
end
end Pd

set_option Elab.async false
set_option linter.all false
set_option maxRecDepth 100000
set_option maxHeartbeats 4000000
namespace Pd
open PySem PySem.Spec PyProof.Rows L2
section
variable {X : Cx}
theorem op_inT (hu : X.A.units + 65 < cLine) : OpR X (compareOp .In) (fun x y H Q => ∃ d ds, Dp X.K H x d ∧ Dp X.K H y (.tuple ds) ∧ SeqAt.shaped d = true ∧ SeqAt.shaped (.tuple ds) = true ∧ Q (.bl (ds.any fun z => PyData.eqv z d)) H) := by
  intro pins s σ H x y v u Q I rx ry h
  obtain ⟨d, ds, hd, he, sd, se, q⟩ := h
  obtain ⟨as, r1⟩ := Dp.reads I d x v hd rx
  obtain ⟨bs, r2⟩ := Dp.reads I (.tuple ds) y u he ry
  exact SeqAt.in_tuple_reads r2 r1 (SeqAt.canLay_of_shaped se) (SeqAt.canLay_of_shaped sd) (room_in_shaped sd hu) ⟨.bl _, H, I, rfl, q⟩
theorem op_notInT (hu : X.A.units + 65 < cLine) : OpR X (compareOp .NotIn) (fun x y H Q => ∃ d ds, Dp X.K H x d ∧ Dp X.K H y (.tuple ds) ∧ SeqAt.shaped d = true ∧ SeqAt.shaped (.tuple ds) = true ∧ Q (.bl (!ds.any fun z => PyData.eqv z d)) H) := by
  intro pins s σ H x y v u Q I rx ry h
  obtain ⟨d, ds, hd, he, sd, se, q⟩ := h
  obtain ⟨as, r1⟩ := Dp.reads I d x v hd rx
  obtain ⟨bs, r2⟩ := Dp.reads I (.tuple ds) y u he ry
  exact SeqAt.notIn_tuple_reads r2 r1 (SeqAt.canLay_of_shaped se) (SeqAt.canLay_of_shaped sd) (room_in_shaped sd hu) ⟨.bl _, H, I, rfl, q⟩
theorem oc_in (hu : X.A.units + 65 < cLine) : OpR X (compareOp .In) (rB X.K dIn) := by
  intro pins s σ H x y v u Q I rx ry ⟨G, d, e, r, gs, hx, hy, ef, k⟩
  cases e with
  | list ds =>
    have ef : (if InOk d (.list ds) ds then some (ds.any fun y => PyData.eqv y d) else none) = some r := ef
    split at ef
    · rename_i hz
      cases ef
      rcases hz with hz | hz
      · obtain ⟨a, vs, rfl, ga, qa⟩ := hdLst gs hy
        rcases hx with hx | ⟨_, _, _, _, rfl, _⟩
        · obtain ⟨h1, h2⟩ := inV_flat hx hz.1 qa hz.2
          exact op_in_seq pins s σ H x _ v u Q I rx ry ⟨a, vs, rfl, .inl (.inl (.inl ga)), flat_of hx hz.1, h1, by rw [if_neg Bool.false_ne_true, h2]; exact k⟩
        · cases hz.1
      · exact op_inD hu pins s σ H x y v u Q I rx ry ⟨d, ds, hdDp gs hx, hdDp gs hy, hz.1, hz.2, k⟩
    · cases ef
  | tuple ds =>
    have ef : (if InOk d (.tuple ds) ds then some (ds.any fun y => PyData.eqv y d) else none) = some r := ef
    split at ef
    · rename_i hz
      cases ef
      rcases hz with hz | hz
      · obtain ⟨a, vs, rfl, ga, qa⟩ := hdTup hy
        rcases hx with hx | ⟨_, _, _, _, rfl, _⟩
        · obtain ⟨h1, h2⟩ := inV_flat hx hz.1 qa hz.2
          exact op_in_seq pins s σ H x _ v u Q I rx ry ⟨a, vs, rfl, .inr (.inl (.inl (gs _ _ ga))), flat_of hx hz.1, h1, by rw [if_neg Bool.false_ne_true, h2]; exact k⟩
        · cases hz.1
      · exact op_inT hu pins s σ H x y v u Q I rx ry ⟨d, ds, hdDp gs hx, hdDp gs hy, hz.1, hz.2, k⟩
    · cases ef
  | _ => cases d <;> cases ef
theorem oc_nin (hu : X.A.units + 65 < cLine) : OpR X (compareOp .NotIn) (rB X.K dNin) := by
  intro pins s σ H x y v u Q I rx ry ⟨G, d, e, r, gs, hx, hy, ef, k⟩
  obtain ⟨b, eb, ef⟩ := bindS ef
  cases ef
  cases e with
  | list ds =>
    have eb : (if InOk d (.list ds) ds then some (ds.any fun y => PyData.eqv y d) else none) = some b := eb
    split at eb
    · rename_i hz
      cases eb
      rcases hz with hz | hz
      · obtain ⟨a, vs, rfl, ga, qa⟩ := hdLst gs hy
        rcases hx with hx | ⟨_, _, _, _, rfl, _⟩
        · obtain ⟨h1, h2⟩ := inV_flat hx hz.1 qa hz.2
          exact op_notIn_seq pins s σ H x _ v u Q I rx ry ⟨a, vs, rfl, .inl (.inl (.inl ga)), flat_of hx hz.1, h1, by rw [if_pos rfl, h2]; exact k⟩
        · cases hz.1
      · exact op_notInD hu pins s σ H x y v u Q I rx ry ⟨d, ds, hdDp gs hx, hdDp gs hy, hz.1, hz.2, k⟩
    · cases eb
  | tuple ds =>
    have eb : (if InOk d (.tuple ds) ds then some (ds.any fun y => PyData.eqv y d) else none) = some b := eb
    split at eb
    · rename_i hz
      cases eb
      rcases hz with hz | hz
      · obtain ⟨a, vs, rfl, ga, qa⟩ := hdTup hy
        rcases hx with hx | ⟨_, _, _, _, rfl, _⟩
        · obtain ⟨h1, h2⟩ := inV_flat hx hz.1 qa hz.2
          exact op_notIn_seq pins s σ H x _ v u Q I rx ry ⟨a, vs, rfl, .inr (.inl (.inl (gs _ _ ga))), flat_of hx hz.1, h1, by rw [if_pos rfl, h2]; exact k⟩
        · cases hz.1
      · exact op_notInT hu pins s σ H x y v u Q I rx ry ⟨d, ds, hdDp gs hx, hdDp gs hy, hz.1, hz.2, k⟩
    · cases eb
  | _ => cases d <;> cases eb
end
def dIx : D → D → Option D
  | .list xs, .int i => atI xs i
  | .tuple xs, .int i => atI xs i
  | .str z, .int i => if z.length ≤ lineN then (atI z.cps.toList i).bind fun c => some (.str ⟨#[c]⟩) else none
  | _, _ => none
theorem atI_dq {G : Hp} {vs : List V} {ds : List D} {i : Int} {d : D} (h : DqA G vs ds) (e : atI ds i = some d) : ∃ v, atI vs i = some v ∧ Dq G v d := by
  unfold atI at e ⊢
  rw [DqA.len h]
  obtain ⟨j, ej, e⟩ := bindS e
  rw [ej]
  exact DqA.get h e
section
variable {X : Cx} {ρ : Env} {a b : Expr} {ma mb : Option D} {pos : Pos}
end
def cutD {α : Type} (xs : List α) (lo hi : Option Int) : List α := (xs.drop (HT.sIx xs.length 0 lo)).take (HT.sIx xs.length xs.length hi - HT.sIx xs.length 0 lo)
theorem cutD_dq {G : Hp} {vs : List V} {ds : List D} (h : DqA G vs ds) (lo hi : Option Int) : DqA G (cutV vs lo hi) (cutD ds lo hi) := by
  unfold cutV cutD
  rw [DqA.len h]
  exact DqA.take _ (DqA.drop _ h)
def dCut (lo hi : Option Int) : D → Option D
  | .list xs => some (.list (cutD xs lo hi))
  | .tuple xs => some (.tuple (cutD xs lo hi))
  | _ => none
def dCutL (lo hi : Option Int) : D → Option (List D)
  | .list xs => some (cutD xs lo hi)
  | _ => none
def dPart : D → Option (Option Int)
  | .int i => some (some i)
  | _ => none
theorem poImp {X : Cx} {e : Option Expr} {t t' : TO} (h : PO X e t) (k : ∀ σ H Q, t' σ H Q → t σ H Q) : PO X e t' := ⟨fun pins s σ H Q I q => h.run pins s σ H Q I (k _ _ _ q)⟩
section
variable {X : Cx} {ρ : Env} {a : Expr} {lo hi : Option Expr} {ma : Option D} {ml mh : Option (Option Int)} {pos p2 : Pos}
end
section
variable {X : Cx} {ρ : Env} {k : Nat} {f : Addr} {fd : FuncData} {ps : List Str} {Fm : List D → Option D} {x : Str} {p pos : Pos} {e : Expr} {es : List Expr} {B : Bd}
end
def rC1 (K : PySem.W.Frag) (f : D → Option D) : List V → Hp → VK → Prop := fun vs H Q => ∃ G x d r, vs = [x] ∧ Same G H ∧ Hd K G H x d ∧ f d = some r ∧ ∀ z G' H', Gro G H G' H' → Dq G' z r → Q z H'
def rC1L (K : PySem.W.Frag) (f : D → Option (List D)) : List V → Hp → VK → Prop := fun vs H Q => ∃ G x d r, vs = [x] ∧ Same G H ∧ Hd K G H x d ∧ f d = some r ∧ ∀ p ws, H p = none → DqA G ws r → Q (.ref p) (upd H p (.lst ws))
def rCn (f : List D → Option D) : List V → Hp → VK → Prop := fun vs H Q => ∃ G ds r, Same G H ∧ DqA G vs ds ∧ f ds = some r ∧ ∀ z G' H', Gro G H G' H' → Dq G' z r → Q z H'
theorem gNoneS {G H : Hp} (gs : Same G H) {p : Addr} (hp : H p = none) : G p = none := noneOf fun h => by
  cases q : G p with
  | none => exact h q
  | some u => rw [gs _ _ q] at hp; cases hp
section
variable {X : Cx} {ρ : Env} {x : Str} {p pos : Pos} {e : Expr} {es : List Expr} {m : Option D} {id T : String} {f : D → Option D} {fl : D → Option (List D)} {fn : List D → Option D} {B : Bd}
end
def dLen : D → Option D
  | .list xs => some (.int xs.length)
  | .tuple xs => some (.int xs.length)
  | .str x => if x.length ≤ lineN then some (.int x.length) else none
  | _ => none
def dAbs : D → Option D
  | .int i => some (.int (if i < 0 then -i else i))
  | _ => none
def dTuple : D → Option D
  | .list xs => some (.tuple xs)
  | .tuple xs => some (.tuple xs)
  | _ => none
def dList : D → Option (List D)
  | .list xs => some xs
  | .tuple xs => some xs
  | _ => none
def dMin2 : List D → Option D
  | [.int i, .int j] => some (.int (if j < i then j else i))
  | _ => none
def dMax2 : List D → Option D
  | [.int i, .int j] => some (.int (if j > i then j else i))
  | _ => none
def dInts : List D → Option (List Int)
  | [] => some []
  | .int i :: r => (dInts r).bind fun is => some (i :: is)
  | _ => none
def dBools : List D → Option (List Bool)
  | [] => some []
  | .bool i :: r => (dBools r).bind fun is => some (i :: is)
  | _ => none
theorem dInts_map {G : Hp} : ∀ {ds : List D} {is : List Int} {vs : List V}, dInts ds = some is → DqA G vs ds → vs = is.map V.int
  | [], is, vs, e, q => by cases e; cases q; rfl
  | .int i :: r, is, vs, e, q => by
    obtain ⟨js, ej, e⟩ := bindS e
    cases e
    cases q with
    | cons h t =>
      cases h
      rw [dInts_map ej t]; rfl
theorem dBools_map {G : Hp} : ∀ {ds : List D} {is : List Bool} {vs : List V}, dBools ds = some is → DqA G vs ds → vs = is.map V.bl
  | [], is, vs, e, q => by cases e; cases q; rfl
  | .bool i :: r, is, vs, e, q => by
    obtain ⟨js, ej, e⟩ := bindS e
    cases e
    cases q with
    | cons h t =>
      cases h
      rw [dBools_map ej t]; rfl
def dSum : D → Option D
  | .list xs => (dInts xs).bind fun is => some (.int is.sum)
  | .tuple xs => (dInts xs).bind fun is => some (.int is.sum)
  | _ => none
def dAll : D → Option D
  | .list xs => (dBools xs).bind fun is => some (.bool (is.all id))
  | _ => none
def dAny : D → Option D
  | .list xs => (dBools xs).bind fun is => some (.bool (is.any id))
  | _ => none
def maxI : List Int → Int
  | [] => 0
  | [x] => x
  | x :: y :: r => max x (maxI (y :: r))
def minI : List Int → Int
  | [] => 0
  | [x] => x
  | x :: y :: r => min x (minI (y :: r))
theorem maxI_is : ∀ {ns : List Int} {m : Int}, m ∈ ns → (∀ y, y ∈ ns → y ≤ m) → m = maxI ns
  | [x], m, h, k => by
    simp at h
    rw [h]
    rfl
  | x :: y :: r, m, h, k => by
    have up : ∀ {l : List Int}, ∀ z ∈ l, z ≤ maxI l := by
      intro l
      induction l with
      | nil => intro z hz; cases hz
      | cons a l ih =>
        intro z hz
        cases l with
        | nil => simp at hz; subst hz; exact Int.le_refl _
        | cons b l =>
          rcases List.mem_cons.mp hz with e | e
          · subst e; show z ≤ max z _; omega
          · have := ih z e; show z ≤ max a _; omega
    have mem : ∀ {l : List Int}, l ≠ [] → maxI l ∈ l := by
      intro l
      induction l with
      | nil => intro h; exact absurd rfl h
      | cons a l ih =>
        intro _
        cases l with
        | nil => exact List.mem_cons_self
        | cons b l =>
          have := ih (by simp)
          show max a (maxI (b :: l)) ∈ _
          rcases Int.le_total a (maxI (b :: l)) with q | q
          · rw [Int.max_eq_right q]; exact List.mem_cons_of_mem _ this
          · rw [Int.max_eq_left q]; exact List.mem_cons_self
    have h1 := up m h
    have h2 := k _ (mem (l := x :: y :: r) (by simp))
    omega
theorem minI_is : ∀ {ns : List Int} {m : Int}, m ∈ ns → (∀ y, y ∈ ns → m ≤ y) → m = minI ns
  | [x], m, h, k => by
    simp at h
    rw [h]
    rfl
  | x :: y :: r, m, h, k => by
    have up : ∀ {l : List Int}, ∀ z ∈ l, minI l ≤ z := by
      intro l
      induction l with
      | nil => intro z hz; cases hz
      | cons a l ih =>
        intro z hz
        cases l with
        | nil => simp at hz; subst hz; exact Int.le_refl _
        | cons b l =>
          rcases List.mem_cons.mp hz with e | e
          · subst e; show min z _ ≤ z; omega
          · have := ih z e; show min a _ ≤ z; omega
    have mem : ∀ {l : List Int}, l ≠ [] → minI l ∈ l := by
      intro l
      induction l with
      | nil => intro h; exact absurd rfl h
      | cons a l ih =>
        intro _
        cases l with
        | nil => exact List.mem_cons_self
        | cons b l =>
          have := ih (by simp)
          show min a (minI (b :: l)) ∈ _
          rcases Int.le_total a (minI (b :: l)) with q | q
          · rw [Int.min_eq_left q]; exact List.mem_cons_self
          · rw [Int.min_eq_right q]; exact List.mem_cons_of_mem _ this
    have h1 := up m h
    have h2 := k _ (mem (l := x :: y :: r) (by simp))
    omega
def dMax : D → Option D
  | .list xs => (dInts xs).bind fun is => if is = [] then none else some (.int (maxI is))
  | .tuple xs => (dInts xs).bind fun is => if is = [] then none else some (.int (maxI is))
  | _ => none
def dMin : D → Option D
  | .list xs => (dInts xs).bind fun is => if is = [] then none else some (.int (minI is))
  | .tuple xs => (dInts xs).bind fun is => if is = [] then none else some (.int (minI is))
  | _ => none
def sortI (is : List Int) : List Int := is.mergeSort (fun a b => decide (a ≤ b))
def dTups : List D → Option (List (List Int))
  | [] => some []
  | .tuple xs :: r => (dInts xs).bind fun is => (dTups r).bind fun t => some (is :: t)
  | _ => none
def tupB : Int := 65536
def sortT (ts : List (List Int)) : List (List Int) := ts.mergeSort (fun a b => decide (TS.code tupB a ≤ TS.code tupB b))
def tupD (t : List Int) : D := .tuple (t.map PyData.int)
def tupsFit (ts : List (List Int)) : Bool := decide (ts.length < 64) && (decide (1 ≤ (ts.headD [0]).length) && ts.all fun t => decide (t.length = (ts.headD [0]).length) && t.all fun m => decide (0 ≤ m) && decide (m < tupB))
theorem fit_of {ts : List (List Int)} (h : tupsFit ts = true) : ts.length < 64 ∧ ∃ d, 1 ≤ d ∧ ∀ t ∈ ts, t.length = d ∧ TS.Bd tupB t := by
  unfold tupsFit at h
  rw [Bool.and_eq_true, Bool.and_eq_true] at h
  refine ⟨of_decide_eq_true h.1, (ts.headD [0]).length, of_decide_eq_true h.2.1, fun t ht => ?_⟩
  have := List.all_eq_true.mp h.2.2 t ht
  rw [Bool.and_eq_true] at this
  refine ⟨of_decide_eq_true this.1, fun m hm => ?_⟩
  have := List.all_eq_true.mp this.2 m hm
  rw [Bool.and_eq_true] at this
  exact ⟨of_decide_eq_true this.1, of_decide_eq_true this.2⟩
def dSortT (xs : List D) : Option (List D) := (dTups xs).bind fun ts => if tupsFit ts = true then some ((sortT ts).map tupD) else none
def dSorted : D → Option (List D)
  | .list xs => match dInts xs with
    | some is => some ((sortI is).map PyData.int)
    | none => dSortT xs
  | _ => none
theorem dInts_is : ∀ {xs : List D} {is : List Int}, dInts xs = some is → xs = is.map PyData.int
  | [], is, h => by cases h; rfl
  | x :: xs, is, h => by
    cases x with
    | int i =>
      obtain ⟨is', ei', h⟩ := bindS h
      cases h
      rw [dInts_is ei']; rfl
    | _ => cases h
theorem dInts_of : ∀ is : List Int, dInts (is.map PyData.int) = some is
  | [] => rfl
  | i :: is => by show (dInts (is.map PyData.int)).bind _ = _; rw [dInts_of is]; rfl
def unTup : D → List Int
  | .tuple xs => (dInts xs).getD []
  | _ => []
theorem un_tup (t : List Int) : unTup (tupD t) = t := by show (dInts (t.map PyData.int)).getD [] = t; rw [dInts_of]; rfl
theorem dTups_map : ∀ {ds : List D} {ts : List (List Int)}, dTups ds = some ts → ds = ts.map tupD
  | [], ts, h => by cases h; rfl
  | d :: ds, ts, h => by
    cases d with
    | tuple xs =>
      obtain ⟨is, ei, h⟩ := bindS h
      obtain ⟨t, et, h⟩ := bindS h
      cases h
      rw [dTups_map et, dInts_is ei]; rfl
    | _ => cases h
theorem code_inj {B : Int} : ∀ {a b : List Int}, a.length = b.length → TS.Bd B a → TS.Bd B b → TS.code B a = TS.code B b → a = b
  | [], [], _, _, _, _ => rfl
  | [], _ :: _, h, _, _, _ => by simp at h
  | _ :: _, [], h, _, _, _ => by simp at h
  | x :: xs, y :: ys, hl, ha, hb, e => by
    have hl' : xs.length = ys.length := by simpa using hl
    rcases Int.lt_trichotomy x y with h | h | h
    · have := TS.code_lt hl' ha.tail hb.tail h; omega
    · subst h
      have e2 : TS.code B xs = TS.code B ys := by
        have e : x * B ^ xs.length + TS.code B xs = x * B ^ ys.length + TS.code B ys := e
        rw [← hl'] at e; omega
      rw [code_inj hl' ha.tail hb.tail e2]
    · have := TS.code_lt hl'.symm hb.tail ha.tail h; omega
theorem sortT_is {ts us : List (List Int)} {d : Nat} (hd : ∀ t ∈ ts, t.length = d ∧ TS.Bd tupB t) (hp : us.Perm ts) (hs : us.Pairwise (fun a b => TS.code tupB a ≤ TS.code tupB b)) : us = sortT ts := by
  have h1 : (sortT ts).Perm ts := List.mergeSort_perm ts _
  have h2 : (sortT ts).Pairwise (fun a b => TS.code tupB a ≤ TS.code tupB b) := by
    have := List.pairwise_mergeSort (le := fun a b : List Int => decide (TS.code tupB a ≤ TS.code tupB b)) (fun a b c h1 h2 => by simp at *; omega) (fun a b => by simp; omega) ts
    exact this.imp fun h => by simpa using h
  refine List.Perm.eq_of_pairwise (fun a b ma mb l1 l2 => ?_) hs h2 (hp.trans h1.symm)
  obtain ⟨la, ba⟩ := hd a (hp.subset ma)
  obtain ⟨lb, bb⟩ := hd b (h1.subset mb)
  exact code_inj (la.trans lb.symm) ba bb (Int.le_antisymm l1 l2)
theorem DqA.perm {G : Hp} {ws vs : List V} (p : ws.Perm vs) : ∀ {ds : List D}, DqA G vs ds → ∃ es, es.Perm ds ∧ DqA G ws es := by
  induction p with
  | nil => intro ds h; exact ⟨ds, List.Perm.refl _, h⟩
  | cons x p ih =>
    intro ds h
    cases h with
    | cons h1 t =>
      obtain ⟨es, e1, e2⟩ := ih t
      exact ⟨_ :: es, e1.cons _, .cons h1 e2⟩
  | swap x y l =>
    intro ds h
    cases h with
    | cons h1 t =>
      cases t with
      | cons h2 t => exact ⟨_ :: _ :: _, List.Perm.swap _ _ _, .cons h2 (.cons h1 t)⟩
  | trans p1 p2 ih1 ih2 =>
    intro ds h
    obtain ⟨es, e1, e2⟩ := ih2 h
    obtain ⟨fs, f1, f2⟩ := ih1 e2
    exact ⟨fs, f1.trans e1, f2⟩
theorem dq_ints (G : Hp) : ∀ is : List Int, DqA G (is.map V.int) (is.map PyData.int)
  | [] => .nil
  | i :: r => .cons (.int i) (dq_ints G r)
theorem sortI_is {ns ms : List Int} (hp : ms.Perm ns) (hs : ms.Pairwise (· ≤ ·)) : ms = sortI ns := by
  have h1 : (sortI ns).Perm ns := List.mergeSort_perm ns _
  have h2 : (sortI ns).Pairwise (· ≤ ·) := by
    have := List.pairwise_mergeSort (le := fun a b : Int => decide (a ≤ b)) (fun a b c h1 h2 => by simp at *; omega) (fun a b => by simp; omega) ns
    exact this.imp fun h => by simpa using h
  exact List.Perm.eq_of_pairwise (fun a b _ _ h1 h2 => Int.le_antisymm h1 h2) hs h2 (hp.trans h1.symm)
section
variable {prog : Program} {w : World} {A : Around} {E : Value → Shared → Prop} {s : Shared} {l : Addr} {xs : Array (Int × Tok)} {its : List Value} {ns : List Int}
theorem iter_intTup {Q : Value → Shared → Prop} (hl : s.heap.IsTuple l (intItems xs))
    (h : ∀ s₂ : Shared, s₂ = { s with heap := s.heap.push { cls := .type "tuple_iterator", data := .fields #[.ref l, .int 0 0] } } →
      (s₂.heap.IsTupleIter s.heap.objs.size l 0 ∧ s₂.heap.IsTuple l (intItems xs)) → (∀ b ∈ [s.heap.objs.size, l], b < s₂.heap.objs.size) → l ≠ s.heap.objs.size → Q (.ref s.heap.objs.size) s₂) :
    wpAny (model prog w) A (pyIter (.ref l)) Q E s := by
  have hlt : l < s.heap.objs.size := by obtain ⟨_, e, _⟩ := hl; exact Heap.lt_size e
  refine wpAny_pyIter_tuple hl (h _ rfl ⟨⟨_, Heap.get?_push_size _ rfl, rfl, rfl⟩, hl.push _⟩ (fun b hb => ?_) (Nat.ne_of_lt hlt))
  show b < (s.heap.push _).objs.size
  rw [Heap.size_push]
  rcases List.mem_cons.mp hb with rfl | hb
  · exact Nat.lt_succ_self _
  · rcases List.mem_cons.mp hb with rfl | hb
    · exact Nat.lt_succ_of_lt hlt
    · cases hb
theorem old_keptT {h' : Heap} (hk : ∀ b o, b ∉ [s.heap.objs.size] → (s.heap.push { cls := .type "tuple_iterator", data := .fields #[.ref l, .int 0 0] }).get? b = some o → h'.get? b = some o) :
    ∀ b o, s.heap.get? b = some o → h'.get? b = some o := fun b o e => by
  refine hk b o (fun hm => ?_) (Heap.get?_push_of_some _ e)
  rcases List.mem_cons.mp hm with e1 | hm
  · exact absurd (e1 ▸ Heap.lt_size e) (Nat.lt_irrefl _)
  · cases hm
theorem sumT_raw {Q : Value → Shared → Prop} (hh : A.handled = none) (hl : s.heap.IsTuple l its.toArray) (hi : IntsAre its ns)
    (h : ∀ h' tk t', (∀ b o, s.heap.get? b = some o → h'.get? b = some o) → Q (.int ns.sum t') { s with heap := h', toks := tk }) : wpAny (model prog w) A (call (.builtin "sum") [.ref l]) Q E s := by
  obtain ⟨xs, e⟩ := hi.allInts.items
  have hn : numsOf (intItems xs).toList = ns := by rw [← e]; exact hi.numsOf
  rw [nums_intItems] at hn
  rw [e] at hl
  refine call_sum_walkG (iter_intTup hl fun s₂ e st hfp hlI => ?_)
  subst e
  refine ⟨_, _, _, _, _, _, numAt xs, rfl, Walks.tuple (A := A.in1) hh _ l hlI (intItems xs), st, hfp, (fun _ _ => intItems_at), fun h' tk t' hk => ?_⟩
  have := h h' tk t' (old_keptT hk)
  rw [show (intItems xs).size = xs.size by simp [intItems], preSum_eq, List.take_of_length_le (by simp), hn]; exact this
theorem maxT_raw {Q : Value → Shared → Prop} (hh : A.handled = none) (hl : s.heap.IsTuple l its.toArray) (hi : IntsAre its ns) (hne : 0 < ns.length)
    (h : ∀ h' tk M t', (∀ b o, s.heap.get? b = some o → h'.get? b = some o) → M ∈ ns → (∀ a, a ∈ ns → a ≤ M) → Q (.int M t') { s with heap := h', toks := tk }) : wpAny (model prog w) A (call (.builtin "max") [.ref l]) Q E s := by
  obtain ⟨xs, e⟩ := hi.allInts.items
  have hn : numsOf (intItems xs).toList = ns := by rw [← e]; exact hi.numsOf
  rw [nums_intItems] at hn
  subst hn
  rw [e] at hl
  have hsz : 0 < xs.size := by simpa using hne
  refine call_max_walk (iter_intTup hl fun s₂ e st hfp hlI => ?_)
  subst e
  refine ⟨_, _, _, _, _, _, _, rfl, Walks.tuple (A := A.in1) hh _ l hlI (intItems xs), st, hfp, by simpa [intItems] using hsz, CmpOf.ints_gt (numAt xs) (fun _ _ => intItems_at), fun v h' tk hP hk => ?_⟩
  have hv : (intItems xs)[argBest (fun i j => decide (numAt xs i > numAt xs j)) (xs.size - 1)]? = some v := by simpa [intItems] using hP
  obtain ⟨t, rfl⟩ := intItems_at hv
  obtain ⟨h1, h2⟩ := argBest_gt (numAt xs) (xs.size - 1)
  refine h h' tk _ t (old_keptT hk) ?_ fun a ha => ?_
  · rw [numAt_eq]; exact PySem.getD_mem (by rw [List.length_map, Array.length_toList]; omega)
  · obtain ⟨j, hj, rfl⟩ := mem_getD ha
    rw [List.length_map, Array.length_toList] at hj
    rw [← numAt_eq]; exact h2 j (by omega)
theorem minT_raw {Q : Value → Shared → Prop} (hh : A.handled = none) (hl : s.heap.IsTuple l its.toArray) (hi : IntsAre its ns) (hne : 0 < ns.length)
    (h : ∀ h' tk M t', (∀ b o, s.heap.get? b = some o → h'.get? b = some o) → M ∈ ns → (∀ a, a ∈ ns → M ≤ a) → Q (.int M t') { s with heap := h', toks := tk }) : wpAny (model prog w) A (call (.builtin "min") [.ref l]) Q E s := by
  obtain ⟨xs, e⟩ := hi.allInts.items
  have hn : numsOf (intItems xs).toList = ns := by rw [← e]; exact hi.numsOf
  rw [nums_intItems] at hn
  subst hn
  rw [e] at hl
  have hsz : 0 < xs.size := by simpa using hne
  refine call_min_walk (iter_intTup hl fun s₂ e st hfp hlI => ?_)
  subst e
  refine ⟨_, _, _, _, _, _, _, rfl, Walks.tuple (A := A.in1) hh _ l hlI (intItems xs), st, hfp, by simpa [intItems] using hsz, CmpOf.ints_lt (numAt xs) (fun _ _ => intItems_at), fun v h' tk hP hk => ?_⟩
  have hv : (intItems xs)[argBest (fun i j => decide (numAt xs i < numAt xs j)) (xs.size - 1)]? = some v := by simpa [intItems] using hP
  obtain ⟨t, rfl⟩ := intItems_at hv
  obtain ⟨h1, h2⟩ := argBest_lt (numAt xs) (xs.size - 1)
  refine h h' tk _ t (old_keptT hk) ?_ fun a ha => ?_
  · rw [numAt_eq]; exact PySem.getD_mem (by rw [List.length_map, Array.length_toList]; omega)
  · obtain ⟨j, hj, rfl⟩ := mem_getD ha
    rw [List.length_map, Array.length_toList] at hj
    rw [← numAt_eq]; exact h2 j (by omega)
end
section
variable {X : Cx}
theorem cr_sumT (hc : X.calm = true) : CallR X (.builtin "sum") (fun vs H Q => ∃ (a : Addr) (ns : List Int), vs = [V.ref a] ∧ SqT X.K H a (ns.map V.int) ∧ Q (.int ns.sum) H) := by
  intro pins s σ H vs us Q I r h
  obtain ⟨a, ns, rfl, hs, q⟩ := h
  obtain ⟨its, rv, hl, _⟩ := I.tuple hs
  rw [Vals.ref1 r]
  exact sumT_raw (I.ok.hd hc) (show s.heap.IsTuple a its.toArray from hl) rv.ints fun h' tk t' hk => ⟨.int _, H, I.kept hk, ⟨_, rfl⟩, q⟩
theorem cr_maxT (hc : X.calm = true) : CallR X (.builtin "max") (fun vs H Q => ∃ (a : Addr) (ns : List Int), vs = [V.ref a] ∧ SqT X.K H a (ns.map V.int) ∧ 0 < ns.length ∧ ∀ m, m ∈ ns → (∀ y, y ∈ ns → y ≤ m) → Q (.int m) H) := by
  intro pins s σ H vs us Q I r h
  obtain ⟨a, ns, rfl, hs, hne, q⟩ := h
  obtain ⟨its, rv, hl, _⟩ := I.tuple hs
  rw [Vals.ref1 r]
  exact maxT_raw (I.ok.hd hc) (show s.heap.IsTuple a its.toArray from hl) rv.ints hne fun h' tk m t' hk h1 h2 => ⟨.int _, H, I.kept hk, ⟨_, rfl⟩, q m h1 h2⟩
theorem cr_minT (hc : X.calm = true) : CallR X (.builtin "min") (fun vs H Q => ∃ (a : Addr) (ns : List Int), vs = [V.ref a] ∧ SqT X.K H a (ns.map V.int) ∧ 0 < ns.length ∧ ∀ m, m ∈ ns → (∀ y, y ∈ ns → m ≤ y) → Q (.int m) H) := by
  intro pins s σ H vs us Q I r h
  obtain ⟨a, ns, rfl, hs, hne, q⟩ := h
  obtain ⟨its, rv, hl, _⟩ := I.tuple hs
  rw [Vals.ref1 r]
  exact minT_raw (I.ok.hd hc) (show s.heap.IsTuple a its.toArray from hl) rv.ints hne fun h' tk m t' hk h1 h2 => ⟨.int _, H, I.kept hk, ⟨_, rfl⟩, q m h1 h2⟩
end
section
variable {X : Cx}
theorem cd_len : CallR X (.builtin "len") (rC1 X.K dLen) := by
  intro pins s σ H xs us Q I r h
  obtain ⟨G, x, d, z, rfl, gs, hx, ef, k⟩ := h
  cases d with
  | list ds =>
    cases ef
    obtain ⟨a, vs, rfl, ga, qa⟩ := hdLst gs hx
    refine call_len_seq pins s σ H _ us Q I r ⟨a, vs, rfl, .inl (.inl (.inl ga)), ?_⟩
    rw [DqA.len qa]
    exact k _ G H (.inl ⟨rfl, rfl⟩) (.int _)
  | tuple ds =>
    cases ef
    obtain ⟨a, vs, rfl, ga, qa⟩ := hdTup hx
    refine call_len_seq pins s σ H _ us Q I r ⟨a, vs, rfl, .inr (.inl (.inl (gs _ _ ga))), ?_⟩
    rw [DqA.len qa]
    exact k _ G H (.inl ⟨rfl, rfl⟩) (.int _)
  | str w =>
    have ef : (if w.length ≤ lineN then some (PyData.int w.length) else none) = some z := ef
    split at ef
    · rename_i hz
      cases ef
      cases hdStr hx
      exact call_len_str pins s σ H _ us Q I r ⟨w, rfl, by rw [lineEq]; exact hz, k _ G H (.inl ⟨rfl, rfl⟩) (.int _)⟩
    · cases ef
  | _ => cases ef
theorem cd_abs : CallR X (.builtin "abs") (rC1 X.K dAbs) := by
  intro pins s σ H xs us Q I r h
  obtain ⟨G, x, d, z, rfl, gs, hx, ef, k⟩ := h
  cases d with
  | int i =>
    cases ef
    cases hdInt hx
    exact call_abs pins s σ H _ us Q I r ⟨i, rfl, k _ G H (.inl ⟨rfl, rfl⟩) (.int _)⟩
  | _ => cases ef
theorem cd_tuple : CallR X (.type "tuple") (rC1 X.K dTuple) := by
  intro pins s σ H xs us Q I r h
  obtain ⟨G, x, d, z, rfl, gs, hx, ef, k⟩ := h
  cases d with
  | list ds =>
    cases ef
    obtain ⟨a, vs, rfl, ga, qa⟩ := hdLst gs hx
    exact call_tuple_of pins s σ H _ us Q I r ⟨a, vs, rfl, .inl ⟨.inl (.inl ga), fun l hl => k _ _ _ (.inr ⟨l, _, hl, rfl, rfl⟩) (.tup upd_same (dqAMono (same_upd1 (gNoneS gs hl)) qa))⟩⟩
  | tuple ds =>
    cases ef
    obtain ⟨a, vs, rfl, ga, qa⟩ := hdTup hx
    exact call_tuple_of pins s σ H _ us Q I r ⟨a, vs, rfl, .inr ⟨.inl (.inl (gs _ _ ga)), k _ G H (.inl ⟨rfl, rfl⟩) (.tup ga qa)⟩⟩
  | _ => cases ef
theorem cl_list : CallR X (.type "list") (rC1L X.K dList) := by
  intro pins s σ H xs us Q I r h
  obtain ⟨G, x, d, z, rfl, gs, hx, ef, k⟩ := h
  cases d with
  | list ds =>
    cases ef
    obtain ⟨a, vs, rfl, ga, qa⟩ := hdLst gs hx
    exact call_list_of pins s σ H _ us Q I r ⟨a, vs, rfl, .inl (.inl (.inl ga)), fun l hl => k l vs hl qa⟩
  | tuple ds =>
    cases ef
    obtain ⟨a, vs, rfl, ga, qa⟩ := hdTup hx
    exact call_list_of pins s σ H _ us Q I r ⟨a, vs, rfl, .inr (.inl (.inl (gs _ _ ga))), fun l hl => k l vs hl qa⟩
  | _ => cases ef
theorem cd_sum (hc : X.calm = true) : CallR X (.builtin "sum") (rC1 X.K dSum) := by
  intro pins s σ H xs us Q I r h
  obtain ⟨G, x, d, z, rfl, gs, hx, ef, k⟩ := h
  cases d with
  | list ds =>
    obtain ⟨is, ei, ef⟩ := bindS ef
    cases ef
    obtain ⟨a, vs, rfl, ga, qa⟩ := hdLst gs hx
    have ev := dInts_map ei qa
    subst ev
    exact cr_sum hc pins s σ H _ us Q I r ⟨a, is, rfl, .inl (.inl ga), k _ G H (.inl ⟨rfl, rfl⟩) (.int _)⟩
  | tuple ds =>
    obtain ⟨is, ei, ef⟩ := bindS ef
    cases ef
    obtain ⟨a, vs, rfl, ga, qa⟩ := hdTup hx
    have ev := dInts_map ei qa
    subst ev
    exact cr_sumT hc pins s σ H _ us Q I r ⟨a, is, rfl, .inl (.inl (gs _ _ ga)), k _ G H (.inl ⟨rfl, rfl⟩) (.int _)⟩
  | _ => cases ef
theorem cd_all (hc : X.calm = true) : CallR X (.builtin "all") (rC1 X.K dAll) := by
  intro pins s σ H xs us Q I r h
  obtain ⟨G, x, d, z, rfl, gs, hx, ef, k⟩ := h
  cases d with
  | list ds =>
    obtain ⟨is, ei, ef⟩ := bindS ef
    cases ef
    obtain ⟨a, vs, rfl, ga, qa⟩ := hdLst gs hx
    have ev := dBools_map ei qa
    subst ev
    exact cr_all hc pins s σ H _ us Q I r ⟨a, is, rfl, .inl (.inl ga), k _ G H (.inl ⟨rfl, rfl⟩) (.bl _)⟩
  | _ => cases ef
theorem cd_any (hc : X.calm = true) : CallR X (.builtin "any") (rC1 X.K dAny) := by
  intro pins s σ H xs us Q I r h
  obtain ⟨G, x, d, z, rfl, gs, hx, ef, k⟩ := h
  cases d with
  | list ds =>
    obtain ⟨is, ei, ef⟩ := bindS ef
    cases ef
    obtain ⟨a, vs, rfl, ga, qa⟩ := hdLst gs hx
    have ev := dBools_map ei qa
    subst ev
    exact cr_any hc pins s σ H _ us Q I r ⟨a, is, rfl, .inl (.inl ga), k _ G H (.inl ⟨rfl, rfl⟩) (.bl _)⟩
  | _ => cases ef
theorem cd_max (hc : X.calm = true) : CallR X (.builtin "max") (rC1 X.K dMax) := by
  intro pins s σ H xs us Q I r h
  obtain ⟨G, x, d, z, rfl, gs, hx, ef, k⟩ := h
  cases d with
  | list ds =>
    obtain ⟨is, ei, ef⟩ := bindS ef
    split at ef
    · cases ef
    · rename_i hne
      cases ef
      obtain ⟨a, vs, rfl, ga, qa⟩ := hdLst gs hx
      have ev := dInts_map ei qa
      subst ev
      refine cr_max hc pins s σ H _ us Q I r ⟨a, is, rfl, .inl (.inl ga), List.length_pos_iff.mpr hne, fun m h1 h2 => ?_⟩
      rw [maxI_is h1 h2]
      exact k _ G H (.inl ⟨rfl, rfl⟩) (.int _)
  | tuple ds =>
    obtain ⟨is, ei, ef⟩ := bindS ef
    split at ef
    · cases ef
    · rename_i hne
      cases ef
      obtain ⟨a, vs, rfl, ga, qa⟩ := hdTup hx
      have ev := dInts_map ei qa
      subst ev
      refine cr_maxT hc pins s σ H _ us Q I r ⟨a, is, rfl, .inl (.inl (gs _ _ ga)), List.length_pos_iff.mpr hne, fun m h1 h2 => ?_⟩
      rw [maxI_is h1 h2]
      exact k _ G H (.inl ⟨rfl, rfl⟩) (.int _)
  | _ => cases ef
theorem cd_min (hc : X.calm = true) : CallR X (.builtin "min") (rC1 X.K dMin) := by
  intro pins s σ H xs us Q I r h
  obtain ⟨G, x, d, z, rfl, gs, hx, ef, k⟩ := h
  cases d with
  | list ds =>
    obtain ⟨is, ei, ef⟩ := bindS ef
    split at ef
    · cases ef
    · rename_i hne
      cases ef
      obtain ⟨a, vs, rfl, ga, qa⟩ := hdLst gs hx
      have ev := dInts_map ei qa
      subst ev
      refine cr_min hc pins s σ H _ us Q I r ⟨a, is, rfl, .inl (.inl ga), List.length_pos_iff.mpr hne, fun m h1 h2 => ?_⟩
      rw [minI_is h1 h2]
      exact k _ G H (.inl ⟨rfl, rfl⟩) (.int _)
  | tuple ds =>
    obtain ⟨is, ei, ef⟩ := bindS ef
    split at ef
    · cases ef
    · rename_i hne
      cases ef
      obtain ⟨a, vs, rfl, ga, qa⟩ := hdTup hx
      have ev := dInts_map ei qa
      subst ev
      refine cr_minT hc pins s σ H _ us Q I r ⟨a, is, rfl, .inl (.inl (gs _ _ ga)), List.length_pos_iff.mpr hne, fun m h1 h2 => ?_⟩
      rw [minI_is h1 h2]
      exact k _ G H (.inl ⟨rfl, rfl⟩) (.int _)
  | _ => cases ef
theorem cl_sorted : CallR X (.builtin "sorted") (rC1L X.K dSorted) := by
  intro pins s σ H xs us Q I r h
  obtain ⟨G, x, d, z, rfl, gs, hx, ef, k⟩ := h
  cases d with
  | list ds =>
    obtain ⟨a, vs, rfl, ga, qa⟩ := hdLst gs hx
    have ef : (match dInts ds with
      | some is => some ((sortI is).map PyData.int)
      | none => dSortT ds) = some z := ef
    split at ef
    · rename_i is ei
      cases ef
      have ev := dInts_map ei qa
      subst ev
      refine cr_sortedI pins s σ H _ us Q I r ⟨a, is, rfl, .inl (.inl ga), fun ns p h1 h2 hp => ?_⟩
      rw [sortI_is h1 h2]
      exact k p _ hp (dq_ints G _)
    · obtain ⟨ts, et, ef⟩ := bindS ef
      split at ef
      case isFalse => cases ef
      rename_i fit
      cases ef
      obtain ⟨h64, d, hd, hb⟩ := fit_of fit
      have eds := dTups_map et
      subst eds
      have tup : ∀ {v : V} {t : List Int}, Dq G v (tupD t) → TupI X.K H v t := fun {v t} h => by
        cases h with
        | tup ga qa =>
          have := dInts_map (dInts_of t) qa
          subst this
          exact ⟨_, rfl, .inl (.inl (gs _ _ ga))⟩
      have un : ∀ {v : V} {t t' : List Int}, Dq G v (tupD t) → TupI X.K H v t' → t' = t := fun {v t t'} h h' => by
        obtain ⟨p, e, h'⟩ := h'
        obtain ⟨p2, e2, h2⟩ := tup h
        subst e
        cases e2
        obtain ⟨its, rv, hT, _⟩ := I.tuple h'
        obtain ⟨its2, rv2, hT2, _⟩ := I.tuple h2
        have ea : TS.TupInts s.heap (.ref p) t' := tupI_raw I h'
        have eb : TS.TupInts s.heap (.ref p) t := tupI_raw I h2
        exact ea.ints.symm.trans eb.ints
      refine cr_sortT (B := tupB) hd pins s σ H _ us Q I r ⟨a, vs, rfl, .inl (.inl ga), by rw [DqA.len qa, List.length_map]; exact h64, fun x hx => ?_, fun ys p h1 h2 hp => ?_⟩
      · obtain ⟨i, hi⟩ := List.mem_iff_getElem?.mp hx
        obtain ⟨e, he, q⟩ := qa.getV hi
        obtain ⟨t, ht, rfl⟩ := List.mem_map.mp (List.mem_of_getElem? he)
        exact ⟨t, tup q, hb t ht⟩
      · obtain ⟨es, e1, e2⟩ := DqA.perm h1 qa
        -- es are the same tuples in the order
        have key : ∀ (es : List D) (ys : List V), DqA G ys es → (∀ e ∈ es, e ∈ ts.map tupD) → ys.Pairwise (fun x y => ∀ n m, TupI X.K H x n → TupI X.K H y m → TS.code tupB n ≤ TS.code tupB m) → ∃ us : List (List Int), es = us.map tupD ∧ us.Pairwise (fun a b => TS.code tupB a ≤ TS.code tupB b) := by
          intro es
          induction es with
          | nil => exact fun _ _ _ _ => ⟨[], rfl, .nil⟩
          | cons e es ih =>
            intro ys q hm hp
            cases q with
            | cons q1 q2 =>
              obtain ⟨t, ht, rfl⟩ := List.mem_map.mp (hm _ List.mem_cons_self)
              obtain ⟨hp1, hp2⟩ := List.pairwise_cons.mp hp
              obtain ⟨us, rfl, hu⟩ := ih _ q2 (fun e he => hm e (List.mem_cons_of_mem _ he)) hp2
              refine ⟨t :: us, rfl, List.pairwise_cons.mpr ⟨fun u hu => ?_, hu⟩⟩
              obtain ⟨j, hj⟩ := List.mem_iff_getElem?.mp (List.mem_map_of_mem (f := tupD) hu)
              obtain ⟨v, hv, qv⟩ := q2.get hj
              exact hp1 v (List.mem_of_getElem? hv) t u (tup q1) (tup qv)
        obtain ⟨us, rfl, hu⟩ := key es ys e2 (fun e he => e1.subset he) h2
        have um : ∀ l : List (List Int), (l.map tupD).map unTup = l := fun l => by
          rw [List.map_map]
          exact (List.map_congr_left fun t _ => un_tup t).trans (List.map_id l)
        have pu : us.Perm ts := by
          have := e1.map unTup
          rw [um, um] at this
          exact this
        have es := sortT_is hb pu hu
        subst es
        exact k p _ hp e2
  | _ => cases ef
theorem cd_min2 (hc : X.calm = true) : CallR X (.builtin "min") (rCn dMin2) := by
  intro pins s σ H xs us Q I r h
  obtain ⟨G, ds, z, gs, hx, ef, k⟩ := h
  unfold dMin2 at ef
  split at ef
  · cases ef
    cases hx with
    | cons h1 t =>
      cases t with
      | cons h2 t =>
        cases t
        cases h1
        cases h2
        exact call_min2 hc pins s σ H _ us Q I r ⟨_, _, rfl, k _ G H (.inl ⟨rfl, rfl⟩) (.int _)⟩
  · cases ef
theorem cd_max2 (hc : X.calm = true) : CallR X (.builtin "max") (rCn dMax2) := by
  intro pins s σ H xs us Q I r h
  obtain ⟨G, ds, z, gs, hx, ef, k⟩ := h
  unfold dMax2 at ef
  split at ef
  · cases ef
    cases hx with
    | cons h1 t =>
      cases t with
      | cons h2 t =>
        cases t
        cases h1
        cases h2
        exact call_max2 hc pins s σ H _ us Q I r ⟨_, _, rfl, k _ G H (.inl ⟨rfl, rfl⟩) (.int _)⟩
  · cases ef
end
def tyN : D → String
  | .none => "NoneType"
  | .bool _ => "bool"
  | .int _ => "int"
  | .str _ => "str"
  | .list _ => "list"
  | .tuple _ => "tuple"
  | .dict _ => "dict"
def isT (T : String) (d : D) : Bool := tyN d == T || (T == "int" && tyN d == "bool")
def IsTy (T : String) : Prop := ∀ n ∈ ["NoneType", "bool", "int", "str", "list", "tuple"], kitB n T = some (n == T || (T == "int" && n == "bool"))
theorem isTy_int : IsTy "int" := by intro n h; simp only [List.mem_cons, List.not_mem_nil, or_false] at h; rcases h with rfl | rfl | rfl | rfl | rfl | rfl <;> decide +kernel
theorem isTy_bool : IsTy "bool" := by intro n h; simp only [List.mem_cons, List.not_mem_nil, or_false] at h; rcases h with rfl | rfl | rfl | rfl | rfl | rfl <;> decide +kernel
theorem isTy_str : IsTy "str" := by intro n h; simp only [List.mem_cons, List.not_mem_nil, or_false] at h; rcases h with rfl | rfl | rfl | rfl | rfl | rfl <;> decide +kernel
theorem isTy_list : IsTy "list" := by intro n h; simp only [List.mem_cons, List.not_mem_nil, or_false] at h; rcases h with rfl | rfl | rfl | rfl | rfl | rfl <;> decide +kernel
theorem isTy_tuple : IsTy "tuple" := by intro n h; simp only [List.mem_cons, List.not_mem_nil, or_false] at h; rcases h with rfl | rfl | rfl | rfl | rfl | rfl <;> decide +kernel
theorem hdTy {K : PySem.W.Frag} {G H : Hp} {v : V} {d : D} (s : Same G H) (h : Hd K G H v d) : TyX K H v (.type (tyN d)) ∧ tyN d ∈ ["NoneType", "bool", "int", "str", "list", "tuple"] := by
  rcases h with h | ⟨a, vs, ds, rfl, rfl, p, q⟩
  · cases h with
    | non => exact ⟨.base .non, by simp [tyN]⟩
    | bl b => exact ⟨.base (.bl b), by simp [tyN]⟩
    | int b => exact ⟨.base (.int b), by simp [tyN]⟩
    | str b => exact ⟨.base (.str b), by simp [tyN]⟩
    | lst a b => exact ⟨.base (.lst (s _ _ a)), by simp [tyN]⟩
    | tup a b => exact ⟨.base (.tup (s _ _ a)), by simp [tyN]⟩
  · exact ⟨.base (.lst p), by simp [tyN]⟩
end Pd

set_option Elab.async false
set_option linter.all false
set_option maxRecDepth 100000
set_option maxHeartbeats 1000000
namespace Pd
open PySem PySem.Spec PyProof.Rows L2
structure Nx (prog : Program) (w : World) (i l : Addr) (Si : Nat → Heap → Prop) (Cl : Heap → Prop) (xs : Array Value) : Prop where
  item : ∀ {A : Around} {E : Value → Shared → Prop} {s : Shared} {k : Nat} {x : Value} {Q : Value → Shared → Prop}, Si k s.heap → Cl s.heap → xs[k]? = some x → (∀ g, Si (k + 1) g → Heap.SameBut i s.heap g → Q x { s with heap := g }) → wpAny (model prog w) A (Builtin.SmallTypes.nextOf (.ref i)) Q E s
  done : ∀ {A : Around} {E : Value → Shared → Prop} {s : Shared} {k : Nat} {Q : Value → Shared → Prop}, A.handled = none → Si k s.heap → Cl s.heap → xs[k]? = none → (∀ g e, Heap.ExtBut i s.heap g → (∃ o, g.get? e = some o ∧ o.cls = .type "StopIteration") → E (.ref e) { s with heap := g }) → wpAny (model prog w) A (Builtin.SmallTypes.nextOf (.ref i)) Q E s
  keepS : ∀ {k : Nat} {h g : Heap}, Si k h → (∀ o, h.get? i = some o → g.get? i = some o) → Si k g
  keepC : ∀ {h g : Heap}, Cl h → (∀ o, h.get? l = some o → g.get? l = some o) → Cl g
theorem nx_tup (prog : Program) (w : World) (i l : Addr) (xs : Array Value) : Nx prog w i l (fun k h => h.IsTupleIter i l k) (fun h => h.IsTuple l xs) xs :=
  ⟨fun a b c d => RZ.nextOf_tuple_item a b c d, fun a b c d e => RZ.nextOf_tuple_end a b c d e, fun a b => a.at b, fun a b => a.at b⟩
theorem nx_lst (prog : Program) (w : World) (i l : Addr) (xs : Array Value) : Nx prog w i l (fun k h => h.IsListIter i l k) (fun h => h.IsList l xs) xs :=
  ⟨fun a b c d => wpAny_nextOf_list_item a b c d, fun a b c d e => wpAny_nextOf_list_end a b c d e, fun a b => a.at b, fun a b => a.at b⟩
section
variable {prog : Program} {w : World} {A : Around} {E : Value → Shared → Prop} {s : Shared} {z TI TO i1 i2 l1 l2 : Addr} {k : Nat} {xs ys : Array Value} {x y a b : Value}
variable {S1 S2 : Nat → Heap → Prop} {C1 C2 : Heap → Prop}
theorem zn_item {Q : Value → Shared → Prop} (N1 : Nx prog w i1 l1 S1 C1 xs) (N2 : Nx prog w i2 l2 S2 C2 ys) (D : ZipApart z TI TO i1 i2 l1 l2)
    (hz : IsZip s.heap z TI TO .none) (hI : IsPair s.heap TI (.ref i1) (.ref i2)) (hO : IsPair s.heap TO a b) (h1 : S1 k s.heap) (h2 : S2 k s.heap) (c1 : C1 s.heap) (c2 : C2 s.heap) (hx : xs[k]? = some x) (hy : ys[k]? = some y)
    (go : ∀ g, IsZip g z TI TO (rawInt s.heap.objs.size) → IsPair g TO x y → S1 (k + 1) g → S2 (k + 1) g → IsPair g s.heap.objs.size x y → g.objs.size = s.heap.objs.size + 1 → (∀ c o, c ≠ z → c ≠ TO → c ≠ i1 → c ≠ i2 → s.heap.get? c = some o → g.get? c = some o) → Q (.ref s.heap.objs.size) { s with heap := g }) :
    wpAny (model prog w) A (Builtin.«zip.__next__» ⟨[.ref z], []⟩) (fun f s' => ∃ v, f = .done (.ret v) ∧ Q v s') E s := by
  show wpAny _ _ (field (.ref z) 2 >>= _) _ _ _; refine wpAny_bind (wpAny_field hz rfl (x := .bool false) rfl ?_)
  show wpAny _ _ (field (.ref z) 3 >>= _) _ _ _; refine wpAny_bind (wpAny_field hz rfl (x := .ref TI) rfl (wpAny_bind (wpAny_seqItems hI rfl ?_)))
  show wpAny _ _ (Builtin.SmallTypes.ownedTupleIsFree (.ref z) >>= _) _ _ _; refine wpAny_bind ?_; unfold Builtin.SmallTypes.ownedTupleIsFree
  refine wpAny_bind (wpAny_field hz rfl (x := .none) rfl (wpAny_pure ?_)); simp only [if_true]
  refine wpAny_bind (wpAny_rule (wpAny_bind (wpAny_field hz rfl (x := .ref TO) rfl (wpAny_bind (wpAny_setField_rec hz (by simp) fun g1 z1 u1 => ?_)))))
  replace z1 : IsZip g1 z TI TO .ellipsis := z1; refine wpAny_bind ?_; simp only [List.zipIdx_cons, List.zipIdx_nil, List.forIn_cons, List.forIn_nil]
  refine wpAny_bind (wpAny_bind (wpAny_onRaise ?_)); show wpAny _ _ (Builtin.SmallTypes.nextOf (.ref i1) >>= _) _ _ _
  refine wpAny_bind (N1.item (N1.keepS h1 fun o e => u1.extBut _ _ D.i1z e) (N1.keepC c1 fun o e => u1.extBut _ _ D.l1z e) hx fun g2 h1' u2 => wpAny_pure ?_)
  have o2 : IsPair g2 TO a b := u2.extBut _ _ D.TOi1 (u1.extBut _ _ D.TOz hO)
  refine wpAny_bind (wpAny_seqItems o2 rfl (wpAny_bind (wpAny_updateSeq_pair o2 fun g3 o3 u3 => ?_))); replace o3 : IsPair g3 TO x b := o3
  refine wpAny_bind (wpAny_letGo (wpAny_pure (wpAny_bind (wpAny_bind (wpAny_onRaise ?_))))); show wpAny _ _ (Builtin.SmallTypes.nextOf (.ref i2) >>= _) _ _ _
  refine wpAny_bind (N2.item (N2.keepS h2 fun o e => u3.extBut _ _ D.TOi2.symm (u2.extBut _ _ D.i12.symm (u1.extBut _ _ D.i2z e))) (N2.keepC c2 fun o e => u3.extBut _ _ D.l2TO (u2.extBut _ _ D.l2i1 (u1.extBut _ _ D.l2z e))) hy fun g4 h2' u4 => wpAny_pure ?_)
  have o4 : IsPair g4 TO x b := u4.extBut _ _ D.TOi2 o3
  refine wpAny_bind (wpAny_seqItems o4 rfl (wpAny_bind (wpAny_updateSeq_pair o4 fun g5 o5 u5 => ?_))); replace o5 : IsPair g5 TO x y := o5
  refine wpAny_bind (wpAny_letGo (wpAny_pure (wpAny_pure (wpAny_bind (wpAny_seqItems o5 rfl (wpAny_bind (wpAny_newTuple ?_)))))))
  have sz : g5.objs.size = s.heap.objs.size := by rw [u5.1, u4.1, u3.1, u2.1, u1.1]
  have z5 : IsZip g5 z TI TO .ellipsis := u5.extBut _ _ D.TOz.symm (u4.extBut _ _ D.i2z.symm (u3.extBut _ _ D.TOz.symm (u2.extBut _ _ D.i1z.symm z1)))
  have old : ∀ c o, c ≠ z → c ≠ TO → c ≠ i1 → c ≠ i2 → s.heap.get? c = some o → g5.get? c = some o := fun c o n1 n2 n3 n4 e => u5.extBut _ _ n2 (u4.extBut _ _ n4 (u3.extBut _ _ n2 (u2.extBut _ _ n3 (u1.extBut _ _ n1 e))))
  have s1 : S1 (k + 1) g5 := N1.keepS h1' fun o e => u5.extBut _ _ D.TOi1.symm (u4.extBut _ _ D.i12 (u3.extBut _ _ D.TOi1.symm e))
  have s2 : S2 (k + 1) g5 := N2.keepS h2' fun o e => u5.extBut _ _ D.TOi2.symm e
  have lt := Heap.lt_size z5
  show wpAny _ _ (Builtin.SmallTypes.ownedTupleHandOut (.ref z) (.ref g5.objs.size) >>= _) _ _ _; refine wpAny_bind ?_; unfold Builtin.SmallTypes.ownedTupleHandOut
  have z6 : IsZip (g5.push { cls := .type "tuple", data := .seq #[x, y] }) z TI TO .ellipsis := Heap.get?_push_of_some _ z5
  refine wpAny_bind (wpAny_setField_rec z6 (by simp) fun g7 z7 u7 => ?_); replace z7 : IsZip g7 z TI TO (rawInt g5.objs.size) := z7
  refine wpAny_setField_rec z7 (by simp) fun g8 z8 u8 => ?_; replace z8 : IsZip g8 z TI TO (rawInt g5.objs.size) := z8
  have up : ∀ c o, c ≠ z → g5.get? c = some o → g8.get? c = some o := fun c o n e => u8.extBut _ _ n (u7.extBut _ _ n (Heap.get?_push_of_some _ e))
  have t8 : IsPair g8 g5.objs.size x y := u8.extBut _ _ (Nat.ne_of_gt lt) (u7.extBut _ _ (Nat.ne_of_gt lt) (Heap.get?_push_size _ rfl))
  have n8 : g8.objs.size = g5.objs.size + 1 := by rw [u8.1, u7.1, Heap.size_push]
  rw [sz] at z8 t8 n8; refine wpAny_pure ⟨_, rfl, ?_⟩; show Q (.ref g5.objs.size) _; rw [sz]
  exact go g8 z8 (up _ _ D.TOz o5) (N1.keepS s1 fun o e => up _ o D.i1z e) (N2.keepS s2 fun o e => up _ o D.i2z e) t8 n8 fun c o n1 n2 n3 n4 e => up c o n1 (old c o n1 n2 n3 n4 e)
theorem zn_end {Q : Fin → Shared → Prop} (hh : A.handled = none) (N1 : Nx prog w i1 l1 S1 C1 xs) (N2 : Nx prog w i2 l2 S2 C2 ys) (D : ZipApart z TI TO i1 i2 l1 l2)
    (hz : IsZip s.heap z TI TO .none) (hI : IsPair s.heap TI (.ref i1) (.ref i2)) (hO : IsPair s.heap TO a b) (h1 : S1 k s.heap) (h2 : S2 k s.heap) (c1 : C1 s.heap) (c2 : C2 s.heap) (hend : xs[k]? = none ∨ ys[k]? = none)
    (go : ∀ g e, (∀ c o, c ≠ z → c ≠ TO → c ≠ i1 → c ≠ i2 → s.heap.get? c = some o → g.get? c = some o) → (∃ o, g.get? e = some o ∧ o.cls = .type "StopIteration") → E (.ref e) { s with heap := g }) :
    wpAny (model prog w) A (Builtin.«zip.__next__» ⟨[.ref z], []⟩) Q E s := by
  show wpAny _ _ (field (.ref z) 2 >>= _) _ _ _; refine wpAny_bind (wpAny_field hz rfl (x := .bool false) rfl ?_)
  show wpAny _ _ (field (.ref z) 3 >>= _) _ _ _; refine wpAny_bind (wpAny_field hz rfl (x := .ref TI) rfl (wpAny_bind (wpAny_seqItems hI rfl ?_)))
  show wpAny _ _ (Builtin.SmallTypes.ownedTupleIsFree (.ref z) >>= _) _ _ _; refine wpAny_bind ?_; unfold Builtin.SmallTypes.ownedTupleIsFree
  refine wpAny_bind (wpAny_field hz rfl (x := .none) rfl (wpAny_pure ?_)); simp only [if_true]
  refine wpAny_bind (wpAny_rule (wpAny_bind (wpAny_field hz rfl (x := .ref TO) rfl (wpAny_bind (wpAny_setField_rec hz (by simp) fun g1 z1 u1 => ?_)))))
  replace z1 : IsZip g1 z TI TO .ellipsis := z1; refine wpAny_bind ?_; simp only [List.zipIdx_cons, List.zipIdx_nil, List.forIn_cons, List.forIn_nil]
  refine wpAny_bind (wpAny_bind (wpAny_onRaise ?_)); show wpAny _ _ (Builtin.SmallTypes.nextOf (.ref i1) >>= _) _ _ _
  have hs1 := N1.keepS h1 fun o e => u1.extBut _ _ D.i1z e
  have hc1 := N1.keepC c1 fun o e => u1.extBut _ _ D.l1z e
  cases hx : xs[k]? with
  | none =>
    refine wpAny_bind (N1.done hh hs1 hc1 hx fun g2 e u2 ⟨o, ho, hc⟩ => ?_)
    have z2 : IsZip g2 z TI TO .ellipsis := u2 _ _ D.i1z.symm z1
    have ne : e ≠ z := fun q => by subst q; rw [z2] at ho; cases ho; simp at hc
    exact wpAny_setField_rec z2 (by simp) fun g3 _ u3 => go g3 e (fun c o n1 _ n3 _ q => u3.extBut _ _ n1 (u2 _ _ n3 (u1.extBut _ _ n1 q))) ⟨o, u3.extBut _ _ ne ho, hc⟩
  | some x =>
    have hy : ys[k]? = none := hend.resolve_left fun q => by rw [hx] at q; cases q
    refine wpAny_bind (N1.item hs1 hc1 hx fun g2 h1' u2 => wpAny_pure ?_)
    have o2 : IsPair g2 TO a b := u2.extBut _ _ D.TOi1 (u1.extBut _ _ D.TOz hO)
    refine wpAny_bind (wpAny_seqItems o2 rfl (wpAny_bind (wpAny_updateSeq_pair o2 fun g3 o3 u3 => wpAny_bind (wpAny_letGo (wpAny_pure (wpAny_bind (wpAny_bind (wpAny_onRaise ?_))))))))
    show wpAny _ _ (Builtin.SmallTypes.nextOf (.ref i2) >>= _) _ _ _; refine wpAny_bind (N2.done hh (N2.keepS h2 fun o e => u3.extBut _ _ D.TOi2.symm (u2.extBut _ _ D.i12.symm (u1.extBut _ _ D.i2z e))) (N2.keepC c2 fun o e => u3.extBut _ _ D.l2TO (u2.extBut _ _ D.l2i1 (u1.extBut _ _ D.l2z e))) hy fun g4 e u4 ⟨o, ho, hc⟩ => ?_)
    have z4 : IsZip g4 z TI TO .ellipsis := u4 _ _ D.i2z.symm (u3.extBut _ _ D.TOz.symm (u2.extBut _ _ D.i1z.symm z1))
    have ne : e ≠ z := fun q => by subst q; rw [z4] at ho; cases ho; simp at hc
    exact wpAny_setField_rec z4 (by simp) fun g5 _ u5 => go g5 e (fun c o n1 n2 n3 n4 q => u5.extBut _ _ n1 (u4 _ _ n4 (u3.extBut _ _ n2 (u2.extBut _ _ n3 (u1.extBut _ _ n1 q))))) ⟨o, u5.extBut _ _ ne ho, hc⟩
theorem pn_item {Q : Option Value → Shared → Prop} (N1 : Nx prog w i1 l1 S1 C1 xs) (N2 : Nx prog w i2 l2 S2 C2 ys) (D : ZipApart z TI TO i1 i2 l1 l2)
    (hz : IsZip s.heap z TI TO .none) (hI : IsPair s.heap TI (.ref i1) (.ref i2)) (hO : IsPair s.heap TO a b) (h1 : S1 k s.heap) (h2 : S2 k s.heap) (c1 : C1 s.heap) (c2 : C2 s.heap) (hx : xs[k]? = some x) (hy : ys[k]? = some y)
    (go : ∀ g, IsZip g z TI TO (rawInt s.heap.objs.size) → IsPair g TO x y → S1 (k + 1) g → S2 (k + 1) g → IsPair g s.heap.objs.size x y → g.objs.size = s.heap.objs.size + 1 → (∀ c o, c ≠ z → c ≠ TO → c ≠ i1 → c ≠ i2 → s.heap.get? c = some o → g.get? c = some o) → Q (some (.ref s.heap.objs.size)) { s with heap := g }) :
    wpAny (model prog w) A (pyNext (.ref z)) Q E s := by
  have ty : s.TypeIs (.ref z) "zip" := ⟨_, hz, rfl⟩
  unfold pyNext
  exact wpAny_bind (wpAny_attempt (wpAny_callSpecial?_slot (name := Str.ofString "__next__") ty F.slot_zip_next (wpAny_call_entry F.slot_zip_next ty F.entry_zip_next (zn_item N1 N2 D hz hI hO h1 h2 c1 c2 hx hy fun g p1 p2 p3 p4 p5 p6 p7 => wpAny_pure (go g p1 p2 p3 p4 p5 p6 p7)) (F.args_zip_next_1 _))))
theorem pn_end {Q : Option Value → Shared → Prop} (hh : A.handled = none) (N1 : Nx prog w i1 l1 S1 C1 xs) (N2 : Nx prog w i2 l2 S2 C2 ys) (D : ZipApart z TI TO i1 i2 l1 l2)
    (hz : IsZip s.heap z TI TO .none) (hI : IsPair s.heap TI (.ref i1) (.ref i2)) (hO : IsPair s.heap TO a b) (h1 : S1 k s.heap) (h2 : S2 k s.heap) (c1 : C1 s.heap) (c2 : C2 s.heap) (hend : xs[k]? = none ∨ ys[k]? = none)
    (go : ∀ g, (∀ c o, c ≠ z → c ≠ TO → c ≠ i1 → c ≠ i2 → s.heap.get? c = some o → g.get? c = some o) → Q none { s with heap := g }) : wpAny (model prog w) A (pyNext (.ref z)) Q E s := by
  have ty : s.TypeIs (.ref z) "zip" := ⟨_, hz, rfl⟩
  unfold pyNext
  refine wpAny_bind (wpAny_attempt (wpAny_callSpecial?_slot (name := Str.ofString "__next__") ty F.slot_zip_next (wpAny_call_entry F.slot_zip_next ty F.entry_zip_next (zn_end hh N1 N2 D hz hI hO h1 h2 c1 c2 hend fun g e kp ⟨o, ho, hc⟩ => ?_) (F.args_zip_next_1 _))))
  exact wpAny_bind (wpAny_isInstance (T := "StopIteration") (b := true) ⟨o, ho, hc⟩ isSubtype_stop (wpAny_pure (go _ kp)))
end
abbrev zm1 (h : Heap) (l1 : Addr) : Heap := h.push { cls := .type "tuple_iterator", data := .fields #[.ref l1, .int 0 0] }
abbrev zm2 (h : Heap) (l1 l2 : Addr) : Heap := (zm1 h l1).push { cls := .type "list_iterator", data := .fields #[.ref l2, .int 0 0] }
abbrev zm3 (h : Heap) (l1 l2 : Addr) : Heap := (zm2 h l1 l2).push { cls := .type "tuple", data := .seq #[.ref h.objs.size, .ref (zm1 h l1).objs.size] }
abbrev zm4 (h : Heap) (l1 l2 : Addr) : Heap := (zm3 h l1 l2).push { cls := .type "tuple", data := .seq #[.none, .none] }
abbrev zm5 (h : Heap) (l1 l2 : Addr) : Heap := (zm4 h l1 l2).push { cls := .type "zip", data := .fields #[.none, .bool false, .bool false, .ref (zm2 h l1 l2).objs.size, .ref (zm3 h l1 l2).objs.size] }
theorem meets_zm (l1 l2 : Addr) (xs ys : Array Value) : Meets (Builtin.«zip.__new__» ⟨[.type "zip", .ref l1, .ref l2], []⟩) (fun _ R s => s.heap.IsTuple l1 xs ∧ s.heap.IsList l2 ys ∧ R (.ok (.ret (.ref (zm4 s.heap l1 l2).objs.size))) { s with heap := zm5 s.heap l1 l2 }) :=
  .of_wp fun prog w A R s h => by
    obtain ⟨hp, g, d, tk, os⟩ := s
    obtain ⟨p1, p2, h⟩ := h
    have hsub := sub_zip
    have q1 : Heap.IsTuple (Shared.heap ⟨hp, g, d, tk, os⟩) l1 xs := p1
    have q2 : Heap.IsList (Shared.heap ⟨hp.push { cls := .type "tuple_iterator", data := .fields #[.ref l1, .int 0 0] }, g, d, tk, os⟩) l2 ys := Heap.IsList.push p2 _
    wp_walk using wpAny_pyIter_tuple q1, wpAny_pyIter_list q2
    exact ⟨_, rfl, h⟩
section
variable {prog : Program} {w : World} {A : Around} {E : Value → Shared → Prop} {s : Shared}
theorem call_zm {l1 l2 : Addr} {xs ys : Array Value} {Q : Value → Shared → Prop} (p1 : s.heap.IsTuple l1 xs) (p2 : s.heap.IsList l2 ys)
    (h : ∀ g, IsZip g (s.heap.objs.size + 4) (s.heap.objs.size + 2) (s.heap.objs.size + 3) .none → IsPair g (s.heap.objs.size + 2) (.ref s.heap.objs.size) (.ref (s.heap.objs.size + 1)) → IsPair g (s.heap.objs.size + 3) .none .none → g.IsTupleIter s.heap.objs.size l1 0 → g.IsListIter (s.heap.objs.size + 1) l2 0 →
      (∀ c o, s.heap.get? c = some o → g.get? c = some o) → Q (.ref (s.heap.objs.size + 4)) { s with heap := g }) : wpAny (model prog w) A (call (.type "zip") [.ref l1, .ref l2]) Q E s := by
  refine callType_new F.called_zip (by decide) (F.typeCall_zip_2 _ _) (F.newCall_zip_2 _ _) (fun obj => F.args_object_init_3 obj _ _) F.entry_zip_new (meets_zm l1 l2 xs ys) ⟨p1, p2, ?_⟩
  have n1 : (zm1 s.heap l1).objs.size = s.heap.objs.size + 1 := Heap.size_push ..
  have n2 : (zm2 s.heap l1 l2).objs.size = s.heap.objs.size + 2 := by rw [Heap.size_push, n1]
  have n3 : (zm3 s.heap l1 l2).objs.size = s.heap.objs.size + 3 := by rw [Heap.size_push, n2]
  have n4 : (zm4 s.heap l1 l2).objs.size = s.heap.objs.size + 4 := by rw [Heap.size_push, n3]
  have up : ∀ {h : Heap} {c : Addr} {o o' : Obj}, h.get? c = some o → (h.push o').get? c = some o := fun e => Heap.get?_push_of_some _ e
  have e5 : (zm5 s.heap l1 l2).get? (zm4 s.heap l1 l2).objs.size = some _ := Heap.get?_push_size _ rfl
  have e4 : (zm5 s.heap l1 l2).get? (zm3 s.heap l1 l2).objs.size = some _ := up (Heap.get?_push_size _ rfl)
  have e3 : (zm5 s.heap l1 l2).get? (zm2 s.heap l1 l2).objs.size = some _ := up (up (Heap.get?_push_size _ rfl))
  have e2 : (zm5 s.heap l1 l2).get? (zm1 s.heap l1).objs.size = some _ := up (up (up (Heap.get?_push_size _ rfl)))
  have e1 : (zm5 s.heap l1 l2).get? s.heap.objs.size = some _ := up (up (up (up (Heap.get?_push_size _ rfl))))
  show _ ∧ _
  rw [n2, n3, n4] at e5
  rw [n1, n2] at e3
  rw [n3] at e4
  rw [n1] at e2
  rw [n4]
  exact ⟨⟨_, e5, rfl⟩, h _ e5 e3 e4 ⟨_, e1, rfl, rfl⟩ ⟨_, e2, rfl, rfl⟩ fun c o q => up (up (up (up (up q))))⟩
end
def ItzM (K : PySem.W.Frag) (a b : Addr) : It :=
  ⟨fun i H => ∃ (xs ys : List V) (x y : V), SqT K H a xs ∧ SqL K H b ys ∧ xs[i]? = some x ∧ ys[i]? = some y,
    fun i H v H' => ∃ T x y, v = .ref T ∧ H T = none ∧ H' = upd H T (.tup [x, y]) ∧ (∀ xs, SqT K H a xs → xs[i]? = some x) ∧ ∀ ys, SqL K H b ys → ys[i]? = some y,
    fun i H => ∃ xs ys : List V, SqT K H a xs ∧ SqL K H b ys ∧ (xs.length ≤ i ∨ ys.length ≤ i)⟩
def five (z TI TO i1 i2 : Addr) : List Addr := [z, TI, TO, i1, i2]
theorem mem_five {z TI TO i1 i2 c : Addr} (h : c ∈ five z TI TO i1 i2) : c = z ∨ c = TI ∨ c = TO ∨ c = i1 ∨ c = i2 := by simpa [five] using h
theorem turn_zm {P : Program} {w : World} {K : PySem.W.Frag} {elts : List Expr} {kk : Nat} {tpos : Pos} {a b z TI TO i1 i2 : Addr} (D : ZipApart z TI TO i1 i2 a b) :
    Turn P w K (.Tuple elts kk tpos) (ItzM K a b) (five z TI TO i1 i2) z (fun i h => IsZip h z TI TO .none ∧ IsPair h TI (.ref i1) (.ref i2) ∧ (∃ x y, IsPair h TO x y) ∧ h.IsTupleIter i1 a i ∧ h.IsListIter i2 b i) where
  mem := by simp [five]
  obj := fun i h ⟨hz, hI, ⟨x, y, hO⟩, ⟨o1, f1, _, d1⟩, ⟨o2, f2, _, d2⟩⟩ c hc => by
    rcases mem_five hc with rfl | rfl | rfl | rfl | rfl
    · exact ⟨_, hz, fun v q => nomatch q⟩
    · exact ⟨_, hI, fun v q => nomatch q⟩
    · exact ⟨_, hO, fun v q => nomatch q⟩
    · exact ⟨o1, f1, fun v q => by rw [d1] at q; cases q⟩
    · exact ⟨o2, f2, fun v q => by rw [d2] at q; cases q⟩
  keep := fun i h g ⟨hz, hI, ⟨x, y, hO⟩, h1, h2⟩ kp => ⟨kp z (by simp [five]) _ hz, kp TI (by simp [five]) _ hI, ⟨x, y, kp TO (by simp [five]) _ hO⟩, h1.at fun o q => kp i1 (by simp [five]) o q, h2.at fun o q => kp i2 (by simp [five]) o q⟩
  item := by
    intro X eP ew eK hc i pins s σ H E I hf ⟨hz, hI, ⟨x0, y0, hO⟩, h1, h2⟩ ⟨xs, ys, x, y, qx, qy, hx, hy⟩
    subst eP ew eK
    obtain ⟨its, rv, p, _⟩ := I.tuple qx
    obtain ⟨jts, rw', p2, _⟩ := I.list qy
    obtain ⟨u, hu, ru⟩ := rv.get hx
    obtain ⟨u2, hu2, ru2⟩ := rw'.get hy
    have lz := Heap.lt_size hz
    refine pn_item (nx_tup _ _ i1 a its.toArray) (nx_lst _ _ i2 b jts.toArray) D hz hI hO h1 h2 p p2.isList (x := u) (y := u2) (by simpa using hu) (by simpa using hu2) fun g z' O' h1' h2' hT hs kp => ⟨_, rfl, wpAny_letOwnedTupleGo_zip (s := { s with heap := g }) z' fun g2 z2 sb => ?_⟩
    have hT2 : g2.get? s.heap.objs.size = some { cls := .type "tuple", data := .seq #[u, u2] } := (sb.2 _ (Nat.ne_of_gt lz)).trans hT
    have nw : ObjOk X.prog X.w (upd H s.heap.objs.size (.tup [x, y])) g2 s.heap.objs.size (.tup [x, y]) := ⟨show 2 ≤ sizeLine by decide, [u, u2], .cons ru (.cons ru2 .nil), ⟨_, hT2, rfl, _, rfl⟩⟩
    have ne : ∀ {c : Addr}, c ∉ five z TI TO i1 i2 → c ≠ z ∧ c ≠ TO ∧ c ≠ i1 ∧ c ≠ i2 := fun h => ⟨fun q => h (by simp [five, q]), fun q => h (by simp [five, q]), fun q => h (by simp [five, q]), fun q => h (by simp [five, q])⟩
    have I1 : Inv X pins σ (upd H s.heap.objs.size (.tup [x, y])) { s with heap := g2 } := I.turnedNew (t' := s.toks) (ch := five z TI TO i1 i2) (fun c o hb q => (sb.2 c (ne hb).1).trans (kp c o (ne hb).1 (ne hb).2.1 (ne hb).2.2.1 (ne hb).2.2.2 q)) hf (Nat.le_refl _) nw
    refine ⟨.ref s.heap.objs.size, _, I1, rfl, ⟨_, x, y, rfl, I.hok.fresh (Nat.le_refl _), rfl, fun l hl => by rw [I.tuple_inj hl qx]; exact hx, fun l hl => by rw [I.list_inj hl qy]; exact hy⟩, ⟨z2, (sb.2 _ D.TIz).trans (kp _ _ D.TIz D.TITO D.TIi1 D.TIi2 hI), ⟨u, u2, (sb.2 _ D.TOz).trans O'⟩, h1'.at fun o q => (sb.2 _ D.i1z).trans q, h2'.at fun o q => (sb.2 _ D.i2z).trans q⟩, fun c hm => ?_⟩
    have hlt : c < s.heap.objs.size := by
      rcases mem_five hm with rfl | rfl | rfl | rfl | rfl
      · exact lz
      · exact Heap.lt_size hI
      · exact Heap.lt_size hO
      · exact h1.elim fun _ q => Heap.lt_size q.1
      · exact h2.elim fun _ q => Heap.lt_size q.1
    rw [upd_ne (Nat.ne_of_lt hlt)]
    exact (hf c hm).1
  done := by
    intro X eP ew eK hc i pins s σ H E I hf ⟨hz, hI, ⟨x0, y0, hO⟩, h1, h2⟩ ⟨xs, ys, qx, qy, hend⟩
    subst eP ew eK
    obtain ⟨its, rv, p, _⟩ := I.tuple qx
    obtain ⟨jts, rw', p2, _⟩ := I.list qy
    have n1 := rv.length
    have n2 := rw'.length
    have he : its.toArray[i]? = none ∨ jts.toArray[i]? = none := hend.imp (fun q => by simp; omega) (fun q => by simp; omega)
    have ne : ∀ {c : Addr}, c ∉ five z TI TO i1 i2 → c ≠ z ∧ c ≠ TO ∧ c ≠ i1 ∧ c ≠ i2 := fun h => ⟨fun q => h (by simp [five, q]), fun q => h (by simp [five, q]), fun q => h (by simp [five, q]), fun q => h (by simp [five, q])⟩
    exact pn_end (I.ok.hd hc) (nx_tup _ _ i1 a its.toArray) (nx_lst _ _ i2 b jts.toArray) D hz hI hO h1 h2 p p2.isList he fun g kp => ⟨rfl, I.turnedL (t' := s.toks) (ch := five z TI TO i1 i2) (fun c o hb q => kp c o (ne hb).1 (ne hb).2.1 (ne hb).2.2.1 (ne hb).2.2.2 q) hf⟩
  self := fun A i s Q E st h => wpAny_pyIter_zip st.1 h
def iZipM (K : PySem.W.Frag) (ta : TA) : TI := fun σ H R => ta σ H fun vs H1 => ∃ a b xs ys, vs = [.ref a, .ref b] ∧ SqT K H1 a xs ∧ SqL K H1 b ys ∧ R (ItzM K a b) H1
theorem pi_zipM {X : Cx} {e e2 : Expr} {ta : TA} {p pos tpos : Pos} {elts : List Expr} {kk : Nat} (hg : Gl X "zip") (hm : X.mg "zip" = none) (ha : PA X [e, e2] ta)
    (hs : starEach [e, e2] X.env = (false, eval e X.env) :: starEach [e2] X.env := by rfl) (hpl : (backTo pos (starEach [e2] X.env)).any (·.1) = false := by rfl) :
    PI X (.Tuple elts kk tpos) (.Call (.Name "zip" p) [e, e2] [] pos) (iZipM X.K ta) := by
  refine ⟨fun pins s σ H R I h => Call_ (ld_blt I hg hm PyProof.Rows.boot_zip (PyProof.Rows.callWith_type1 (thn (ha.run pos pins s σ H _ I h) fun us s1 ⟨vs, H1, I1, r1, a, b, xs, ys, ex, qx, qy, q⟩ => ?_) hs hpl))⟩
  subst ex
  obtain ⟨v1, v2, rfl⟩ : ∃ v1 v2 : Value, us = [.ref a, .ref b] := by
    cases r1 with
    | cons r rr =>
      cases rr with
      | cons r' rr =>
        cases rr
        cases r
        cases r'
        exact ⟨.none, .none, rfl⟩
  obtain ⟨its, rv, p1, _⟩ := I1.tuple qx
  obtain ⟨jts, rw', p2, _⟩ := I1.list qy
  refine call_zm (show s1.heap.IsTuple a its.toArray from p1) p2.isList fun g hz hI hO h1 h2 kp => wpAny_pyIter_zip hz ?_
  have fr : ∀ c, c ∈ five (s1.heap.objs.size + 4) (s1.heap.objs.size + 2) (s1.heap.objs.size + 3) s1.heap.objs.size (s1.heap.objs.size + 1) → FpOk X pins H1 c := fun c hc => by
    have le : s1.heap.objs.size ≤ c := by rcases mem_five hc with q | q | q | q | q <;> (rw [q]; first | exact Nat.le_add_right _ _ | exact Nat.le_refl _)
    exact I1.fpOk le (I1.hok.fresh le)
  obtain ⟨o1, ho1, _⟩ := id p1
  exact ⟨s1.heap.objs.size + 4, _, _, _, H1, rfl, I1.kept (t' := s1.toks) kp, turn_zm (PySem.W.ktu_apart s1.heap.objs.size a b (Heap.lt_size ho1) p2.lt), ⟨hz, hI, ⟨_, _, hO⟩, h1, h2⟩, fr, q⟩
theorem pi_or {X : Cx} {tg it : Expr} {t t' : TI} (h : PI X tg it t) (h' : PI X tg it t') : PI X tg it (fun σ H R => t σ H R ∨ t' σ H R) := ⟨fun pins s σ H R I q => q.elim (h.run pins s σ H R I) (h'.run pins s σ H R I)⟩
end Pd

set_option Elab.async false
set_option linter.all false
set_option maxRecDepth 100000
set_option maxHeartbeats 4000000
namespace Pd
open PySem PySem.Spec PyProof.Rows L2
def Iter (K : PySem.W.Frag) (G : Hp) (J : It) (ds : List D) : Prop := ∀ (G' H' : Hp) (i : Nat), Same G G' → Same G' H' →
  (∀ d, ds[i]? = some d → J.go i H') ∧ (∀ d v H2, ds[i]? = some d → J.yld i H' v H2 → ∃ G2, Gro G' H' G2 H2 ∧ Dq G2 v d) ∧ (ds.length ≤ i → J.stop i H')
theorem Iter.mono {K : PySem.W.Frag} {G G1 : Hp} {J : It} {ds : List D} (h : Iter K G J ds) (s : Same G G1) : Iter K G1 J ds := fun G' H' i a b => h G' H' i (s.trans a) b
theorem iter_list {K : PySem.W.Frag} {G : Hp} {a : Addr} {vs : List V} {ds : List D} (h : G a = some (.lst vs)) (q : DqA G vs ds) : Iter K G (Itl K a) ds := fun G' H' i s t => by
  have hs : SqL K H' a vs := .inl (.inl (t _ _ (s _ _ h)))
  refine ⟨fun d e => ?_, fun d v H2 e y => ?_, fun hl => ⟨vs, hs, by rw [DqA.len q]; exact hl⟩⟩
  · obtain ⟨v, ev, _⟩ := DqA.get q e
    exact ⟨vs, v, hs, ev⟩
  · obtain ⟨w, ew, hw⟩ := DqA.get q e
    obtain ⟨rfl, y⟩ := y
    have := y vs hs
    rw [ew] at this
    cases this
    exact ⟨G', .inl ⟨rfl, rfl⟩, dqMono s hw⟩
theorem iter_tup {K : PySem.W.Frag} {G : Hp} {a : Addr} {vs : List V} {ds : List D} (h : G a = some (.tup vs)) (q : DqA G vs ds) : Iter K G (Itt K a) ds := fun G' H' i s t => by
  have hs : SqT K H' a vs := .inl (.inl (t _ _ (s _ _ h)))
  refine ⟨fun d e => ?_, fun d v H2 e y => ?_, fun hl => ⟨vs, hs, by rw [DqA.len q]; exact hl⟩⟩
  · obtain ⟨v, ev, _⟩ := DqA.get q e
    exact ⟨vs, v, hs, ev⟩
  · obtain ⟨w, ew, hw⟩ := DqA.get q e
    obtain ⟨rfl, y⟩ := y
    have := y vs hs
    rw [ew] at this
    cases this
    exact ⟨G', .inl ⟨rfl, rfl⟩, dqMono s hw⟩
def rgD (lo c : Int) (n : Nat) : List D := (List.range n).map fun i => .int (lo + (i : Nat) * c)
theorem rgD_get {lo c : Int} {n i : Nat} {d : D} (h : (rgD lo c n)[i]? = some d) : i < n ∧ d = .int (lo + (i : Nat) * c) := by
  unfold rgD at h
  rw [List.getElem?_map] at h
  by_cases q : i < n
  · rw [List.getElem?_range q] at h
    cases h
    exact ⟨q, rfl⟩
  · rw [List.getElem?_eq_none (by simpa using q)] at h
    cases h
theorem rgD_len {lo c : Int} {n : Nat} : (rgD lo c n).length = n := by unfold rgD; rw [List.length_map, List.length_range]
theorem iter_range {K : PySem.W.Frag} {G : Hp} {lo : Int} {n : Nat} : Iter K G (Itr lo n) (rgD lo 1 n) := fun G' H' i s t => by
  refine ⟨fun d e => (rgD_get e).1, fun d v H2 e y => ?_, fun hl => by rw [rgD_len] at hl; exact hl⟩
  obtain ⟨rfl, rfl⟩ := y
  obtain ⟨_, rfl⟩ := rgD_get e
  rw [Int.mul_one]
  exact ⟨G', .inl ⟨rfl, rfl⟩, .int _⟩
theorem iter_rangeC {K : PySem.W.Frag} {G : Hp} {lo c : Int} {n : Nat} : Iter K G (Itc lo c n) (rgD lo c n) := fun G' H' i s t => by
  refine ⟨fun d e => (rgD_get e).1, fun d v H2 e y => ?_, fun hl => by rw [rgD_len] at hl; exact hl⟩
  obtain ⟨rfl, rfl⟩ := y
  obtain ⟨_, rfl⟩ := rgD_get e
  exact ⟨G', .inl ⟨rfl, rfl⟩, .int _⟩
def zipD : List D → List D → List D
  | x :: xs, y :: ys => .tuple [x, y] :: zipD xs ys
  | _, _ => []
theorem zipD_get : ∀ {xs ys : List D} {i : Nat} {d : D}, (zipD xs ys)[i]? = some d → ∃ x y, xs[i]? = some x ∧ ys[i]? = some y ∧ d = .tuple [x, y]
  | [], _, _, _, h => by simp [zipD] at h
  | _ :: _, [], _, _, h => by simp [zipD] at h
  | x :: xs, y :: ys, 0, d, h => by simp [zipD] at h; exact ⟨x, y, rfl, rfl, h.symm⟩
  | x :: xs, y :: ys, i + 1, d, h => by
    obtain ⟨a, b, p, q, r⟩ := zipD_get (xs := xs) (ys := ys) (i := i) (d := d) (by simpa [zipD] using h)
    exact ⟨a, b, by simpa using p, by simpa using q, r⟩
theorem zipD_len : ∀ {xs ys : List D}, (zipD xs ys).length = min xs.length ys.length
  | [], _ => by simp [zipD]
  | _ :: _, [] => by simp [zipD]
  | x :: xs, y :: ys => by
    show (zipD xs ys).length + 1 = _
    rw [zipD_len, List.length_cons, List.length_cons]
    omega
def enumD : Nat → List D → List D
  | _, [] => []
  | k, x :: r => .tuple [.int (k : Nat), x] :: enumD (k + 1) r
theorem enumD_get : ∀ {xs : List D} {k i : Nat} {d : D}, (enumD k xs)[i]? = some d → ∃ x, xs[i]? = some x ∧ d = .tuple [.int ((k + i : Nat)), x]
  | [], _, _, _, h => by simp [enumD] at h
  | x :: xs, k, 0, d, h => by simp [enumD] at h; exact ⟨x, rfl, by rw [Nat.add_zero]; exact h.symm⟩
  | x :: xs, k, i + 1, d, h => by
    obtain ⟨a, p, r⟩ := enumD_get (xs := xs) (k := k + 1) (i := i) (d := d) (by simpa [enumD] using h)
    refine ⟨a, by simpa using p, ?_⟩
    rw [r]
    have : k + 1 + i = k + (i + 1) := by omega
    rw [this]
theorem enumD_len : ∀ {xs : List D} {k : Nat}, (enumD k xs).length = xs.length
  | [], _ => rfl
  | x :: xs, k => by show (enumD (k + 1) xs).length + 1 = _; rw [enumD_len]; rfl
theorem dq_pair {G : Hp} {T : Addr} {x y : V} {d e : D} (gt : G T = none) (hx : Dq G x d) (hy : Dq G y e) : Dq (upd G T (.tup [x, y])) (.ref T) (.tuple [d, e]) :=
  .tup upd_same (.cons (dqMono (same_upd1 gt) hx) (.cons (dqMono (same_upd1 gt) hy) .nil))
theorem iter_enum {K : PySem.W.Frag} {G : Hp} {a : Addr} {vs : List V} {ds : List D} (h : G a = some (.lst vs)) (q : DqA G vs ds) : Iter K G (Ite K a) (enumD 0 ds) := fun G' H' i s t => by
  have hs : SqL K H' a vs := .inl (.inl (t _ _ (s _ _ h)))
  refine ⟨fun d e => ?_, fun d v H2 e y => ?_, fun hl => ⟨vs, hs, by rw [DqA.len q]; rw [enumD_len] at hl; exact hl⟩⟩
  · obtain ⟨x, ex, _⟩ := enumD_get e
    obtain ⟨v, ev, _⟩ := DqA.get q ex
    exact ⟨vs, v, hs, ev⟩
  · obtain ⟨x, ex, rfl⟩ := enumD_get e
    obtain ⟨w, ew, hw⟩ := DqA.get q ex
    obtain ⟨T, z, rfl, nT, rfl, y⟩ := y
    have := y vs hs
    rw [ew] at this
    cases this
    refine ⟨_, .inr ⟨T, _, nT, rfl, rfl⟩, ?_⟩
    rw [Nat.zero_add]
    exact dq_pair (gNoneS t nT) (.int _) (dqMono s hw)
theorem iter_zip {K : PySem.W.Frag} {G : Hp} {a b : Addr} {vs ws : List V} {ds es : List D} (h : G a = some (.lst vs)) (q : DqA G vs ds) (h' : G b = some (.lst ws)) (q' : DqA G ws es) : Iter K G (Itz K a b) (zipD ds es) := fun G' H' i s t => by
  have hs : SqL K H' a vs := .inl (.inl (t _ _ (s _ _ h)))
  have hs' : SqL K H' b ws := .inl (.inl (t _ _ (s _ _ h')))
  refine ⟨fun d e => ?_, fun d v H2 e y => ?_, fun hl => ⟨vs, ws, hs, hs', ?_⟩⟩
  · obtain ⟨x, y, ex, ey, _⟩ := zipD_get e
    obtain ⟨v, ev, _⟩ := DqA.get q ex
    obtain ⟨w, ew, _⟩ := DqA.get q' ey
    exact ⟨vs, ws, v, w, hs, hs', ev, ew⟩
  · obtain ⟨x, x', ex, ex', rfl⟩ := zipD_get e
    obtain ⟨w, ew, hw⟩ := DqA.get q ex
    obtain ⟨w', ew', hw'⟩ := DqA.get q' ex'
    obtain ⟨T, z, z', rfl, nT, rfl, y, y'⟩ := y
    have := y vs hs
    rw [ew] at this
    cases this
    have := y' ws hs'
    rw [ew'] at this
    cases this
    exact ⟨_, .inr ⟨T, _, nT, rfl, rfl⟩, dq_pair (gNoneS t nT) (dqMono s hw) (dqMono s hw')⟩
  · rw [zipD_len] at hl
    rw [DqA.len q, DqA.len q']
    omega
theorem iter_zipT {K : PySem.W.Frag} {G : Hp} {a b : Addr} {vs ws : List V} {ds es : List D} (h : G a = some (.tup vs)) (q : DqA G vs ds) (h' : G b = some (.tup ws)) (q' : DqA G ws es) : Iter K G (RZ.ItzT K a b) (zipD ds es) := fun G' H' i s t => by
  have hs : SqT K H' a vs := .inl (.inl (t _ _ (s _ _ h)))
  have hs' : SqT K H' b ws := .inl (.inl (t _ _ (s _ _ h')))
  refine ⟨fun d e => ?_, fun d v H2 e y => ?_, fun hl => ⟨vs, ws, hs, hs', ?_⟩⟩
  · obtain ⟨x, y, ex, ey, _⟩ := zipD_get e
    obtain ⟨v, ev, _⟩ := DqA.get q ex
    obtain ⟨w, ew, _⟩ := DqA.get q' ey
    exact ⟨vs, ws, v, w, hs, hs', ev, ew⟩
  · obtain ⟨x, x', ex, ex', rfl⟩ := zipD_get e
    obtain ⟨w, ew, hw⟩ := DqA.get q ex
    obtain ⟨w', ew', hw'⟩ := DqA.get q' ex'
    obtain ⟨T, z, z', rfl, nT, rfl, y, y'⟩ := y
    have := y vs hs
    rw [ew] at this
    cases this
    have := y' ws hs'
    rw [ew'] at this
    cases this
    exact ⟨_, .inr ⟨T, _, nT, rfl, rfl⟩, dq_pair (gNoneS t nT) (dqMono s hw) (dqMono s hw')⟩
  · rw [zipD_len] at hl
    rw [DqA.len q, DqA.len q']
    omega
theorem iter_zipM {K : PySem.W.Frag} {G : Hp} {a b : Addr} {vs ws : List V} {ds es : List D} (h : G a = some (.tup vs)) (q : DqA G vs ds) (h' : G b = some (.lst ws)) (q' : DqA G ws es) : Iter K G (ItzM K a b) (zipD ds es) := fun G' H' i s t => by
  have hs : SqT K H' a vs := .inl (.inl (t _ _ (s _ _ h)))
  have hs' : SqL K H' b ws := .inl (.inl (t _ _ (s _ _ h')))
  refine ⟨fun d e => ?_, fun d v H2 e y => ?_, fun hl => ⟨vs, ws, hs, hs', ?_⟩⟩
  · obtain ⟨x, y, ex, ey, _⟩ := zipD_get e
    obtain ⟨v, ev, _⟩ := DqA.get q ex
    obtain ⟨w, ew, _⟩ := DqA.get q' ey
    exact ⟨vs, ws, v, w, hs, hs', ev, ew⟩
  · obtain ⟨x, x', ex, ex', rfl⟩ := zipD_get e
    obtain ⟨w, ew, hw⟩ := DqA.get q ex
    obtain ⟨w', ew', hw'⟩ := DqA.get q' ex'
    obtain ⟨T, z, z', rfl, nT, rfl, y, y'⟩ := y
    have := y vs hs
    rw [ew] at this
    cases this
    have := y' ws hs'
    rw [ew'] at this
    cases this
    exact ⟨_, .inr ⟨T, _, nT, rfl, rfl⟩, dq_pair (gNoneS t nT) (dqMono s hw) (dqMono s hw')⟩
  · rw [zipD_len] at hl
    rw [DqA.len q, DqA.len q']
    omega
def TIT (K : PySem.W.Frag) (ρ : Env) (m : Option (List D)) : TI := fun σ H R => ∃ W G ds, At K W G H σ ρ ∧ m = some ds ∧ ∀ J G' H', At K W G' H' σ ρ → Ex G H G' H' → Iter K G' J ds → R J H'
abbrev IT (X : Cx) (tg it : Expr) (ρ : Env) (m : Option (List D)) : Prop := PI X tg it (TIT X.K ρ m)
def dItems : D → Option (List D)
  | .list xs => some xs
  | .tuple xs => some xs
  | _ => none
def dRange (lo hi : D) : Option (List D) := match lo, hi with
  | .int a, .int b => if -(2 ^ 62) ≤ a ∧ a < 2 ^ 62 ∧ -(2 ^ 62) ≤ b ∧ b < 2 ^ 62 then some (rgD a 1 (b - a).toNat) else none
  | _, _ => none
def dRangeDn (lo hi : D) : Option (List D) := match lo, hi with
  | .int a, .int b => if -(2 ^ 62) ≤ a ∧ a < 2 ^ 62 ∧ -(2 ^ 62) ≤ b ∧ b < 2 ^ 62 then some (rgD a (-1) (a - b).toNat) else none
  | _, _ => none
def dZip (x y : D) : Option (List D) := match x, y with
  | .list a, .list b => some (zipD a b)
  | .tuple a, .tuple b => some (zipD a b)
  | .tuple a, .list b => some (zipD a b)
  | _, _ => none
section
variable {X : Cx} {ρ : Env} {tg e a b : Expr} {m ma mb : Option D} {p pos tpos : Pos}
theorem piImp {t t' : TI} {it : Expr} (h : PI X tg it t) (k : ∀ σ H R, t' σ H R → t σ H R) : PI X tg it t' := ⟨fun pins s σ H R I q => h.run pins s σ H R I (k _ _ _ q)⟩
theorem IT.is {m m' : Option (List D)} (h : IT X tg e ρ m) (q : m = m') : IT X tg e ρ m' := q ▸ h
end
def g1 (i : Nat) : D → Env → Option Env := fun d ρ => some (ρ.set i (.val d))
section
variable {X : Cx} {e1 e2 e3 e4 : Expr} {i1 i2 i3 i4 : List Nat} {h1 h2 h3 h4 : D → Env → Option Env} {kk : Nat} {pos : Pos}
theorem pgImp {tg : Expr} {t t' : TG} (h : PG X tg t) (k : ∀ v σ H Q, t' v σ H Q → t v σ H Q) : PG X tg t' := ⟨fun pins s σ H v u Q I r q => h.run pins s σ H v u Q I r (k _ _ _ _ q)⟩
end
end Pd

set_option Elab.async false
set_option linter.all false
set_option maxRecDepth 100000
set_option maxHeartbeats 4000000
namespace Pd
open PySem PySem.Spec PyProof.Rows L2
def wipeR (ρ : Env) : List Nat → Env
  | [] => ρ
  | v :: vs => (wipeR ρ vs).set v .no
theorem At.wipe {K : PySem.W.Frag} {W : Wd} {G H : Hp} {σ : L2.St} {ρ : Env} (a : At K W G H σ ρ) : ∀ vs : List Nat, At K W G H (L2.wipe σ vs) (wipeR ρ vs)
  | [] => a
  | v :: vs => (At.wipe a vs).setN none v
theorem wipe_ge {σ : L2.St} : ∀ (vs : List Nat) (j : Nat), (L2.wipe σ vs)[j]? = if j ∈ vs then (σ[j]?).map (fun _ => none) else σ[j]?
  | [], j => by simp [L2.wipe]
  | v :: vs, j => by
    have ih := wipe_ge (σ := σ) vs j
    unfold L2.wipe
    by_cases h : v = j
    · subst h
      rw [if_pos List.mem_cons_self]
      by_cases hl : v < σ.length
      · rw [List.getElem?_set_self (by rw [wipe_length]; exact hl), List.getElem?_eq_getElem hl]; rfl
      · rw [List.getElem?_eq_none (by rw [List.length_set, wipe_length]; omega), List.getElem?_eq_none (by omega)]; rfl
    · rw [List.getElem?_set_ne h, ih]
      by_cases q : j ∈ vs
      · rw [if_pos q, if_pos (List.mem_cons_of_mem _ q)]
      · rw [if_neg q, if_neg (by simp only [List.mem_cons, not_or]; exact ⟨fun z => h z.symm, q⟩)]
theorem wipe_same {σ σ' : L2.St} {vs is : List Nat} (hi : ∀ j ∈ is, j ∈ vs) (h : ∀ j, j ∉ is → σ'[j]? = (L2.wipe σ vs)[j]?) (hl : σ'.length = (L2.wipe σ vs).length) : L2.wipe σ' vs = L2.wipe σ vs := by
  refine List.ext_getElem? fun j => ?_
  rw [wipe_ge, wipe_ge]
  rw [wipe_length] at hl
  by_cases q : j ∈ vs
  · rw [if_pos q, if_pos q]
    by_cases hj : j < σ.length
    · rw [List.getElem?_eq_getElem hj, List.getElem?_eq_getElem (by omega)]; rfl
    · rw [List.getElem?_eq_none (by omega), List.getElem?_eq_none (by omega)]
  · rw [if_neg q, if_neg q, h j fun z => q (hi j z), wipe_ge, if_neg q]
section
variable {X : Cx} {ρ : Env}
theorem psImp {X : Cx} {st : Stmt} {t t' : TS} (h : PS X st t) (k : ∀ B σ H, t' B σ H → t B σ H) : PS X st t' := ⟨fun pins s σ H B I q => h.run pins s σ H B I (k _ _ _ q)⟩
structure LcOk (X : Cx) (e : Expr) (ρ : Env) (m : Option (List D)) : Prop where
  ef : EF X e ρ m
  as : ∀ {i : Nat} {y : Str} {py spos : Pos}, X.N[i]? = some y → X.env.scope.names.lookup y = some .local → swapsWith e (some (.Name y py)) spos.line X.env = pure true → PS X (.Assign [.Name y py] e spos) (tAsg (TEF X.K ρ m) (gName i))
theorem LcOk.is {X : Cx} {e : Expr} {ρ : Env} {m m' : Option (List D)} (h : LcOk X e ρ m) (q : m = m') : LcOk X e ρ m' := q ▸ h
end
section
variable {R : Type}
def Wk : Env → Env → Prop
  | [], [] => True
  | _ :: r, .no :: r' => Wk r r'
  | x :: r, .val d :: r' => x = .val d ∧ Wk r r'
  | x :: r, .own a ds :: r' => x = .own a ds ∧ Wk r r'
  | x :: r, .scr ns :: r' => x = .scr ns ∧ Wk r r'
  | _, _ => False
theorem Wk.refl : ∀ ρ : Env, Wk ρ ρ
  | [] => trivial
  | .no :: r => Wk.refl r
  | .val _ :: r => ⟨rfl, Wk.refl r⟩
  | .own _ _ :: r => ⟨rfl, Wk.refl r⟩
  | .scr _ :: r => ⟨rfl, Wk.refl r⟩
theorem Wk.owns : ∀ {ρ ρ' : Env}, Wk ρ ρ' → (owns ρ').Sublist (owns ρ)
  | [], [], _ => .slnil
  | x :: r, .no :: r', h => by
    have ih := Wk.owns (ρ := r) (ρ' := r') h
    cases x with
    | own a ds => exact .cons _ ih
    | _ => exact ih
  | x :: r, .val d :: r', ⟨e, h⟩ => by subst e; exact Wk.owns (ρ := r) (ρ' := r') h
  | x :: r, .own a ds :: r', ⟨e, h⟩ => by subst e; exact .cons_cons _ (Wk.owns (ρ := r) (ρ' := r') h)
  | x :: r, .scr d :: r', ⟨e, h⟩ => by subst e; exact Wk.owns (ρ := r) (ρ' := r') h
  | [], .no :: _, h => h.elim
  | [], .val _ :: _, h => h.elim
  | [], .own _ _ :: _, h => h.elim
  | [], .scr _ :: _, h => h.elim
theorem Wk.rho {K : PySem.W.Frag} {G H : Hp} : ∀ {σ : L2.St} {ρ ρ' : Env}, Wk ρ ρ' → Rho K G H σ ρ → Rho K G H σ ρ'
  | _, [], [], _, .nil => .nil
  | _, x :: r, .no :: r', h, q => by
    cases q with
    | no t => exact .no (Wk.rho h t)
    | val _ t => exact .no (Wk.rho h t)
    | own _ _ t => exact .no (Wk.rho h t)
    | scr _ t => exact .no (Wk.rho h t)
  | _, x :: r, .val d :: r', ⟨e, h⟩, q => by
    subst e
    cases q with
    | val a t => exact .val a (Wk.rho h t)
  | _, x :: r, .own a ds :: r', ⟨e, h⟩, q => by
    subst e
    cases q with
    | own a b t => exact .own a b (Wk.rho h t)
  | _, x :: r, .scr d :: r', ⟨e, h⟩, q => by
    subst e
    cases q with
    | scr a t => exact .scr a (Wk.rho h t)
  | _, [], .no :: _, h, _ => h.elim
  | _, [], .val _ :: _, h, _ => h.elim
  | _, [], .own _ _ :: _, h, _ => h.elim
  | _, [], .scr _ :: _, h, _ => h.elim
def TBJ (K : PySem.W.Frag) (Z : R → D → Env → Prop) (O : List Addr) (ρ : Env) (nx : Env → Option R → Prop) (m : Option R) : TS := fun B σ H => ∃ W G r, (W.O = O ∧ ∀ a ∈ O, W.H a ≠ none) ∧ At K W G H σ ρ ∧ m = some r ∧
  (∀ v d G' H' σ' ρ', At K W G' H' σ' ρ' → Dq G' v d → Z r d ρ' → B.rt v H') ∧
  (∀ ρ' G' H' σ', nx ρ' (some r) → Same G G' → At K W G' H' σ' ρ' → B.nx σ' H')
abbrev BJ (X : Cx) (Z : R → D → Env → Prop) (O : List Addr) (st : List Stmt) (ρ : Env) (nx : Env → Option R → Prop) (m : Option R) : Prop := PSs X st (TBJ X.K Z O ρ nx m)
variable {X : Cx} {Z : R → D → Env → Prop} {O : List Addr} {ρ ρ' : Env} {nx nx' : Env → Option R → Prop} {st : Stmt} {rest : List Stmt} {mr : Option R} {e : Expr} {m : Option D} {pos : Pos}
theorem pssImp {l : List Stmt} {t t' : TS} (h : PSs X l t) (k : ∀ B σ H, t' B σ H → t B σ H) : PSs X l t' := ⟨fun pins s σ H B I q => h.run pins s σ H B I (k _ _ _ q)⟩
theorem BJ.is {l : List Stmt} {m m' : Option R} (h : BJ X Z O l ρ nx m) (q : m = m') : BJ X Z O l ρ nx m' := q ▸ h
end
end Pd

set_option Elab.async false
set_option linter.all false
set_option maxRecDepth 100000
set_option maxHeartbeats 4000000
namespace Pd
open PySem PySem.Spec PyProof.Rows L2
section
variable {α : Type} {x : D} {ρ : Env} {g h l q : D → Env → Option Env}
end
section
variable {R : Type} {X : Cx} {Z : R → D → Env → Prop} {O : List Addr} {ρ ρ' : Env} {nx nx' : Env → Option R → Prop} {st : Stmt} {rest ba bb : List Stmt} {mr ra rb : Option R} {e c : Expr} {m : Option D} {mc : Option Bool} {pos : Pos}
def dApp (ds : List D) (d : D) : Option (List D) := if ds.length < lineN then some (ds ++ [d]) else none
def dExt (ds : List D) : D → Option (List D)
  | .list es => if ds.length + es.length ≤ lineN then some (ds ++ es) else none
  | .tuple es => if ds.length + es.length ≤ lineN then some (ds ++ es) else none
  | _ => none
def dPut (ds : List D) (i d : D) : Option (List D) := match i with
  | .int k => (ixN ds.length k).bind fun j => some (ds.set j d)
  | _ => none
end
def startE (n : Nat) (ds : List D) : Env := ds.map Sl.val ++ List.replicate (n - ds.length) .no
theorem rho_start {K : PySem.W.Frag} {G H : Hp} {n : Nat} : ∀ {vs : List V} {ds : List D}, DqA G vs ds → Rho K G H (vs.map some ++ List.replicate n none) (ds.map Sl.val ++ List.replicate n .no)
  | _, _, .nil => by
    show Rho K G H (List.replicate n none) (List.replicate n .no)
    induction n with
    | zero => exact .nil
    | succ n ih => rw [List.replicate_succ, List.replicate_succ]; exact .no ih
  | _, _, .cons h t => .val h (rho_start t)
theorem owns_start (n : Nat) : ∀ ds : List D, owns (ds.map Sl.val ++ List.replicate n .no) = []
  | [] => by
    show owns (List.replicate n .no) = []
    induction n with
    | zero => rfl
    | succ n ih => rw [List.replicate_succ]; exact ih
  | _ :: r => owns_start n r
section
variable {P : Program} {w : World} {K : PySem.W.Frag} {mg : Str → Option Value} {base : Heap} {x qual : Str} {params : Arguments} {body : List Stmt} {scope : Scope} {dvs : List V} {kws : List (Str × V)} {f : Addr} {fd : FuncData}
end
end Pd

set_option Elab.async false
set_option linter.all false
set_option maxRecDepth 100000
set_option maxHeartbeats 4000000
namespace Pd
open PySem PySem.Spec PyProof.Rows L2
structure ExS (a : Addr) (G H G' H' : Hp) : Prop where
  gg : Same G G'
  hh : ∀ b o, b ≠ a → H b = some o → H' b = some o
  dm : ∀ b, H b ≠ none → H' b ≠ none
  fr : ∀ b, G' b ≠ none → G b = none → H b = none
theorem Ex.s {G H G' H' : Hp} (x : Ex G H G' H') (a : Addr) : ExS a G H G' H' := by
  refine ⟨x.gg, fun b o _ e => x.hh b o e, fun b h z => ?_, x.fr⟩
  cases q : H b with
  | none => exact h q
  | some o => rw [x.hh b o q] at z; cases z
theorem ExS.trans {a : Addr} {G H G' H' G2 H2 : Hp} (x : ExS a G H G' H') (y : ExS a G' H' G2 H2) : ExS a G H G2 H2 := by
  refine ⟨x.gg.trans y.gg, fun b o n e => y.hh b o n (x.hh b o n e), fun b h => y.dm b (x.dm b h), fun c h z => ?_⟩
  by_cases q : G' c = none
  · have e := y.fr c h q
    exact noneOf fun z' => x.dm c z' e
  · exact x.fr c q z
theorem ExS.gone {a : Addr} {G H G' H' : Hp} (x : ExS a G H G' H') {p : Addr} (h : H' p = none) : H p = none := noneOf fun z => x.dm p z h
theorem ExS.frz {a : Addr} {G H G' H' : Hp} {p : Addr} {o : HO} (x : ExS a G H G' H') (hp : H p = none) (gp : G' p = none) : ExS a G H (upd G' p o) H' := by
  refine ⟨x.gg.trans (same_upd1 gp), x.hh, x.dm, fun b h z => ?_⟩
  by_cases q : b = p
  · rw [q]; exact hp
  · rw [upd_ne q] at h; exact x.fr b h z
def TES (K : PySem.W.Frag) (τ : Nat) (a : Addr) (ρ : Env) (m : Option (D × List D)) : TE := fun σ H Q => ∃ W G r, At K W G H σ ρ ∧ m = some r ∧ ∀ v G' H', At K W G' H' σ (ρ.set τ (.own a r.2)) → ExS a G H G' H' → Dq G' v r.1 → Q v H'
def TEFS (K : PySem.W.Frag) (τ : Nat) (a : Addr) (ρ : Env) (m : Option (List D × List D)) : TE := fun σ H Q => ∃ W G r, At K W G H σ ρ ∧ m = some r ∧ ∀ p vs G' H', At K W G' H' σ (ρ.set τ (.own a r.2)) → ExS a G H G' H' →
  H' p = some (.lst vs) → G' p = none → H p = none → p ∉ owns (ρ.set τ (.own a r.2)) → DqA G' vs r.1 → Q (.ref p) H'
def TBS (K : PySem.W.Frag) (τ : Nat) (a : Addr) (ρ : Env) (m : Option (Bool × List D)) : TT := fun σ H Q => ∃ W G r, At K W G H σ ρ ∧ m = some r ∧ ∀ G' H', At K W G' H' σ (ρ.set τ (.own a r.2)) → ExS a G H G' H' → Q r.1 H'
def TIS (K : PySem.W.Frag) (τ : Nat) (a : Addr) (ρ : Env) (m : Option (List D × List D)) : TI := fun σ H R => ∃ W G r, At K W G H σ ρ ∧ m = some r ∧ ∀ J G' H', At K W G' H' σ (ρ.set τ (.own a r.2)) → ExS a G H G' H' → Iter K G' J r.1 → R J H'
abbrev ES (X : Cx) (τ : Nat) (a : Addr) (e : Expr) (ρ : Env) (m : Option (D × List D)) : Prop := PE X e (TES X.K τ a ρ m)
abbrev EFS (X : Cx) (τ : Nat) (a : Addr) (e : Expr) (ρ : Env) (m : Option (List D × List D)) : Prop := PE X e (TEFS X.K τ a ρ m)
abbrev BTS (X : Cx) (τ : Nat) (a : Addr) (e : Expr) (ρ : Env) (m : Option (Bool × List D)) : Prop := PT X e (TBS X.K τ a ρ m)
abbrev ITS (X : Cx) (τ : Nat) (a : Addr) (tg it : Expr) (ρ : Env) (m : Option (List D × List D)) : Prop := PI X tg it (TIS X.K τ a ρ m)
abbrev Bs := (β : Type) → (List D → List D → Option β) → Option β
section
variable {X : Cx} {τ : Nat} {a : Addr} {t : List D} {ρ : Env} {e b c : Expr} {m ma mb mc : Option (D × List D)} {pos : Pos}
theorem ES.is {m' : Option (D × List D)} (h : ES X τ a e ρ m) (q : m = m') : ES X τ a e ρ m' := q ▸ h
theorem EFS.is {m m' : Option (List D × List D)} (h : EFS X τ a e ρ m) (q : m = m') : EFS X τ a e ρ m' := q ▸ h
theorem BTS.is {m m' : Option (Bool × List D)} (h : BTS X τ a e ρ m) (q : m = m') : BTS X τ a e ρ m' := q ▸ h
theorem ITS.is {tg : Expr} {m m' : Option (List D × List D)} (h : ITS X τ a tg e ρ m) (q : m = m') : ITS X τ a tg e ρ m' := q ▸ h
theorem EFS.s {m : Option (List D × List D)} (h : EFS X τ a e ρ m) : ES X τ a e ρ (m.bind fun r => some (.list r.1, r.2)) :=
  peImp h fun σ H Q ⟨W, G, d', at', em, k⟩ => by
    obtain ⟨r, e1, em⟩ := bindS em
    cases em
    exact ⟨W, G, r, at', e1, fun p vs G1 H1 a1 x1 q1 q2 q3 q4 q5 => k _ _ _ (a1.freeze q1 q4 q2 (at'.wNone q3)) (x1.frz q3 q2) (.lst upd_same (dqAMono (same_upd1 q2) q5))⟩
end
end Pd

set_option Elab.async false
set_option linter.all false
set_option maxRecDepth 100000
set_option maxHeartbeats 4000000
namespace Pd
open PySem PySem.Spec PyProof.Rows L2
section
variable {X : Cx} {τ : Nat} {a : Addr} {t : List D} {ρ : Env} {e e1 e2 c : Expr} {m m1 mc : Option (D × List D)} {m2 : List D → Option (D × List D)} {pos : Pos}
variable {ba : Option (Bool × List D)} {bb : List D → Option (Bool × List D)} {rest : List Expr}
variable {k : Nat} {f : Addr} {fd : FuncData} {ps : List Str} {x : Str} {p : Pos} {es : List Expr} {B : Bs}
theorem At.calleeS {W : Wd} {G H G' H' : Hp} {σ : L2.St} {ρ : Env} {vts : List V} {t' : List D} (a1 : At X.K W G H σ ρ) (hi : ρ[τ]? = some (.own a t)) (g : Same G' H') (x : ExS a G H G' H') (h1 : H' a = some (.lst vts)) (h2 : G' a = none) (h3 : DqA G' vts t') : At X.K W G' H' σ (ρ.set τ (.own a t')) := by
  have e := owns_set_own (es := t') hi
  obtain ⟨hσ, ha, vs0, hv0, hq0⟩ := a1.rho.getO hi
  refine a1.trans ⟨x.gg, g, fun b o eb hb => x.hh b o (fun z => hb (by rw [z]; exact ha)) eb, x.dm, x.fr, fun c h => .inl (by rw [← e]; exact h), ?_, by rw [e]; exact a1.nd, fun c h => ?_⟩
  · have mono : ∀ {σ : L2.St} {ρ : Env} {i : Nat}, (owns ρ).Nodup → ρ[i]? = some (.own a t) → Rho X.K G H σ ρ → Rho X.K G' H' σ (ρ.set i (.own a t')) := by
      intro σ ρ i nd hi r
      induction r generalizing i with
      | nil => simp at hi
      | no r ih =>
        cases i with
        | zero => simp at hi
        | succ i => exact .no (ih nd (by simpa using hi))
      | val q r ih =>
        cases i with
        | zero => simp at hi
        | succ i => exact .val (dqMono x.gg q) (ih nd (by simpa using hi))
      | scr q r ih =>
        cases i with
        | zero => simp at hi
        | succ i => exact .scr (x.gg.seq q) (ih nd (by simpa using hi))
      | @own b ws cs σ ρ e' q r ih =>
        obtain ⟨n1, n2⟩ := List.nodup_cons.mp nd
        cases i with
        | zero =>
          simp at hi
          obtain ⟨rfl, rfl⟩ := hi
          have keep : ∀ {σ : L2.St} {ρ : Env}, b ∉ owns ρ → Rho X.K G H σ ρ → Rho X.K G' H' σ ρ := by
            intro σ ρ hb r
            induction r with
            | nil => exact .nil
            | no r ih => exact .no (ih hb)
            | val q r ih => exact .val (dqMono x.gg q) (ih hb)
            | scr q r ih => exact .scr (x.gg.seq q) (ih hb)
            | own e q r ih => exact .own (x.hh _ _ (fun z => hb (by rw [z]; exact List.mem_cons_self)) e) (dqAMono x.gg q) (ih fun z => hb (List.mem_cons_of_mem _ z))
          exact .own h1 h3 (keep n1 r)
        | succ i =>
          have hi' : ρ[i]? = some (.own a t) := by simpa using hi
          have hm := (r.getO hi').2.1
          exact .own (x.hh _ _ (fun z => n1 (by rw [z]; exact hm)) e') (dqAMono x.gg q) (ih n2 hi')
    exact mono a1.nd hi a1.rho
  · rw [e] at h
    by_cases q : c = a
    · rw [q]; exact h2
    · refine noneOf fun z => ?_
      obtain ⟨vs, ev⟩ := a1.ownThere h
      have := x.fr c z (a1.ng c h)
      rw [ev] at this; cases this
end
end Pd

set_option Elab.async false
set_option linter.all false
set_option maxRecDepth 100000
set_option maxHeartbeats 4000000
namespace Pd
open PySem PySem.Spec PyProof.Rows L2
section
variable {X : Cx} {τ : Nat} {a : Addr} {t : List D} {ρ : Env} {e c : Expr} {m : Option (D × List D)} {pos p : Pos} {x : Str} {id T : String} {f : D → Option D} {fl : D → Option (List D)} {tg it : Expr}
theorem ExS.at {G H G' H' : Hp} {P : Addr} {o : HO} (x : ExS a G H G' H') (n : P ≠ a) (h : H P = some o) (g : G P = none) : H' P = some o ∧ G' P = none := ⟨x.hh _ _ n h, noneOf fun z => by
  have := x.fr P z g
  rw [h] at this; cases this⟩
structure LcOkS (X : Cx) (τ : Nat) (a : Addr) (e : Expr) (ρ : Env) (m : Option (List D × List D)) : Prop where
  ef : EFS X τ a e ρ m
  as : ∀ {i : Nat} {y : Str} {py spos : Pos}, X.N[i]? = some y → X.env.scope.names.lookup y = some .local → swapsWith e (some (.Name y py)) spos.line X.env = pure true → PS X (.Assign [.Name y py] e spos) (tAsg (TEFS X.K τ a ρ m) (gName i))
theorem LcOkS.is {X : Cx} {τ : Nat} {a : Addr} {e : Expr} {ρ : Env} {m m' : Option (List D × List D)} (h : LcOkS X τ a e ρ m) (q : m = m') : LcOkS X τ a e ρ m' := q ▸ h
end
end Pd

set_option Elab.async false
set_option linter.all false
set_option maxRecDepth 100000
set_option maxHeartbeats 4000000
namespace Pd
open PySem PySem.Spec PyProof.Rows L2
def b2 {α β γ : Type} (m : Option (α × β)) (k : α → β → Option γ) : Option γ := m.bind fun p => k p.1 p.2
section
variable {R : Type} {X : Cx} {Z : R → D → Env → Prop} {O : List Addr} {ρ ρ' : Env} {nx nx' : Env → Option R → Prop} {st : Stmt} {rest ba bb : List Stmt} {mr ra rb : Option R} {e c : Expr} {τ : Nat} {a : Addr} {t : List D} {m : Option (D × List D)} {pos : Pos}
def dPop (ds : List D) (i : D) : Option (D × List D) := match i with
  | .int i => if -(2 ^ 63) ≤ i ∧ i < 2 ^ 63 then (seqIndex? i ds.length).bind fun k => (ds[k]?).bind fun y => some (y, ds.eraseIdx k) else none
  | _ => none
variable {mc : Option (Bool × List D)} {ras rbs : List D → Option R}
end
section
variable {X : Cx} {ρ : Env} {ns : List Int} {x : Str} {px pos p : Pos}
def scrD (ns : List Int) : D := .list (ns.map PyData.int)
end
def startT (n : Nat) (ns : List Int) (a : Addr) (ts ds : List D) : Env := .scr ns :: .own a ts :: (ds.map Sl.val ++ List.replicate (n - 2 - ds.length) .no)
def startL (n : Nat) (ns : List Int) : Env := .scr ns :: List.replicate (n - 1) .no
section
variable {P : Program} {w : World} {K : PySem.W.Frag} {mg : Str → Option Value} {base : Heap} {x qual : Str} {params : Arguments} {body : List Stmt} {scope : Scope} {dvs : List V} {kws : List (Str × V)} {f : Addr} {fd : FuncData}
def spLaw (K : PySem.W.Frag) : Sp := fun vs H Q _ => ∃ (sa : Addr) (ns : List Int), vs = [.ref sa] ∧ SqL K H sa (ns.map V.int) ∧ ns.length ≤ 63 ∧ ∀ H', Q (.bl true) H'
end
end Pd

set_option Elab.async false
set_option linter.all false
set_option maxRecDepth 100000
set_option maxHeartbeats 4000000
namespace Pd
open PySem PySem.Spec PyProof.Rows L2
section
variable {X : Cx} {ρ : Env} {τ k : Nat} {a : Addr} {t : List D} {x : Str} {ps : List Str} {p pos : Pos} {e : Expr} {es : List Expr}
end
section
variable {X : Cx} {R : Type} {Z : R → D → Env → Prop} {O : List Addr} {ρ : Env} {nx : Env → Option R → Prop} {rest : List Stmt} {pos : Pos}
end
end Pd

set_option Elab.async false
set_option linter.all false
set_option maxRecDepth 100000
set_option maxHeartbeats 4000000
namespace Pd
open PySem PySem.Spec PyProof.Rows L2
def dListRg (lo hi : D) : Option (List D) := match lo, hi with
  | .int a, .int b => if -(2 ^ 62) ≤ a ∧ a < 2 ^ 62 ∧ -(2 ^ 62) ≤ b ∧ b < 2 ^ 62 ∧ (b - a).toNat ≤ 2 ^ 24 then some (rgD a 1 (b - a).toNat) else none
  | _, _ => none
theorem dq_rg {G : Hp} (a : Int) : ∀ l : List Nat, DqA G (l.map fun i => V.int (a + (i : Nat))) (l.map fun i => PyData.int (a + (i : Nat) * 1))
  | [] => .nil
  | i :: r => .cons (by show Dq G (.int (a + (i : Nat))) (.int (a + (i : Nat) * 1)); rw [Int.mul_one]; exact .int _) (dq_rg a r)
theorem dListRgS {x y : D} {xs : List D} (h : dListRg x y = some xs) : ∃ a b, x = .int a ∧ y = .int b ∧ RgOk a b ∧ xs = rgD a 1 (b - a).toNat := by
  unfold dListRg at h
  split at h
  · split at h
    · rename_i z
      cases h
      exact ⟨_, _, rfl, rfl, z, rfl⟩
    · cases h
  · cases h
section
variable {X : Cx} {ρ : Env} {tg e e2 a b : Expr} {m ma mb : Option D} {p p2 pos pos2 tpos : Pos}
end
def IteT (K : PySem.W.Frag) (a : Addr) : It :=
  ⟨fun i H => ∃ (xs : List V) (x : V), SqT K H a xs ∧ xs[i]? = some x, fun i H v H' => ∃ T x, v = .ref T ∧ H T = none ∧ H' = upd H T (.tup [.int (i : Nat), x]) ∧ ∀ xs, SqT K H a xs → xs[i]? = some x, fun i H => ∃ xs : List V, SqT K H a xs ∧ xs.length ≤ i⟩
theorem enumObj {h : Heap} {e it a : Addr} {i : Int} {old : Value} {items : Array Value} (he : IsEnum h e it i old) (ht : h.IsTuple a items) : e ≠ a := fun z => by
  obtain ⟨o, ho, hc, n, hd⟩ := ht
  rw [← z, he] at ho
  cases ho
  cases hd
theorem turn_enumT {P : Program} {w : World} {K : PySem.W.Frag} {elts : List Expr} {kk : Nat} {tpos : Pos} (a e it : Addr) (hai : a ≠ it) :
    Turn P w K (.Tuple elts kk tpos) (IteT K a) [e, it] e (fun i h => (∃ old, IsEnum h e it ((i : Nat) : Int) old) ∧ h.IsTupleIter it a i ∧ e ≠ it) where
  mem := by simp
  obj := fun i h st b hb => by
    obtain ⟨⟨old, he⟩, ⟨o, ho, hc, hd⟩, _⟩ := st
    rcases (by simpa using hb : b = e ∨ b = it) with z | z
    · subst z; exact ⟨_, he, fun v q => nomatch q⟩
    · subst z; exact ⟨o, ho, fun v q => by rw [hd] at q; cases q⟩
  keep := fun i h h' st k => ⟨st.1.imp fun old he => k e (by simp) _ he, st.2.1.at fun o q => k it (by simp) o q, st.2.2⟩
  item := by
    intro X hP hw hK hc i pins s σ H E I hf st hg
    subst hP hw hK
    obtain ⟨⟨old, he⟩, hit, hne⟩ := st
    obtain ⟨xs, x, hq, hx⟩ := hg
    obtain ⟨its, rv, p, hz⟩ := I.tuple hq
    have p' : s.heap.IsTuple a its.toArray := p
    obtain ⟨u, hu, ru⟩ := rv.get hx
    have hlt : i < its.toArray.size := by
      have := (List.getElem?_eq_some_iff.mp hu).1
      simpa using this
    have hel := Heap.lt_size he
    have hil : it < s.heap.objs.size := by obtain ⟨_, q, _⟩ := hit; exact Heap.lt_size q
    have hh : X.A.in1.handled = none := I.ok.hd hc
    have hea := enumObj he p'
    refine wpAny_pyNext_enum_itemD (Draws.tuple hh it a hai its.toArray) he ⟨hit, p'⟩ hlt hne (by simp; exact ⟨hne, hea⟩) fun x' h' tk px ho st' hT hsz hk => ?_
    have ux : x' = u := by
      have : its[i]? = some x' := by simpa using px
      rw [hu] at this; exact (Option.some.inj this).symm
    subst ux
    refine ⟨_, rfl, wpAny_letOwnedTupleGo_enum (s := { s with heap := h', toks := tk + 1 }) ho fun h'' he' sb => ?_⟩
    have hT2 : h''.get? s.heap.objs.size = some { cls := .type "tuple", data := .seq #[.int i tk, x'] } := (sb.2 _ (Nat.ne_of_gt hel)).trans hT
    have new : ObjOk X.prog X.w (upd H s.heap.objs.size (.tup [.int (i : Nat), x])) h'' s.heap.objs.size (.tup [.int (i : Nat), x]) :=
      ⟨by show 2 ≤ sizeLine; decide, [.int i tk, x'], .cons ⟨_, rfl⟩ (.cons ru .nil), ⟨_, hT2, rfl, _, rfl⟩⟩
    have I1 := I.turnedNew (t' := tk + 1) (ch := [e, it]) (fun b ob hb q => (sb.2 b (fun z => hb (by simp [z]))).trans (hk b ob (fun z => hb (by simp [z])) (fun z => hb (by simp [z])) q)) hf (Nat.le_refl _) new
    refine ⟨.ref s.heap.objs.size, _, I1, rfl, ⟨_, x, rfl, I.hok.fresh (Nat.le_refl _), rfl, fun ys hy => by rw [I.tuple_inj hy hq]; exact hx⟩, ⟨⟨x', ?_⟩, st'.1.at fun o q => (sb.2 it (Ne.symm hne)).trans q, hne⟩, fun b hb => ?_⟩
    · have e1 : ((i + 1 : Nat) : Int) = (i : Int) + 1 := by omega
      rw [e1]; exact he'
    · have hb' : b < s.heap.objs.size := by
        rcases (by simpa using hb : b = e ∨ b = it) with z | z
        · rw [z]; exact hel
        · rw [z]; exact hil
      rw [upd_ne (Nat.ne_of_lt hb')]
      exact (hf b hb).1
  done := by
    intro X hP hw hK hc i pins s σ H E I hf st hg
    subst hP hw hK
    obtain ⟨⟨old, he⟩, hit, hne⟩ := st
    obtain ⟨xs, hq, hx⟩ := hg
    obtain ⟨its, rv, p, hz⟩ := I.tuple hq
    have p' : s.heap.IsTuple a its.toArray := p
    have hh : X.A.in1.handled = none := I.ok.hd hc
    obtain ⟨f0, f1, f2, f3, f4, f5⟩ := hf it (by simp)
    have hl := rv.length
    have dr : Draws X.prog X.w X.A.in1 it [it, a] i (fun _ _ => True) (fun j h => j = i ∧ h.IsTupleIter it a i ∧ h.IsTuple a its.toArray) := {
      live := fun _ _ st => let ⟨o, ho, _⟩ := st.2.1; ⟨o, ho⟩
      frame := fun _ _ _ st hk => ⟨st.1, st.2.1.at fun o e => hk it (by simp) o e, st.2.2.at fun o e => hk a (by simp) o e⟩
      item := fun j s Q E hj st hQ => absurd st.1 (Nat.ne_of_lt hj)
      done := fun s Q E st hE => wpAny_nextOf_tuple_end hh st.2.1 st.2.2 (by simp; omega) hE }
    exact wpAny_pyNext_enum_endD dr he ⟨rfl, hit, p'⟩ fun h' eb => ⟨rfl, I.turned (t' := s.toks) (fun b o hb q => eb b o hb q) f0 f1 f3 f4 f5⟩
  self := fun A i s Q E st h => let ⟨⟨_, he⟩, _⟩ := st; wpAny_pyIter_enum he h
theorem meets_enumB {v : Value} {o : Obj} {B : Heap → Prop} (hb : Begins v o B) :
    Meets (Builtin.«enumerate.__new__» ⟨[.type "enumerate", v], []⟩) (fun _ R s => B s.heap ∧ R (.ok (.ret (.ref (s.heap.push o).objs.size))) { s with heap := (s.heap.push o).push { cls := .type "enumerate", data := .fields #[.none, .bool false, .ref s.heap.objs.size, rawInt 0, .none, .none] } }) :=
  .of_wp fun prog w A R s h => by
    obtain ⟨hp, g, d, tk, os⟩ := s
    obtain ⟨hv, h⟩ := h
    have hsub := sub_enumerate
    have go : ∀ {A' : Around} {E : Value → Shared → Prop} {Q : Value → Shared → Prop}, Q (.ref hp.objs.size) ⟨hp.push o, g, d, tk, os⟩ → wpAny (model prog w) A' (pyIter v) Q E ⟨hp, g, d, tk, os⟩ := fun q => hb.iter prog w _ _ ⟨hp, g, d, tk, os⟩ _ hv q
    wp_walk using go
    refine wpAny_stack_any fun st => wpAny_pure ?_
    split
    · rename_i c _ _ _ _ _
      cases (c == Value.type "enumerate") <;> (wp_walk using go; exact ⟨_, rfl, h⟩)
    · wp_walk using go
      exact ⟨_, rfl, h⟩
theorem call_enumB {prog : Program} {w : World} {A : Around} {E : Value → Shared → Prop} {s : Shared} {v : Value} {o : Obj} {B : Heap → Prop} {Q : Value → Shared → Prop} (hb : Begins v o B) (hv : B s.heap)
    (h : ∀ h', IsEnum h' (s.heap.objs.size + 1) s.heap.objs.size 0 .none → h'.get? s.heap.objs.size = some o → (∀ b o, s.heap.get? b = some o → h'.get? b = some o) → Q (.ref (s.heap.objs.size + 1)) { s with heap := h' }) :
    wpAny (model prog w) A (call (.type "enumerate") [v]) Q E s := by
  refine callType_new F.called_enumerate (by decide) (F.typeCall_enumerate_1 _) (F.newCall_enumerate_1 _) (fun obj => F.args_object_init_2 obj _) F.entry_enumerate_new (meets_enumB hb) ⟨hv, ?_⟩
  have hz : (s.heap.push o).objs.size = s.heap.objs.size + 1 := Heap.size_push ..
  have he := Heap.get?_push_size (s.heap.push o) (o := { cls := .type "enumerate", data := .fields #[.none, .bool false, .ref s.heap.objs.size, rawInt 0, .none, .none] }) rfl
  rw [hz] at he
  show _ ∧ _
  rw [hz]
  exact ⟨⟨_, he, rfl⟩, h _ he (Heap.get?_push_of_some _ (Heap.get?_push_size _ hb.free)) fun b o x => Heap.get?_push_of_some _ (Heap.get?_push_of_some _ x)⟩
def iEnumT (K : PySem.W.Frag) (ta : TA) : TI := fun σ H R => ta σ H fun vs H1 => ∃ a xs, vs = [.ref a] ∧ ((SqL K H1 a xs ∧ R (Ite K a) H1) ∨ (SqT K H1 a xs ∧ R (IteT K a) H1))
theorem pi_enumT {X : Cx} {e : Expr} {ta : TA} {p pos tpos : Pos} {elts : List Expr} {kk : Nat} (hg : Gl X "enumerate") (hm : X.mg "enumerate" = none) (ha : PA X [e] ta) (hs : starEach [e] X.env = [(false, eval e X.env)] := by rfl) :
    PI X (.Tuple elts kk tpos) (.Call (.Name "enumerate" p) [e] [] pos) (iEnumT X.K ta) := by
  refine ⟨fun pins s σ H R I h => ?_⟩
  refine Call_ (ld_blt I hg hm boot_enumerate (PyProof.Rows.callWith_type1 (thn (ha.run pos pins s σ H _ I h) fun us s1 ⟨vs, H1, I1, r1, q1⟩ => ?_) hs rfl))
  obtain ⟨a, xs, rfl, q1⟩ := q1
  cases r1 with
  | cons r rr =>
    cases rr
    cases r
    have two : ∀ b ∈ [s1.heap.objs.size + 1, s1.heap.objs.size], FpOk X pins H1 b := fun b hb => by
      have hle : s1.heap.objs.size ≤ b := by
        rcases (by simpa using hb : b = s1.heap.objs.size + 1 ∨ b = s1.heap.objs.size) with z | z <;> rw [z] <;> omega
      exact I1.fpOk hle (I1.hok.fresh hle)
    rcases q1 with ⟨hq, q⟩ | ⟨hq, q⟩
    · obtain ⟨its, rv, p', hz⟩ := I1.list hq
      refine call_enumB (begins_list a its.toArray) p'.isList fun h' he hit hk => wpAny_pyIter_enum he ?_
      exact ⟨_, _, _, _, H1, rfl, I1.kept (t' := s1.toks) hk, turn_enum a (s1.heap.objs.size + 1) s1.heap.objs.size, ⟨⟨.none, he⟩, ⟨_, hit, rfl, rfl⟩, Nat.succ_ne_self _⟩, two, q⟩
    · obtain ⟨its, rv, p', hz⟩ := I1.tuple hq
      have p2 : s1.heap.IsTuple a its.toArray := p'
      refine call_enumB (begins_tuple a its.toArray) p2 fun h' he hit hk => wpAny_pyIter_enum he ?_
      have hne : a ≠ s1.heap.objs.size := by
        obtain ⟨o, ho, _⟩ := p2
        exact Nat.ne_of_lt (Heap.lt_size ho)
      exact ⟨_, _, _, _, H1, rfl, I1.kept (t' := s1.toks) hk, turn_enumT a (s1.heap.objs.size + 1) s1.heap.objs.size hne, ⟨⟨.none, he⟩, ⟨_, hit, rfl, rfl⟩, Nat.succ_ne_self _⟩, two, q⟩
theorem iter_enumT {K : PySem.W.Frag} {G : Hp} {a : Addr} {vs : List V} {ds : List D} (h : G a = some (.tup vs)) (q : DqA G vs ds) : Iter K G (IteT K a) (enumD 0 ds) := fun G' H' i s t => by
  have hs : SqT K H' a vs := .inl (.inl (t _ _ (s _ _ h)))
  refine ⟨fun d e => ?_, fun d v H2 e y => ?_, fun hl => ⟨vs, hs, by rw [DqA.len q]; rw [enumD_len] at hl; exact hl⟩⟩
  · obtain ⟨x, ex, _⟩ := enumD_get e
    obtain ⟨v, ev, _⟩ := DqA.get q ex
    exact ⟨vs, v, hs, ev⟩
  · obtain ⟨x, ex, rfl⟩ := enumD_get e
    obtain ⟨w, ew, hw⟩ := DqA.get q ex
    obtain ⟨T, z, rfl, nT, rfl, y⟩ := y
    have := y vs hs
    rw [ew] at this
    cases this
    refine ⟨_, .inr ⟨T, _, nT, rfl, rfl⟩, ?_⟩
    rw [Nat.zero_add]
    exact dq_pair (gNoneS t nT) (.int _) (dqMono s hw)
def dEnum : D → Option (List D)
  | .list xs => some (enumD 0 xs)
  | .tuple xs => some (enumD 0 xs)
  | _ => none
end Pd

set_option Elab.async false
set_option linter.all false
set_option maxRecDepth 100000
set_option maxHeartbeats 4000000
namespace Pd
open PySem PySem.Spec PyProof.Rows L2
section
variable {R : Type} {X : Cx} {Z : R → D → Env → Prop} {O : List Addr} {ρ ρ' : Env} {nx nx' : Env → Option R → Prop} {st : Stmt} {rest : List Stmt} {mr : Option R} {e c : Expr} {τ : Nat} {a : Addr} {t : List D} {pos : Pos}
end
section
variable {X : Cx} {ρ : Env} {mm : Option (List D)}
end
section
variable {X : Cx} {τ : Nat} {a : Addr} {t : List D} {ρ : Env} {e tg : Expr} {pos : Pos} {mm : Option (List D × List D)}
end
end Pd

set_option Elab.async false
set_option linter.all false
set_option maxRecDepth 100000
set_option maxHeartbeats 4000000
namespace Pd
open PySem PySem.Spec PyProof.Rows L2
section
variable {X : Cx}
def dInt : D → Option D
  | .int i => some (.int i)
  | .bool b => some (.int (if b then 1 else 0))
  | .str a => if a.length ≤ 640 then (PySem.intText? a).map .int else none
  | _ => none
theorem cd_int : CallR X (.type "int") (rC1 X.K dInt) := by
  intro pins s σ H xs us Q I r h
  obtain ⟨G, x, d, z, rfl, gs, hx, ef, k⟩ := h
  cases d with
  | int i =>
    cases ef
    cases hdInt hx
    exact call_int1 pins s σ H _ us Q I r (.inl ⟨i, rfl, k _ G H (.inl ⟨rfl, rfl⟩) (.int _)⟩)
  | bool b =>
    cases ef
    cases hdBl hx
    exact call_int1 pins s σ H _ us Q I r (.inr ⟨b, rfl, k _ G H (.inl ⟨rfl, rfl⟩) (.int _)⟩)
  | str a =>
    have ef : (if a.length ≤ 640 then (PySem.intText? a).map PyData.int else none) = some z := ef
    split at ef
    · rename_i hz
      cases e : PySem.intText? a with
      | none => rw [e] at ef; cases ef
      | some n =>
        rw [e] at ef
        cases ef
        cases hdStr hx
        exact call_int_str pins s σ H _ us Q I r ⟨a, n, rfl, e, hz, k _ G H (.inl ⟨rfl, rfl⟩) (.int _)⟩
    · cases ef
  | _ => cases ef
def dStr : D → Option D
  | .int i => if i.natAbs.log2 < 1920 then some (.str (toString i)) else none
  | _ => none
theorem cd_str : CallR X (.type "str") (rC1 X.K dStr) := by
  intro pins s σ H xs us Q I r h
  obtain ⟨G, x, d, z, rfl, gs, hx, ef, k⟩ := h
  cases d with
  | int i =>
    have ef : (if i.natAbs.log2 < 1920 then some (PyData.str (toString i)) else none) = some z := ef
    split at ef
    · rename_i hz
      cases ef
      cases hdInt hx
      exact call_str_int pins s σ H _ us Q I r ⟨i, rfl, hz, k _ G H (.inl ⟨rfl, rfl⟩) (.str _)⟩
    · cases ef
  | _ => cases ef
end
end Pd

set_option Elab.async false
set_option linter.all false
set_option maxRecDepth 100000
set_option maxHeartbeats 4000000
namespace Pd
open PySem PySem.Spec PyProof.Rows L2
set_option maxRecDepth 8000 in
theorem ext_tup (l : Addr) (items : Array Value) (n : Nat) (b : Addr) (items2 : Array Value) (n2 : Nat) (dd : Option Addr) (sl : Array (Option Value)) (hs0 : ¬(!items.isEmpty && Builtin.List.listTooLong (items.size + items2.size)) = true) (hs1 : items.size ≤ sizeLine) (hs2 : items.size + items2.size ≤ sizeLine + 1) :
    Meets (Builtin.«list.extend» ⟨[.ref l, .ref b], []⟩) (fun _ R s => s.heap.get? l = some { cls := .type "list", dict := none, data := .seq items n, slots := #[] } ∧ s.heap.get? b = some { cls := .type "tuple", dict := dd, data := .seq items2 n2, slots := sl } ∧ R (.ok (.ret Value.none)) { s with heap := s.heap.update l (Obj.mapSeq fun x => x ++ items2), toks := s.toks }) :=
  .of_wp fun prog w A R s h => by
    obtain ⟨hp, g, d, tk, os⟩ := s; obtain ⟨hl, hb, h⟩ := h; have f1 := AutoSeq1.idx_int; have f2 := AutoSeq1.sub_tuple_tuple; have f3 := AutoSeq1.sub_list_list; have f4 := AutoSeq1.sub_tuple_list; have f5 := AutoSeq1.sub_list_tuple;
    have hz' : (items ++ items2).size ≤ sizeLine + 1 := by rw [Array.size_append]; exact hs2
    wp_walk using (wpAny_updateSeq hl rfl (hz := hs1) (_hz' := hz')), AutoSeq1.wpAny_loadPart' hl, AutoSeq1.wpAny_loadPart' hb; exact ⟨_, rfl, h⟩
section
variable {X : Cx}
def rExtD (K : PySem.W.Frag) : V → List V → Hp → VK → Prop := fun x vs H Q => ∃ l b xs zs, x = .ref l ∧ vs = [.ref b] ∧ H l = some (.lst xs) ∧ (H b = some (.lst zs) ∨ SqT K H b zs) ∧ xs.length + zs.length ≤ sizeLine ∧ Q .non (upd H l (.lst (xs ++ zs)))
theorem mt_extD : MtM X "list.extend" (rExtD X.K) := by
  intro pins s σ H x vs v us Q I rx rv h
  obtain ⟨l, b, xs, zs, rfl, rfl, hH, hB, hz, q⟩ := h
  rcases hB with hB | hB
  · exact mt_extend pins s σ H _ _ v us Q I rx rv ⟨l, b, xs, zs, rfl, rfl, hH, hB, hz, q⟩
  cases rx
  obtain ⟨u, rfl, ru⟩ := rv.one
  cases ru
  obtain ⟨z, its, n, r, hl, e⟩ := I.lstM hH
  obtain ⟨its2, r2, ⟨⟨cls, dd, data, sl⟩, ho, hc, n2, hd⟩, hl2⟩ := I.tuple hB
  simp only at hc hd
  subst hc hd
  have e2 := r2.length
  have hsz : its.toArray.size + its2.toArray.size ≤ sizeLine := by rw [List.size_toArray, List.size_toArray]; omega
  have hlong : ¬ (!its.toArray.isEmpty && Builtin.List.listTooLong (its.toArray.size + its2.toArray.size)) = true := by
    rw [notLongL hsz, Bool.and_false]
    exact Bool.false_ne_true
  refine call_meets F.slot_list_extend ⟨_, e, rfl⟩ F.entry_list_extend (F.args_list_extend_2 _ _)
    (ext_tup l its.toArray n b its2.toArray n2 dd sl hlong (by rw [List.size_toArray]; omega) (by omega)) ⟨e, ho, ?_⟩
  refine ⟨.non, _, I.lset (its' := its ++ its2) hH e (by simp) (r.append r2) ?_, rfl, q⟩
  rw [List.length_append]
  omega
theorem adjust_rev (n : Nat) : Builtin.Slice.sliceAdjust none none (-1) (n : Int) = ((n : Int) - 1, -1) := by
  unfold Builtin.Slice.sliceAdjust
  simp
theorem places_rev (n : Nat) : Builtin.Slice.slicePlaces ((n : Int) - 1) (-1) (-1) = n := by
  unfold Builtin.Slice.slicePlaces
  have h1 : ¬ ((-1 : Int) > 0) := by decide
  simp only [h1, if_false]
  split <;> simp <;> omega
theorem fm_congr {α β : Type} {f g : α → Option β} : ∀ {l : List α}, (∀ x ∈ l, f x = g x) → l.filterMap f = l.filterMap g
  | [], _ => rfl
  | x :: l, h => by
    rw [List.filterMap_cons, List.filterMap_cons, h x List.mem_cons_self, fm_congr fun y hy => h y (List.mem_cons_of_mem _ hy)]
theorem pick_rev (xs : Array Value) : ((List.range xs.size).filterMap fun (m : Nat) => xs[((xs.size : Int) - 1 + (m : Int) * (-1)).toNat]?).toArray = xs.toList.reverse.toArray := by
  congr 1
  have e : ((List.range xs.size).filterMap fun (m : Nat) => xs[((xs.size : Int) - 1 + (m : Int) * (-1)).toNat]?) = (List.range xs.size).filterMap fun (m : Nat) => xs.toList.reverse[m]? := fm_congr fun m hm => by
    have hm := List.mem_range.mp hm
    have : ((xs.size : Int) - 1 + (m : Int) * (-1)).toNat = xs.size - 1 - m := by omega
    rw [this, List.getElem?_reverse (by simpa using hm)]
    simp
  rw [e]
  have := pick_run xs.toList.reverse.toArray 0 xs.size
  rw [List.filterMap_map] at this
  have t : List.take xs.size xs.toList.reverse = xs.toList.reverse := List.take_of_length_le (by simp)
  simp only [List.drop_zero] at this
  rw [t] at this
  refine Eq.trans ?_ this
  refine fm_congr fun m _ => ?_
  simp
theorem getItem_tuple_rev {prog : Program} {w : World} {A : Around} {E : Value → Shared → Prop} {s : Shared} {t sl : Addr} {items : Array Value} {vl vu vs : Value} {Q : Value → Shared → Prop} (ht : IsTup s.heap t items) (hs : s.heap.IsSliceOf sl vl vu vs) (pl : IsPart vl none) (pu : IsPart vu none) (ps : IsPart vs (some (-1)))
    (h : Q (.ref s.heap.objs.size) { s with heap := s.heap.push { cls := .type "tuple", data := .seq items.toList.reverse.toArray } })
    (hsz : items.size ≤ sizeLine) : wpAny (model prog w) A (getItem (.ref t) (.ref sl)) Q E s := by
  obtain ⟨os, hos, hcs, hds⟩ := id hs
  have hTs : s.TypeIs (.ref sl) "slice" := ⟨os, hos, hcs⟩
  have happ : ∀ {A : Around} {E : Value → Shared → Prop} {Q : Int × Int × Nat → Shared → Prop}, Q ((items.size : Int) - 1, -1, items.size) s → wpAny (model prog w) A (Builtin.Slice.sliceApplied (.ref sl) (pure (items.size : Int))) Q E s := fun {A E Q} hq => by
    unfold Builtin.Slice.sliceApplied Builtin.Slice.sliceFields
    refine wpAny_bind (wpAny_bind (wpAny_field hos hds (x := vl) rfl (wpAny_bind (wpAny_field hos hds (x := vu) rfl (wpAny_bind (wpAny_field hos hds (x := vs) rfl (wpAny_pure ?_)))))))
    refine wpAny_bind (HT.slicePart_ ps ?_)
    show wpAny _ _ (if ((-1 : Int) == 0) = true then _ else _) _ _ s
    rw [if_neg (by decide)]
    refine wpAny_bind (HT.slicePart_ pl (wpAny_bind (HT.slicePart_ pu (wpAny_bind (wpAny_pure ?_)))))
    show wpAny _ _ (match Builtin.Slice.sliceAdjust none none (-1) (items.size : Int) with | (lo, hi) => pure (lo, (-1 : Int), Builtin.Slice.slicePlaces lo hi (-1))) _ _ s
    rw [adjust_rev]
    show wpAny _ _ (pure ((items.size : Int) - 1, (-1 : Int), Builtin.Slice.slicePlaces ((items.size : Int) - 1) (-1) (-1))) _ _ s
    rw [places_rev]
    exact wpAny_pure hq
  have hsz2 : sizeOk (.seq items.toList.reverse.toArray) := by
    show items.toList.reverse.toArray.size ≤ sizeLine
    rw [List.size_toArray, List.length_reverse, Array.length_toList]
    exact hsz
  unfold getItem
  try with_reducible refine wpAny_holding ?_
  first | refine wpAny_bind (wpAny_pure ?_) | skip
  refine wpAny_bind (wpAny_sequenceKey ht.typeIs (by decide) ?_)
  refine wpAny_bind (wpAny_callSpecial?_slot (name := Str.ofString "__getitem__") ht.typeIs PyProof.Rows.slot_tuple_getitem
    (wpAny_call_entry PyProof.Rows.slot_tuple_getitem ht.typeIs entry_tuple_getitem ?_ (args_tuple_getitem _ _)))
  show wpAny _ _ (Builtin.Tuple.tupleItemsOf (.ref t) >>= _) _ _ s
  refine wpAny_bind (tupleItemsOf_ ht ?_)
  refine wpAny_bind (wpAny_typeOf hTs ?_)
  rw [if_pos (by decide)]
  refine wpAny_bind (happ ?_)
  have hno : ¬ ((((items.size : Int) - 1) == 0 && (-1 : Int) == 1 && items.size == items.size) = true) := by simp
  show wpAny _ _ (if ((((items.size : Int) - 1) == 0 && (-1 : Int) == 1 && items.size == items.size) = true) then _ else _) _ _ s
  rw [if_neg hno, pick_rev]
  first
    | exact wpAny_bind (m := Builtin.Tuple.tupleExact _) (wpAny_newObj_type (wpAny_pure ⟨_, rfl, wpAny_pure h⟩) hsz2)
    | exact wpAny_bind (m := Builtin.Tuple.tupleExact _) (wpAny_newObj_type (wpAny_bind (wpAny_pure (wpAny_pure ⟨_, rfl, wpAny_pure h⟩))) hsz2)
    | exact wpAny_bind (wpAny_bind (m := Builtin.Tuple.tupleExact _) (wpAny_newObj_type (wpAny_pure (wpAny_pure ⟨_, rfl, wpAny_pure h⟩)) hsz2))
    | exact wpAny_bind (wpAny_bind (m := Builtin.Tuple.tupleExact _) (wpAny_newObj_type (wpAny_pure ⟨_, rfl, wpAny_pure h⟩) hsz2))
def tRev (K : PySem.W.Frag) (te : TE) : TE := fun σ H Q => te σ H fun x H1 => ∃ a xs, x = .ref a ∧ ((SqL K H1 a xs ∧ ∀ p, H1 p = none → Q (.ref p) (upd H1 p (.lst xs.reverse))) ∨ (SqT K H1 a xs ∧ ∀ p, H1 p = none → Q (.ref p) (upd H1 p (.tup xs.reverse))))
theorem pe_rev {e : Expr} {te : TE} {k : Nat} {p1 p2 p3 pos : Pos} (he : PE X e te) : PE X (.Subscript e (.Slice none none (some (.UnaryOp .USub (.Constant (.int 1) k p1) p2)) p3) pos) (tRev X.K te) := by
  refine ⟨fun pins s σ H Q I h => ?_⟩
  refine Subscript_ (thn (he.run pins s σ H _ I h) fun v s1 ⟨x, H1, I1, r1, q1⟩ => ?_)
  obtain ⟨a, xs, ex, hq⟩ := q1
  subst ex
  cases r1
  have hst : PO X (some (.UnaryOp .USub (.Constant (.int 1) k p1) p2)) (tPart (tUn (rU fun i => .int (-i)) (tC (.int 1)))) := po_some (pe_un un_neg pe_int)
  refine wpAny_Slice (thn (po_none.run pins s1 σ H1 (fun o H2 => o = none ∧ H2 = H1) I1 ⟨rfl, rfl⟩) fun vl s2 ⟨l, H2, I2, pl, el, e2⟩ => ?_)
  subst el e2
  refine thn (po_none.run pins s2 σ H2 (fun o H3 => o = none ∧ H3 = H2) I2 ⟨rfl, rfl⟩) fun vu s3 ⟨u, H3, I3, pu, eu, e3⟩ => ?_
  subst eu e3
  refine thn (hst.run pins s3 σ H3 (fun o H4 => o = some (-1) ∧ H4 = H3) I3 ⟨1, rfl, -1, rfl, rfl, rfl⟩) fun vs s4 ⟨o, H4, I4, ps, eo, e4⟩ => ?_
  subst eo e4
  have I5 : Inv X pins σ H4 { s4 with heap := s4.heap.push { cls := .type "slice", data := .fields #[vl, vu, vs] } } := I4.kept (t' := s4.toks) fun b ob q => Heap.get?_push_of_some _ q
  show wpAny (model X.prog X.w) X.A (subscriptTail e (.Slice none none (some (.UnaryOp .USub (.Constant (.int 1) k p1) p2)) p3) (.ref a) (.ref s4.heap.objs.size)) (L2.EP X pins σ Q) X.xe { s4 with heap := s4.heap.push { cls := .type "slice", data := .fields #[vl, vu, vs] } }
  rcases hq with ⟨hx, q⟩ | ⟨hx, q⟩
  · obtain ⟨its, r, ht, hz⟩ := I5.list hx
    have hlen := r.length
    refine tail_any (ops := [.ref a, .ref s4.heap.objs.size]) ht.isList.typeIs (PySem.slot_list_getitem.lookup) ?_ (by with_unfolding_all rfl)
    refine wpAny_getItem_list_slice ht.isList (Heap.IsSliceOf.new _ vl vu vs) pl pu ps (by decide) ?_ (by rw [List.size_toArray]; omega)
    rw [PySem.W.krv_pick]
    refine ⟨.ref _, _, I5.laid (t' := s4.toks) (o := .lst xs.reverse) (fun b ob q => Heap.get?_push_of_some _ q) (Nat.le_refl _) ?_, rfl, q _ (I5.hok.fresh (Nat.le_refl _))⟩
    exact ⟨by rw [List.length_reverse]; exact hz, _, 0, r.reverse, Heap.get?_push_size _ rfl⟩
  · obtain ⟨its, r, ht, hz⟩ := I5.tuple hx
    have hlen := r.length
    refine tail_any (ops := [.ref a, .ref s4.heap.objs.size]) ht.typeIs (PyProof.Rows.slot_tuple_getitem.lookup) ?_ (by with_unfolding_all rfl)
    refine getItem_tuple_rev ht (Heap.IsSliceOf.new _ vl vu vs) pl pu ps ?_ (by rw [List.size_toArray]; omega)
    refine ⟨.ref _, _, I5.laid (t' := s4.toks) (o := .tup xs.reverse) (fun b ob q => Heap.get?_push_of_some _ q) (Nat.le_refl _) ?_, rfl, q _ (I5.hok.fresh (Nat.le_refl _))⟩
    exact ⟨by rw [List.length_reverse]; exact hz, _, r.reverse, IsTup.new _ _⟩
end
end Pd
namespace Pd
open PySem PySem.Spec PyProof.Rows L2
section
variable {H : Hp}
theorem DqA.rev {vs : List V} {ds : List D} (h : DqA H vs ds) : DqA H vs.reverse ds.reverse := by
  have go : ∀ (vs : List V) (ds : List D), DqA H vs ds → DqA H vs.reverse ds.reverse := by
    intro vs
    induction vs with
    | nil => intro ds h; cases h; exact .nil
    | cons v vs ih =>
      intro ds h
      cases h with
      | cons a b =>
        rw [List.reverse_cons, List.reverse_cons]
        exact DqA.app (ih _ b) (.cons a .nil)
  exact go vs ds h
end
section
variable {X : Cx}
theorem ps_parT {i j : Nat} {x y : Str} {a b : Expr} {ta : TA} {px py pt pos : Pos} {kt k2 pt2} (hc : X.calm = true) (hN : X.N.Nodup) (hi : X.N[i]? = some x) (hj : X.N[j]? = some y)
    (hx : Loc X.env.scope x) (hy : Loc X.env.scope y) (fx : X.fn x = true ∨ X.env.scope.names.lookup x = some .local) (fy : X.fn y = true ∨ X.env.scope.names.lookup y = some .local) (ha : PA X [a, b] ta)
    (hw : swappedStores [.Tuple [.Name x px, .Name y py] kt pt] (.Tuple [a, b] k2 pt2) X.env = pure none)
    (hs : swapsWithSole [.Tuple [.Name x px, .Name y py] kt pt] (.Tuple [a, b] k2 pt2) pos.line X.env = pure false) :
    PS X (.Assign [.Tuple [.Name x px, .Name y py] kt pt] (.Tuple [a, b] k2 pt2) pos) (tPar i j ta) := by
  refine ⟨fun pins s σ H D I h => ?_⟩
  refine wpAny_Assign_stores (Tuple_ (thn (ha.run _ pins s σ H _ I h) fun us s1 ⟨vs, H1, I1, r1, q1⟩ => ?_)) hs hw
  obtain ⟨v, w, rfl, q1⟩ := q1
  have hl : us.length = 2 := r1.length.symm
  refine wpAny_newObj_type ?_ (by show us.toArray.size ≤ sizeLine; rw [List.size_toArray, hl]; decide)
  have I2 : Inv X pins σ H1 { s1 with heap := s1.heap.push { cls := .type "tuple", data := .seq us.toArray } } := I1.kept (t' := s1.toks) fun b o e => Heap.get?_push_of_some _ e
  rw [show (assignEach [.Tuple [.Name x px, .Name y py] kt pt] X.env).map (·.2) = [assign (.Tuple [.Name x px, .Name y py] kt pt) X.env] from rfl]
  have ht : IsTup (s1.heap.push { cls := .type "tuple", data := .seq us.toArray }) s1.heap.objs.size us.toArray := IsTup.new s1.heap _
  have hg : PGs X [.Name x px, .Name y py] (gCons (gName i) (gCons (gName j) gNil)) := pgs_cons (pg_name hN hi hx fx) (pgs_cons (pg_name hN hj hy fy) pgs_nil)
  have key : wpAny (model X.prog X.w) X.A (assign (.Tuple [.Name x px, .Name y py] kt pt) X.env (.ref s1.heap.objs.size)) (fun _ s' => SP X pins D Flow.next s') X.xe { s1 with heap := s1.heap.push { cls := .type "tuple", data := .seq us.toArray } } := by
    refine assign_Tuple_tuple (I.ok.hd hc) ht (by rw [List.size_toArray, hl]; rfl) rfl fun h' hx => ?_
    have I3 := I2.kept (h' := h') (t' := s1.toks) fun b o e => hx b o (Nat.ne_of_lt (Heap.lt_size e)) e
    exact thn (hg.run pins _ σ H1 [v, w] _ _ I3 (by simpa using r1) ⟨v, [w], rfl, w, [], rfl, rfl, q1⟩) fun _ s2 q => q
  exact thn key fun _ s2 q => q
end
end Pd

set_option Elab.async false
set_option linter.all false
set_option maxRecDepth 100000
set_option maxHeartbeats 4000000
namespace Pd
open PySem
inductive As where
  | no
  | val (d : D)
  | own (ds : List D)
  | twn (ds : List D)
  | scr (ns : List Int)
abbrev AE := List As
inductive Rf where
  | v (d : D)
  | s (i : Nat)
  | f (ds : List D)
inductive Bop where
  | add | sub | mul | div | mod | pow | shl
inductive Cop where
  | lt | le | gt | ge | eq | ne | is | isnot | in_ | notin
inductive Bi where
  | len | abs | tup | lst | sum | all | any | max | min | sorted | int | str
inductive Bi2 where
  | min2 | max2 | lrg | trg
inductive Ty where
  | int | bool | str | list | tuple
inductive Tg where
  | n (i : Nat)
  | t2 (a b : Tg)
  | t3 (a b c : Tg)
  | t4 (a b c d : Tg)
mutual
inductive Ir where
  | int (i : Int)
  | bl (b : Bool)
  | non
  | str (s : String)
  | nm (i : Nat)
  | bin (op : Bop) (a b : Ir)
  | neg (a : Ir)
  | cmp (op : Cop) (a b : Ir)
  | ch2 (o1 o2 : Cop) (a b c : Ir)
  | and (a b : Ir)
  | or (a b : Ir)
  | not (a : Ir)
  | ite (c a b : Ir)
  | tup (es : Irs)
  | lst (es : Irs)
  | ix (a b : Ir)
  | cut (a : Ir) (lo hi : Iro)
  | rev (a : Ir)
  | call (f : String) (es : Irs)
  | callT (f : String) (i j : Nat) (es : Irs)
  | bi (b : Bi) (a : Ir)
  | bi2 (b : Bi2) (a c : Ir)
  | isi (a : Ir) (t : Ty)
  | pop (i : Nat) (a : Iro)
  | slen (i : Nat)
  | six (i : Nat) (a : Ir)
  | stru (i : Nat)
  | lc (own : List Nat) (tg : Tg) (it : Iri) (c : Iro) (e : Ir)
inductive Irs where
  | nil
  | cons (a : Ir) (r : Irs)
inductive Iro where
  | no
  | yes (a : Ir)
inductive Iri where
  | e (a : Ir)
  | r1 (a : Ir)
  | r2 (a b : Ir)
  | rd (a b : Ir)
  | zip (a b : Ir)
  | enum (a : Ir)
  | scr (i : Nat)
end
mutual
inductive Is where
  | set (i : Nat) (e : Ir)
  | unp (t : Tg) (e : Ir)
  | par (i j : Nat) (a b : Ir)
  | app (i : Nat) (e : Ir)
  | ext (i : Nat) (e : Ir)
  | put (i : Nat) (k e : Ir)
  | drop (e : Ir)
  | ret (e : Ir)
  | ifs (c : Ir) (a b : Iss)
  | for_ (t : Tg) (it : Iri) (b : Iss)
  | wh (c : Ir) (b : Iss)
  | skip
inductive Iss where
  | nil
  | cons (a : Is) (r : Iss)
end
def dr (r : AE) : Rf → Option D
  | .v d => some d
  | .f ds => some (.list ds)
  | .s i => match r[i]? with
    | some (.own ds) => some (.list ds)
    | some (.twn ds) => some (.list ds)
    | some (.val d) => some d
    | _ => none
def fz (r : AE) : Rf → Option (D × AE)
  | .v d => some (d, r)
  | .f ds => some (.list ds, r)
  | .s i => match r[i]? with
    | some (.own ds) => some (.list ds, r.set i (.val (.list ds)))
    | some (.val d) => some (d, r)
    | _ => none
def fzs (r : AE) : List Rf → Option (List D × AE)
  | [] => some ([], r)
  | x :: xs => (fz r x).bind fun y => (fzs y.2 xs).bind fun ys => some (y.1 :: ys.1, ys.2)
def settle : Rf → Rf
  | .f ds => .v (.list ds)
  | x => x
def dRev : D → Option Rf
  | .list xs => some (.f xs.reverse)
  | .tuple xs => some (.v (.tuple xs.reverse))
  | _ => none
def dShl : D → D → Option D
  | .int i, .int j => if 0 ≤ j ∧ j ≤ 1000 ∧ i.natAbs < 2 ^ 64 then some (.int (i * 2 ^ j.toNat)) else none
  | _, _ => none
def bop : Bop → D → D → Option Rf
  | .add, .list xs, .list ys => (dCat (.list xs) (.list ys)).map .f
  | .mul, .list xs, .int k => (dRep (.list xs) (.int k)).map .f
  | .add, x, y => (dAdd x y).map .v
  | .sub, x, y => (dSub x y).map .v
  | .mul, x, y => (dMul x y).map .v
  | .div, x, y => (dDiv x y).map .v
  | .mod, x, y => (dMod x y).map .v
  | .pow, x, y => (dPow x y).map .v
  | .shl, x, y => (dShl x y).map .v
def cop : Cop → D → D → Option Bool
  | .lt => dLt
  | .le => dLe
  | .gt => dGt
  | .ge => dGe
  | .eq => dEq
  | .ne => dNe
  | .is => dIs
  | .isnot => dNotN
  | .in_ => dIn
  | .notin => dNin
def bi1 : Bi → D → Option Rf
  | .len, x => (dLen x).map .v
  | .abs, x => (dAbs x).map .v
  | .tup, x => (dTuple x).map .v
  | .lst, x => (dList x).map .f
  | .sum, x => (dSum x).map .v
  | .all, x => (dAll x).map .v
  | .any, x => (dAny x).map .v
  | .max, x => (dMax x).map .v
  | .min, x => (dMin x).map .v
  | .sorted, x => (dSorted x).map .f
  | .int, x => (dInt x).map .v
  | .str, x => (dStr x).map .v
def bi2f : Bi2 → D → D → Option Rf
  | .min2, x, y => (dMin2 [x, y]).map .v
  | .max2, x, y => (dMax2 [x, y]).map .v
  | .lrg, x, y => (dListRg x y).map .f
  | .trg, x, y => (dListRg x y).map fun l => .v (.tuple l)
def tyS : Ty → String
  | .int => "int"
  | .bool => "bool"
  | .str => "str"
  | .list => "list"
  | .tuple => "tuple"
def dCutR (lo hi : Option Int) : D → Option Rf
  | .list xs => (dCutL lo hi (.list xs)).map .f
  | x => (dCut lo hi x).map .v
def upO (a : As) (ds : List D) : As := match a with
  | .own _ => .own ds
  | .twn _ => .twn ds
  | a => a
def isO : As → Option (List D)
  | .own ds => some ds
  | .twn ds => some ds
  | _ => none
def popD (ds : List D) : Option Int → Option (D × List D)
  | none => (ds[ds.length - 1]?).bind fun y => some (y, ds.dropLast)
  | some z => dPop ds (.int z)
def okO (r : AE) (i : Nat) : Bool := match r[i]? with
  | some (As.own _) => true
  | some (As.twn _) => true
  | _ => false
def okT (r : AE) (i : Nat) : Bool := match r[i]? with
  | some (As.scr _) => true
  | _ => false
def asg : Tg → D → AE → Option AE
  | .n i, d, r => if i < r.length then some (r.set i (.val d)) else none
  | .t2 a b, d, r => match d with
    | .tuple [x, y] => (asg a x r).bind fun r => asg b y r
    | _ => none
  | .t3 a b c, d, r => match d with
    | .tuple [x, y, z] => (asg a x r).bind fun r => (asg b y r).bind fun r => asg c z r
    | _ => none
  | .t4 a b c e, d, r => match d with
    | .tuple [x, y, z, w] => (asg a x r).bind fun r => (asg b y r).bind fun r => (asg c z r).bind fun r => asg e w r
    | _ => none
def wipeA (own : List Nat) (r : AE) : AE := own.foldr (fun i acc => acc.set i .no) r
def backA (own : List Nat) (r r' : AE) : AE := own.foldr (fun i acc => acc.set i (r.getD i .no)) r'
def plainS : As → Bool
  | .no => true
  | .val _ => true
  | _ => false
def compA (own : List Nat) (g : D → AE → Option AE) (c : AE → Option (Bool × AE)) (f : AE → Option (D × AE)) : List D → AE → Option (List D × AE)
  | [], r => some ([], r)
  | d :: ds, r => (g d (wipeA own r)).bind fun r1 => (c r1).bind fun b => if b.1 = true
    then (f b.2).bind fun y => (compA own g c f ds (backA own r y.2)).bind fun ys => some (y.1 :: ys.1, ys.2)
    else compA own g c f ds (backA own r b.2)
abbrev Cl := String → List Int → List D → List D → Option (Rf × List D)
section
variable (cl : Cl)
mutual
def ev : Ir → AE → Option (Rf × AE)
  | .int i, r => some (.v (.int i), r)
  | .bl b, r => some (.v (.bool b), r)
  | .non, r => some (.v .none, r)
  | .str s, r => some (.v (.str (Str.ofString s)), r)
  | .nm i, r => match r[i]? with
    | some (.val d) => some (.v d, r)
    | some (.own _) => some (.s i, r)
    | some (.twn _) => some (.s i, r)
    | _ => none
  | .bin op a b, r => (ev a r).bind fun x => (ev b x.2).bind fun y => (dr y.2 (settle x.1)).bind fun d => (dr y.2 y.1).bind fun e => (bop op d e).bind fun z => some (z, y.2)
  | .neg a, r => (ev a r).bind fun x => (dr x.2 x.1).bind fun d => (dNeg d).bind fun z => some (.v z, x.2)
  | .cmp op a b, r => (ev a r).bind fun x => (ev b x.2).bind fun y => (dr y.2 (settle x.1)).bind fun d => (dr y.2 y.1).bind fun e => (cop op d e).bind fun z => some (.v (.bool z), y.2)
  | .ch2 o1 o2 a b c, r => (ev a r).bind fun x => (ev b x.2).bind fun y => (dr y.2 (settle x.1)).bind fun d => (dr y.2 y.1).bind fun e => (cop o1 d e).bind fun z =>
    if z = true then (ev c y.2).bind fun w => (dr w.2 (settle y.1)).bind fun e' => (dr w.2 w.1).bind fun u => (cop o2 e' u).bind fun z2 => some (.v (.bool z2), w.2) else some (.v (.bool false), y.2)
  | .and a b, r => (ev a r).bind fun x => (dr x.2 x.1).bind fun d => (dTruth d).bind fun t => if t = true then ev b x.2 else some (settle x.1, x.2)
  | .or a b, r => (ev a r).bind fun x => (dr x.2 x.1).bind fun d => (dTruth d).bind fun t => if t = true then some (settle x.1, x.2) else ev b x.2
  | .not a, r => (ev a r).bind fun x => (dr x.2 x.1).bind fun d => (dTruth d).bind fun t => some (.v (.bool !t), x.2)
  | .ite c a b, r => (evT c r).bind fun t => if t.1 = true then ev a t.2 else ev b t.2
  | .tup es, r => (evs es r).bind fun x => (fzs x.2 x.1).bind fun y => some (.v (.tuple y.1), y.2)
  | .lst es, r => (evs es r).bind fun x => (fzs x.2 x.1).bind fun y => some (.f y.1, y.2)
  | .ix a b, r => (ev a r).bind fun x => (ev b x.2).bind fun y => (dr y.2 (settle x.1)).bind fun d => (dr y.2 y.1).bind fun e => (dIx d e).bind fun z => some (.v z, y.2)
  | .cut a lo hi, r => (ev a r).bind fun x => (evo lo x.2).bind fun l => (evo hi l.2).bind fun u => (dr u.2 (settle x.1)).bind fun d => (dCutR l.1 u.1 d).bind fun z => some (z, u.2)
  | .rev a, r => (ev a r).bind fun x => (dr x.2 x.1).bind fun d => (dRev d).bind fun z => some (z, x.2)
  | .call f es, r => (evs es r).bind fun x => (fzs x.2 x.1).bind fun y => (cl f [] [] y.1).bind fun z => some (z.1, y.2)
  | .callT f i j es, r => if okT r i = true ∧ okO r j = true then (evs es r).bind fun x => (fzs x.2 x.1).bind fun y => match y.2[i]?, y.2[j]? with
    | some (.scr ns), some a => (isO a).bind fun t => (cl f ns t y.1).bind fun z => some (z.1, y.2.set j (upO a z.2))
    | _, _ => none
    else none
  | .bi b a, r => (ev a r).bind fun x => (dr x.2 x.1).bind fun d => (bi1 b d).bind fun z => some (z, x.2)
  | .bi2 b a c, r => (ev a r).bind fun x => (ev c x.2).bind fun y => (dr y.2 (settle x.1)).bind fun d => (dr y.2 y.1).bind fun e => (bi2f b d e).bind fun z => some (z, y.2)
  | .isi a t, r => (ev a r).bind fun x => (dr x.2 x.1).bind fun d => some (.v (.bool (isT (tyS t) d)), x.2)
  | .pop i a, r => if okO r i = true then (evp a r).bind fun k => (k.2[i]?).bind fun s => (isO s).bind fun ds => (popD ds k.1).bind fun y => some (.v y.1, k.2.set i (upO s y.2)) else none
  | .slen i, r => match r[i]? with
    | some (.scr ns) => some (.v (.int ns.length), r)
    | _ => none
  | .six i a, r => if okT r i = true then (ev a r).bind fun x => (dr x.2 x.1).bind fun k => match x.2[i]? with
    | some (.scr ns) => (dIx (scrD ns) k).bind fun z => some (.v z, x.2)
    | _ => none
    else none
  | .stru i, r => match r[i]? with
    | some (.scr ns) => some (.v (.bool !ns.isEmpty), r)
    | _ => none
  | .lc own tg it c e, r => (evI it r).bind fun xs => if xs.1.length ≤ lineN ∧ own.all (fun i => plainS (xs.2.getD i .no)) = true
    then (compA own (asg tg) (evC c) (fun r => (ev e r).bind fun x => fz x.2 x.1) xs.1 xs.2).bind fun ys => some (.f ys.1, ys.2) else none
def evT : Ir → AE → Option (Bool × AE)
  | .and a b, r => (evT a r).bind fun t => if t.1 = true then evT b t.2 else some (false, t.2)
  | .or a b, r => (evT a r).bind fun t => if t.1 = true then some (true, t.2) else evT b t.2
  | .not a, r => (evT a r).bind fun t => some (!t.1, t.2)
  | e, r => (ev e r).bind fun x => (dr x.2 x.1).bind fun d => (dTruth d).bind fun t => some (t, x.2)
def evs : Irs → AE → Option (List Rf × AE)
  | .nil, r => some ([], r)
  | .cons a es, r => (ev a r).bind fun x => (evs es x.2).bind fun y => some (settle x.1 :: y.1, y.2)
def evo : Iro → AE → Option (Option Int × AE)
  | .no, r => some (none, r)
  | .yes a, r => (ev a r).bind fun x => (dr x.2 x.1).bind fun d => (dPart d).bind fun p => some (p, x.2)
def evp : Iro → AE → Option (Option Int × AE)
  | .no, r => some (none, r)
  | .yes a, r => (ev a r).bind fun x => (dr x.2 x.1).bind fun d => (dPart d).bind fun p => some (p, x.2)
def evC : Iro → AE → Option (Bool × AE)
  | .no, r => some (true, r)
  | .yes a, r => evT a r
def evI : Iri → AE → Option (List D × AE)
  | .e a, r => (ev a r).bind fun x => (fz x.2 x.1).bind fun y => (dItems y.1).bind fun l => some (l, y.2)
  | .r1 a, r => (ev a r).bind fun x => (dr x.2 x.1).bind fun d => (dRange (.int 0) d).bind fun l => some (l, x.2)
  | .r2 a b, r => (ev a r).bind fun x => (ev b x.2).bind fun y => (dr y.2 (settle x.1)).bind fun d => (dr y.2 y.1).bind fun e => (dRange d e).bind fun l => some (l, y.2)
  | .rd a b, r => (ev a r).bind fun x => (ev b x.2).bind fun y => (dr y.2 (settle x.1)).bind fun d => (dr y.2 y.1).bind fun e => (dRangeDn d e).bind fun l => some (l, y.2)
  | .zip a b, r => (ev a r).bind fun x => (fz x.2 x.1).bind fun x' => (ev b x'.2).bind fun y => (fz y.2 y.1).bind fun y' => (dZip x'.1 y'.1).bind fun l => some (l, y'.2)
  | .enum a, r => (ev a r).bind fun x => (fz x.2 x.1).bind fun y => (dEnum y.1).bind fun l => some (l, y.2)
  | .scr i, r => match r[i]? with
    | some (.scr ns) => some (ns.map PyData.int, r)
    | _ => none
end
inductive Out where
  | nx (r : AE)
  | rt (x : Rf) (r : AE)
def forA (g : D → AE → Option AE) (b : AE → Option Out) : List D → AE → Option Out
  | [], r => some (.nx r)
  | d :: ds, r => (g d r).bind fun r1 => (b r1).bind fun o => match o with
    | .nx r2 => forA g b ds r2
    | .rt x r2 => some (.rt x r2)
def whN (c : AE → Option (Bool × AE)) (b : AE → Option Out) : Nat → AE → Option Out
  | 0, _ => none
  | n + 1, r => (c r).bind fun t => if t.1 = true then (b t.2).bind fun o => match o with
    | .nx r2 => whN c b n r2
    | .rt x r2 => some (.rt x r2) else some (.nx t.2)
open Classical in
noncomputable def whA (c : AE → Option (Bool × AE)) (b : AE → Option Out) (r : AE) : Option Out :=
  if h : ∃ n o, whN c b n r = some o then whN c b h.choose r else none
theorem whA_is {c : AE → Option (Bool × AE)} {b : AE → Option Out} {r : AE} {o : Out} (h : whA c b r = some o) : ∃ n, whN c b n r = some o := by
  unfold whA at h
  split at h
  · exact ⟨_, h⟩
  · cases h
theorem and2 {a b : Bool} (h : (a && b) = true) : a = true ∧ b = true := by simpa using h
def retR (r : AE) : Rf → Option Out
  | .v d => some (.rt (.v d) r)
  | .f ds => some (.rt (.f ds) r)
  | .s i => match r[i]? with
    | some (.own ds) => some (.rt (.f ds) (r.set i .no))
    | some (.val d) => some (.rt (.v d) r)
    | _ => none
def nos (r : AE) : Rf → Option (Rf × AE)
  | .v d => some (.v d, r)
  | .f ds => some (.f ds, r)
  | .s i => (fz r (.s i)).bind fun y => some (.v y.1, y.2)
def setR (r : AE) (i : Nat) : Rf → Option AE
  | .v d => some (r.set i (.val d))
  | .f ds => some (r.set i (.own ds))
  | .s j => (fz r (.s j)).bind fun y => some (y.2.set i (.val y.1))
mutual
noncomputable def exS : Is → AE → Option Out
  | .set i e, r => (ev cl e r).bind fun x => if i < x.2.length then (setR x.2 i x.1).bind fun r' => some (.nx r') else none
  | .unp t e, r => (ev cl e r).bind fun x => (fz x.2 x.1).bind fun y => (asg t y.1 y.2).bind fun r' => some (.nx r')
  | .par i j a b, r => (ev cl a r).bind fun x => (ev cl b x.2).bind fun y => (nos y.2 x.1).bind fun x' => (nos x'.2 y.1).bind fun y' => if i ≠ j ∧ i < y'.2.length ∧ j < y'.2.length then
      (setR y'.2 i x'.1).bind fun r1 => (setR r1 j y'.1).bind fun r2 => some (.nx r2) else none
  | .app i e, r => if okO r i = true then (ev cl e r).bind fun x => (fz x.2 x.1).bind fun y => (y.2[i]?).bind fun s => (isO s).bind fun ds => (dApp ds y.1).bind fun ds' => some (.nx (y.2.set i (upO s ds'))) else none
  | .ext i e, r => if okO r i = true then (ev cl e r).bind fun x => (fz x.2 x.1).bind fun y => (y.2[i]?).bind fun s => (isO s).bind fun ds => (dExt ds y.1).bind fun ds' => some (.nx (y.2.set i (upO s ds'))) else none
  | .put i k e, r => (ev cl e r).bind fun x => (fz x.2 x.1).bind fun y => if okO y.2 i = true then (ev cl k y.2).bind fun z => (dr z.2 z.1).bind fun j => (z.2[i]?).bind fun s => (isO s).bind fun ds => (dPut ds j y.1).bind fun ds' => some (.nx (z.2.set i (upO s ds'))) else none
  | .drop e, r => (ev cl e r).bind fun x => some (.nx x.2)
  | .ret e, r => (ev cl e r).bind fun x => retR x.2 x.1
  | .ifs c a b, r => (evT cl c r).bind fun t => if t.1 = true then exSs a t.2 else exSs b t.2
  | .for_ t it b, r => (evI cl it r).bind fun xs => forA (asg t) (exSs b) xs.1 xs.2
  | .wh c b, r => whA (evT cl c) (exSs b) r
  | .skip, r => some (.nx r)
noncomputable def exSs : Iss → AE → Option Out
  | .nil, r => some (.nx r)
  | .cons a b, r => (exS a r).bind fun o => match o with
    | .nx r' => exSs b r'
    | .rt x r' => some (.rt x r')
end
end
structure Fn where
  tw : Bool
  np : Nat
  n : Nat
  body : Iss
def start0 (fn : Fn) (ns : List Int) (t ds : List D) : AE := if fn.tw = true then .scr ns :: .twn t :: (ds.map As.val ++ List.replicate (fn.n - 2 - ds.length) .no) else ds.map As.val ++ List.replicate (fn.n - ds.length) .no
def town (fn : Fn) (t : List D) (r : AE) : Option (List D) := if fn.tw = true then (match r[1]? with
  | some (As.twn t') => some t'
  | _ => none) else some t
def endF (fn : Fn) (t : List D) : Out → Option (Rf × List D)
  | .nx r => (town fn t r).bind fun t' => some (.v .none, t')
  | .rt x r => (town fn t r).bind fun t' => some (x, t')
abbrev Tab := String → Option Fn
noncomputable def call (Φ : Tab) : Nat → Cl
  | 0, _, _, _, _ => none
  | k + 1, f, ns, t, ds => (Φ f).bind fun fn => if ds.length = fn.np ∧ (fn.tw = true ∨ t = []) then (exSs (call Φ k) fn.body (start0 fn ns t ds)).bind (endF fn t) else none
end Pd

set_option Elab.async false
set_option linter.all false
set_option maxRecDepth 100000
set_option maxHeartbeats 4000000
namespace Pd
open PySem PySem.Spec PyProof.Rows L2
def er (O : List Addr) : Sl → As
  | .no => .no
  | .val d => .val d
  | .own a ds => if a ∈ O then .twn ds else .own ds
  | .scr ns => .scr ns
structure Sv (K : PySem.W.Frag) (O : List Addr) (W : Wd) (σ : L2.St) (G H : Hp) (ρ : Env) (r : AE) : Prop where
  wo : W.O = O
  wh : ∀ a ∈ O, W.H a ≠ none
  at_ : At K W G H σ ρ
  er : ρ.map (er O) = r
structure Go (G H : Hp) (ρ : Env) (G' H' : Hp) (ρ' : Env) : Prop where
  ow : ∀ a ∈ owns ρ', a ∈ owns ρ
  gg : Same G G'
  hh : ∀ b o, b ∉ owns ρ → H b = some o → H' b = some o
  dm : ∀ b, H b ≠ none → H' b ≠ none
  fr : ∀ b, G' b ≠ none → G b = none → H b = none ∨ b ∈ owns ρ
section
variable {K : PySem.W.Frag} {O : List Addr} {W : Wd} {σ : L2.St} {G H G' H' G2 H2 G0 H0 : Hp} {ρ ρ' ρ2 ρ0 : Env} {r r' : AE} {v : V} {rf : Rf} {d : D} {i : Nat} {ds : List D}
theorem Go.refl (G H : Hp) (ρ : Env) : Go G H ρ G H ρ := ⟨fun _ h => h, Same.refl _, fun _ _ _ e => e, fun _ h => h, fun _ h z => absurd z h⟩
theorem Go.trans (x : Go G H ρ G' H' ρ') (y : Go G' H' ρ' G2 H2 ρ2) : Go G H ρ G2 H2 ρ2 := by
  refine ⟨fun a h => x.ow a (y.ow a h), x.gg.trans y.gg, fun b o n e => y.hh b o (fun z => n (x.ow b z)) (x.hh b o n e), fun b h => y.dm b (x.dm b h), fun b h z => ?_⟩
  by_cases q : G' b = none
  · rcases y.fr b h q with e | e
    · exact .inl (noneOf fun z' => x.dm b z' e)
    · exact .inr (x.ow b e)
  · exact x.fr b q z
theorem Go.gone (x : Go G H ρ G' H' ρ') {p : Addr} (h : H' p = none) : H p = none := noneOf fun z => x.dm p z h
theorem Go.ex (x : Ex G H G' H') (ρ : Env) : Go G H ρ G' H' ρ := by
  refine ⟨fun _ h => h, x.gg, fun b o _ e => x.hh b o e, fun b h z => ?_, fun b h z => .inl (x.fr b h z)⟩
  cases q : H b with
  | none => exact h q
  | some o => rw [x.hh b o q] at z; cases z
theorem Sv.ex (s : Sv K O W σ G H ρ r) (x : Ex G H G' H') (h : Same G' H') : Sv K O W σ G' H' ρ r := ⟨s.wo, s.wh, s.at_.ex x h, s.er⟩
theorem Sv.gro (s : Sv K O W σ G H ρ r) (g : Gro G H G' H') : Sv K O W σ G' H' ρ r ∧ Go G H ρ G' H' ρ := ⟨⟨s.wo, s.wh, (s.at_.gro g).1, s.er⟩, .ex (s.at_.gro g).2 ρ⟩
theorem Sv.raw {p : Addr} (o : HO) (s : Sv K O W σ G H ρ r) (hp : H p = none) : Sv K O W σ G (upd H p o) ρ r := ⟨s.wo, s.wh, s.at_.raw o hp, s.er⟩
theorem Sv.get (s : Sv K O W σ G H ρ r) {a : As} (h : r[i]? = some a) : ∃ x, ρ[i]? = some x ∧ Pd.er O x = a := by
  rw [← s.er, List.getElem?_map] at h
  cases e : ρ[i]? with
  | none => rw [e] at h; cases h
  | some x => rw [e] at h; exact ⟨x, rfl, Option.some.inj h⟩
theorem Sv.val (s : Sv K O W σ G H ρ r) (h : r[i]? = some (.val d)) : ρ[i]? = some (.val d) := by
  obtain ⟨x, e, q⟩ := s.get h
  cases x with
  | val d' => cases q; exact e
  | own a ds =>
    have q : (if a ∈ O then As.twn ds else .own ds) = .val d := q
    split at q <;> cases q
  | no => cases q
  | scr _ => cases q
theorem Sv.scr {ns : List Int} (s : Sv K O W σ G H ρ r) (h : r[i]? = some (.scr ns)) : ρ[i]? = some (.scr ns) := by
  obtain ⟨x, e, q⟩ := s.get h
  cases x with
  | scr d' => cases q; exact e
  | own a ds =>
    have q : (if a ∈ O then As.twn ds else .own ds) = .scr ns := q
    split at q <;> cases q
  | no => cases q
  | val _ => cases q
theorem Sv.own (s : Sv K O W σ G H ρ r) {a : As} (h : r[i]? = some a) (ho : isO a = some ds) : ∃ c, ρ[i]? = some (.own c ds) ∧ a = (if c ∈ O then .twn ds else .own ds) := by
  obtain ⟨x, e, q⟩ := s.get h
  cases x with
  | own c es =>
    have q : (if c ∈ O then As.twn es else .own es) = a := q
    have : es = ds := by
      rw [← q] at ho
      split at ho <;> exact Option.some.inj ho
    subst this
    exact ⟨c, e, q.symm⟩
  | no => cases q; cases ho
  | val d => cases q; cases ho
  | scr ns => cases q; cases ho
theorem er_len (s : Sv K O W σ G H ρ r) : r.length = ρ.length := by rw [← s.er, List.length_map]
theorem er_set (O : List Addr) (ρ : Env) (i : Nat) (x : Sl) : (ρ.set i x).map (er O) = (ρ.map (er O)).set i (er O x) := by
  rw [List.map_set]
theorem mem_owns {c : Addr} : ∀ {ρ : Env} {i : Nat}, ρ[i]? = some (.own c ds) → c ∈ owns ρ := by
  intro ρ
  induction ρ with
  | nil => intro i h; simp at h
  | cons y r ih =>
    intro i h
    cases i with
    | zero => simp at h; subst h; exact List.mem_cons_self
    | succ i =>
      have z := ih (i := i) (by simpa using h)
      cases y <;> first | exact z | exact List.mem_cons_of_mem _ z
def RfR (σ : L2.St) (H0 G H : Hp) (os : List Addr) (v : V) : Rf → Prop
  | .v d => Dq G v d
  | .s i => σ[i]? = some (some v)
  | .f ds => ∃ a vs, v = .ref a ∧ H a = some (.lst vs) ∧ G a = none ∧ H0 a = none ∧ a ∉ os ∧ DqA G vs ds
theorem RfR.pre {H00 : Hp} {os : List Addr} (h : RfR σ H0 G H os v rf) (k : ∀ a, H0 a = none → H00 a = none) : RfR σ H00 G H os v rf := by
  cases rf with
  | v d => exact h
  | s i => exact h
  | f ds => obtain ⟨a, vs, e, h1, h2, h3, h4, h5⟩ := h; exact ⟨a, vs, e, h1, h2, k a h3, h4, h5⟩
theorem RfR.go (h : RfR σ H0 G H (owns ρ) v rf) (x : Go G H ρ G' H' ρ') : RfR σ H0 G' H' (owns ρ') v rf := by
  cases rf with
  | v d => exact dqMono x.gg h
  | s i => exact h
  | f ds =>
    obtain ⟨a, vs, e, h1, h2, h3, h4, h5⟩ := h
    refine ⟨a, vs, e, x.hh _ _ h4 h1, noneOf fun z => ?_, h3, fun z => h4 (x.ow a z), dqAMono x.gg h5⟩
    rcases x.fr a z h2 with q | q
    · rw [h1] at q; cases q
    · exact h4 q
theorem Sv.dr (s : Sv K O W σ G H ρ r) (h : RfR σ H0 G H (owns ρ) v rf) (e : dr r rf = some d) : Hd K G H v d := by
  cases rf with
  | v d' => cases e; exact .inl h
  | f ds =>
    cases e
    obtain ⟨a, vs, e, h1, h2, h3, h4, h5⟩ := h
    exact .inr ⟨a, vs, ds, e, rfl, h1, h5⟩
  | s i =>
    simp only [Pd.dr] at e
    have own : ∀ {c ds}, ρ[i]? = some (.own c ds) → Hd K G H v (.list ds) := fun {c ds} q => by
      obtain ⟨h1, _, vs, h3, h4⟩ := s.at_.getO q
      have hh : σ[i]? = some (some v) := h
      rw [h1] at hh
      cases hh
      exact .inr ⟨c, vs, ds, rfl, rfl, h3, h4⟩
    split at e
    · rename_i ds q
      cases e
      obtain ⟨c, q2, _⟩ := s.own q (ds := ds) rfl
      exact own q2
    · rename_i ds q
      cases e
      obtain ⟨c, q2, _⟩ := s.own q (ds := ds) rfl
      exact own q2
    · rename_i d' q
      cases e
      obtain ⟨v', h1, h2⟩ := s.at_.get (s.val q)
      have hh : σ[i]? = some (some v) := h
      rw [h1] at hh
      cases hh
      exact .inl h2
    · cases e
theorem owns_sub_set {ρ : Env} {i : Nat} {x : Sl} (h : owns [x] = []) : ∀ a ∈ owns (ρ.set i x), a ∈ owns ρ := fun a z => (owns_set_sub z).elim id fun q => by rw [h] at q; cases q
theorem Sv.fz (s : Sv K O W σ G H ρ r) (s0 : ∀ b, W.H b ≠ none → H0 b ≠ none) (g : Go G0 H0 ρ0 G H ρ) (h : RfR σ H0 G H (owns ρ) v rf) {x : D × AE} (e : fz r rf = some x) : ∃ G' ρ', Sv K O W σ G' H ρ' x.2 ∧ Go G0 H0 ρ0 G' H ρ' ∧ Dq G' v x.1 ∧ Same G G' := by
  cases rf with
  | v d' => cases e; exact ⟨G, ρ, s, g, h, Same.refl _⟩
  | f ds =>
    cases e
    obtain ⟨a, vs, rfl, h1, h2, h3, h4, h5⟩ := h
    have w : W.H a = none := noneOf fun z => s0 a z h3
    refine ⟨upd G a (.lst vs), ρ, ⟨s.wo, s.wh, s.at_.freeze h1 h4 h2 w, s.er⟩, ⟨g.ow, g.gg.trans (same_upd1 h2), g.hh, g.dm, fun b hb z => ?_⟩, .lst upd_same (dqAMono (same_upd1 h2) h5), same_upd1 h2⟩
    by_cases q : b = a
    · rw [q]; exact .inl h3
    · rw [upd_ne q] at hb; exact g.fr b hb z
  | s i =>
    simp only [Pd.fz] at e
    split at e
    · rename_i ds q
      cases e
      obtain ⟨c, q2, q3⟩ := s.own q (ds := ds) rfl
      have hc : c ∉ O := fun z => by rw [if_pos z] at q3; cases q3
      have hw : W.H c = none := by
        rcases s.at_.ow c (mem_owns q2) with z | z
        · rw [s.wo] at z; exact absurd z hc
        · exact z
      obtain ⟨h1, hg, vs, h3, h4⟩ := s.at_.getO q2
      obtain ⟨us, a', s'⟩ := s.at_.still2 q2 hw
      have hh : σ[i]? = some (some v) := h
      rw [h1] at hh
      cases hh
      obtain ⟨v', e1, e2⟩ := a'.get (i := i) (d := .list ds) (List.getElem?_set_self (List.getElem?_eq_some_iff.mp q2).1)
      rw [h1] at e1
      cases e1
      refine ⟨_, ρ.set i (.val (.list ds)), ⟨s.wo, s.wh, a', by rw [er_set, s.er]; rfl⟩, ⟨fun a z => g.ow a (owns_sub_set rfl a z), g.gg.trans s', g.hh, g.dm, fun b hb z => ?_⟩, e2, s'⟩
      by_cases q5 : b = c
      · rw [q5]; exact .inr (g.ow c (mem_owns q2))
      · rw [upd_ne q5] at hb; exact g.fr b hb z
    · rename_i d' q
      cases e
      obtain ⟨v', h1, h2⟩ := s.at_.get (s.val q)
      have hh : σ[i]? = some (some v) := h
      rw [h1] at hh
      cases hh
      exact ⟨G, ρ, s, g, h2, Same.refl _⟩
    · cases e
end
end Pd

set_option Elab.async false
set_option linter.all false
set_option maxRecDepth 100000
set_option maxHeartbeats 4000000
namespace Pd
open PySem PySem.Spec PyProof.Rows L2
def TEV (K : PySem.W.Frag) (O : List Addr) (g : AE → Option (Rf × AE)) : TE := fun σ H Q => ∃ W G ρ r x, Sv K O W σ G H ρ r ∧ g r = some x ∧ ∀ v G' H' ρ', Sv K O W σ G' H' ρ' x.2 → Go G H ρ G' H' ρ' → RfR σ H G' H' (owns ρ') v x.1 → Q v H'
def TED (K : PySem.W.Frag) (O : List Addr) (g : AE → Option (D × AE)) : TE := fun σ H Q => ∃ W G ρ r x, Sv K O W σ G H ρ r ∧ g r = some x ∧ ∀ v G' H' ρ', Sv K O W σ G' H' ρ' x.2 → Go G H ρ G' H' ρ' → Dq G' v x.1 → Q v H'
def TTV (K : PySem.W.Frag) (O : List Addr) (g : AE → Option (Bool × AE)) : TT := fun σ H Q => ∃ W G ρ r x, Sv K O W σ G H ρ r ∧ g r = some x ∧ ∀ G' H' ρ', Sv K O W σ G' H' ρ' x.2 → Go G H ρ G' H' ρ' → Q x.1 H'
inductive RfRs (σ : L2.St) (H0 G H : Hp) (os : List Addr) : List V → List Rf → Prop
  | nil : RfRs σ H0 G H os [] []
  | cons {v : V} {vs : List V} {x : Rf} {xs : List Rf} : RfR σ H0 G H os v (settle x) → RfRs σ H0 G H os vs xs → RfRs σ H0 G H os (v :: vs) (settle x :: xs)
def TAV (K : PySem.W.Frag) (O : List Addr) (g : AE → Option (List Rf × AE)) : TA := fun σ H Q => ∃ W G ρ r x, Sv K O W σ G H ρ r ∧ g r = some x ∧ ∀ vs G' H' ρ', Sv K O W σ G' H' ρ' x.2 → Go G H ρ G' H' ρ' → RfRs σ H G' H' (owns ρ') vs x.1 → Q vs H'
def TOV (K : PySem.W.Frag) (O : List Addr) (g : AE → Option (Option Int × AE)) : TO := fun σ H Q => ∃ W G ρ r x, Sv K O W σ G H ρ r ∧ g r = some x ∧ ∀ G' H' ρ', Sv K O W σ G' H' ρ' x.2 → Go G H ρ G' H' ρ' → Q x.1 H'
def TIV (K : PySem.W.Frag) (O : List Addr) (g : AE → Option (List D × AE)) : TI := fun σ H R => ∃ W G ρ r x, Sv K O W σ G H ρ r ∧ g r = some x ∧ ∀ J G' H' ρ', Sv K O W σ G' H' ρ' x.2 → Go G H ρ G' H' ρ' → Iter K G' J x.1 → R J H'
abbrev EV (X : Cx) (O : List Addr) (e : Expr) (g : AE → Option (Rf × AE)) : Prop := PE X e (TEV X.K O g)
abbrev ED (X : Cx) (O : List Addr) (e : Expr) (g : AE → Option (D × AE)) : Prop := PE X e (TED X.K O g)
abbrev EVT (X : Cx) (O : List Addr) (e : Expr) (g : AE → Option (Bool × AE)) : Prop := PT X e (TTV X.K O g)
abbrev EVW (X : Cx) (O : List Addr) (e : Expr) (g : AE → Option (Bool × AE)) : Prop := PW X e (TTV X.K O g)
abbrev EVA (X : Cx) (O : List Addr) (es : List Expr) (g : AE → Option (List Rf × AE)) : Prop := PA X es (TAV X.K O g)
abbrev EVO (X : Cx) (O : List Addr) (e : Option Expr) (g : AE → Option (Option Int × AE)) : Prop := PO X e (TOV X.K O g)
abbrev EVI (X : Cx) (O : List Addr) (tg e : Expr) (g : AE → Option (List D × AE)) : Prop := PI X tg e (TIV X.K O g)
def okE : Expr → Bool
  | .Starred _ _ => false
  | .Slice _ _ _ _ => false
  | .Set _ _ _ => false
  | _ => true
theorem star_ok {e : Expr} {es : List Expr} {env : PySem.Env} (h : okE e = true) : starEach (e :: es) env = (false, eval e env) :: starEach es env := by cases e <;> first | rfl | cases h
theorem ix_ok {e : Expr} (h : okE e = true) : PlainIx e := by cases e <;> first | (intro _ _; rfl) | cases h
theorem mark_ok {op : CmpOp} {e : Expr} (h : okE e = true) : behindInMarks op e = false := by cases e <;> first | rfl | cases h
theorem fold_ok {e : Expr} {env : PySem.Env} (h : okE e = true) : ∀ x, foldedSetIterable e env x = pure x := by intro x; cases e <;> first | rfl | cases h
theorem nstar {es : List Expr} {env : PySem.Env} {pos : Pos} (h : es.all okE = true) : (backTo pos (starEach es env)).any (·.1) = false := by
  induction es with
  | nil => rfl
  | cons e r ih =>
    rw [List.all_cons, Bool.and_eq_true] at h
    rw [star_ok h.1]
    show (false || (backTo pos (starEach r env)).any (·.1)) = false
    rw [ih h.2]; rfl
def RetP (G H : Hp) (Q : VK) : Rf → Prop
  | .v d => ∀ z G' H', Gro G H G' H' → Dq G' z d → Q z H'
  | .f ds => ∀ p vs, H p = none → DqA G vs ds → Q (.ref p) (upd H p (.lst vs))
  | .s _ => False
def rR (K : PySem.W.Frag) (f : D → D → Option Rf) : R2 := fun x y H Q => ∃ G d e r, Same G H ∧ Hd K G H x d ∧ Hd K G H y e ∧ f d e = some r ∧ RetP G H Q r
def rC (K : PySem.W.Frag) (f : D → Option Rf) : List V → Hp → VK → Prop := fun vs H Q => ∃ G x d r, vs = [x] ∧ Same G H ∧ Hd K G H x d ∧ f d = some r ∧ RetP G H Q r
section
variable {X : Cx} {O : List Addr}
theorem fin {K : PySem.W.Frag} {W : Wd} {σ : L2.St} {G0 H0 G H : Hp} {ρ0 ρ : Env} {r : AE} {rf : Rf} {Q : VK} (s : Sv K O W σ G H ρ r) (g : Go G0 H0 ρ0 G H ρ) (hs : ∀ i, rf ≠ .s i)
    (k : ∀ v G' H' ρ', Sv K O W σ G' H' ρ' r → Go G0 H0 ρ0 G' H' ρ' → RfR σ H0 G' H' (owns ρ') v rf → Q v H') : RetP G H Q rf := by
  cases rf with
  | v d => exact fun z G' H' gr q => k z G' H' ρ (s.gro gr).1 (g.trans (s.gro gr).2) q
  | f ds => exact fun p vs hp q => k (.ref p) G _ ρ (s.raw _ hp) (g.trans (.ex (.raw hp) ρ)) ⟨p, vs, rfl, upd_same, s.at_.gNone hp, g.gone hp, s.at_.rawNot hp, q⟩
  | s i => exact absurd rfl (hs i)
theorem EV.h {e : Expr} {g : AE → Option (Rf × AE)} (h : EV X O e g) : EV X O e (fun r => (g r).bind fun x => some (settle x.1, x.2)) :=
  peImp h fun σ H Q ⟨W, G, ρ, r, x, s, em, k⟩ => by
    obtain ⟨y, ey, em⟩ := bindS em
    cases em
    refine ⟨W, G, ρ, r, y, s, ey, fun v G' H' ρ' s' g' q => ?_⟩
    obtain ⟨rf, r'⟩ := y
    cases rf with
    | v d => exact k v G' H' ρ' s' g' q
    | s i => exact k v G' H' ρ' s' g' q
    | f ds =>
      obtain ⟨G2, ρ2, s2, g2, q2, _⟩ := s'.fz s.at_.dm g' q (x := (.list ds, r')) rfl
      exact k v G2 H' ρ2 s2 g2 q2
theorem EV.d {e : Expr} {g : AE → Option (Rf × AE)} (h : EV X O e g) : ED X O e (fun r => (g r).bind fun x => fz x.2 x.1) :=
  peImp h fun σ H Q ⟨W, G, ρ, r, x, s, em, k⟩ => by
    obtain ⟨y, ey, em⟩ := bindS em
    refine ⟨W, G, ρ, r, y, s, ey, fun v G' H' ρ' s' g' q => ?_⟩
    obtain ⟨G2, ρ2, s2, g2, q2, _⟩ := s'.fz s.at_.dm g' q em
    exact k v G2 H' ρ2 s2 g2 q2
theorem stl {α : Type} {m : Option (Rf × α)} {x : Rf × α} (h : m = some x) : (m.bind fun x => some (settle x.1, x.2)) = some (settle x.1, x.2) := by rw [h]; rfl
def bopO : Bop → Operator
  | .add => .Add
  | .sub => .Sub
  | .mul => .Mult
  | .div => .FloorDiv
  | .mod => .Mod
  | .pow => .Pow
  | .shl => .LShift
theorem od_shl : OpR X (binaryOp .LShift) (rD X.K dShl) := by
  intro pins s σ H x y v u Q I rx ry ⟨G, d, e, r, gs, hx, hy, ef, k⟩
  cases d with
  | int i =>
    cases e with
    | int j =>
      have ef : (if 0 ≤ j ∧ j ≤ 1000 ∧ i.natAbs < 2 ^ 64 then some (PyData.int (i * 2 ^ j.toNat)) else none) = some r := ef
      split at ef
      · rename_i c
        cases ef
        cases hdInt hx
        cases hdInt hy
        exact op_shl pins s σ H _ _ v u Q I rx ry ⟨i, j, rfl, rfl, ⟨c.1, by omega, c.2.2⟩, k _ G H (.inl ⟨rfl, rfl⟩) (.int _)⟩
      · cases ef
    | _ => cases ef
  | _ => cases e <;> cases ef
theorem ob (b : Bop) : OpR X (binaryOp (bopO b)) (rR X.K (bop b)) := by
  intro pins s σ H x y v u Q I rx ry ⟨G, d, e, r, gs, hx, hy, ef, k⟩
  have viaL : ∀ {o : Operator} {f : D → D → Option (List D)} (h : OpR X (binaryOp o) (rDL X.K f)) (ef : (f d e).map Rf.f = some r), wpAny (model X.prog X.w) X.A (binaryOp o v u) (L2.EP X pins σ Q) X.xe s := fun {o f} h ef => by
    cases q : f d e with
    | none => rw [q] at ef; cases ef
    | some z => rw [q] at ef; cases ef; exact h pins s σ H x y v u Q I rx ry ⟨G, d, e, z, gs, hx, hy, q, k⟩
  have viaV : ∀ {o : Operator} {f : D → D → Option D} (h : OpR X (binaryOp o) (rD X.K f)) (ef : (f d e).map Rf.v = some r), wpAny (model X.prog X.w) X.A (binaryOp o v u) (L2.EP X pins σ Q) X.xe s := fun {o f} h ef => by
    cases q : f d e with
    | none => rw [q] at ef; cases ef
    | some z => rw [q] at ef; cases ef; exact h pins s σ H x y v u Q I rx ry ⟨G, d, e, z, gs, hx, hy, q, k⟩
  cases b with
  | add =>
    cases d with
    | list xs =>
      cases e with
      | list ys => exact viaL ol_cat ef
      | _ => exact viaV od_add ef
    | _ => cases e <;> exact viaV od_add ef
  | sub => exact viaV od_sub ef
  | mul =>
    cases d with
    | list xs =>
      cases e with
      | int ys => exact viaL ol_rep ef
      | _ => exact viaV od_mul ef
    | _ => cases e <;> exact viaV od_mul ef
  | div => exact viaV od_div ef
  | mod => exact viaV od_mod ef
  | pow => exact viaV od_pow ef
  | shl => exact viaV od_shl ef
theorem map_ns {α : Type} {m : Option α} {f : α → Rf} {z : Rf} (hf : ∀ a i, f a ≠ .s i) (h : m.map f = some z) : ∀ i, z ≠ .s i := by
  cases m with
  | none => cases h
  | some a => cases h; exact hf a
theorem bop_ns {b : Bop} {d e : D} {z : Rf} (h : bop b d e = some z) : ∀ i, z ≠ .s i := by
  unfold bop at h
  split at h <;> exact map_ns (fun _ _ z => by cases z) h
variable {e1 e2 e3 : Expr} {g1 g2 g3 : AE → Option (Rf × AE)} {pos : Pos}
theorem v_bin (b : Bop) (h1 : EV X O e1 g1) (h2 : EV X O e2 g2) : EV X O (.BinOp e1 (bopO b) e2 pos) (fun r => (g1 r).bind fun x => (g2 x.2).bind fun y => (dr y.2 (settle x.1)).bind fun d => (dr y.2 y.1).bind fun e => (bop b d e).bind fun z => some (z, y.2)) :=
  peImp (pe_op (ob b) h1.h h2) fun σ H Q ⟨W, G, ρ, r, x, s, em, k⟩ => by
    obtain ⟨x1, ex, em⟩ := bindS em
    obtain ⟨y1, ey, em⟩ := bindS em
    obtain ⟨d, ed, em⟩ := bindS em
    obtain ⟨e, ee, em⟩ := bindS em
    obtain ⟨z, ez, em⟩ := bindS em
    cases em
    refine ⟨W, G, ρ, r, (settle x1.1, x1.2), s, stl ex, fun v G1 H1 ρ1 s1 t1 q1 => ⟨W, G1, ρ1, _, y1, s1, ey, fun u G2 H2 ρ2 s2 t2 q2 => ⟨G2, d, e, z, s2.at_.gh, s2.dr (q1.go t2) ed, s2.dr q2 ee, ez, fin s2 (t1.trans t2) (bop_ns ez) k⟩⟩⟩
theorem v_neg (h1 : EV X O e1 g1) : EV X O (.UnaryOp .USub e1 pos) (fun r => (g1 r).bind fun x => (dr x.2 x.1).bind fun d => (dNeg d).bind fun z => some (.v z, x.2)) :=
  peImp (pe_un un_neg h1) fun σ H Q ⟨W, G, ρ, r, x, s, em, k⟩ => by
    obtain ⟨x1, ex, em⟩ := bindS em
    obtain ⟨d, ed, em⟩ := bindS em
    obtain ⟨z, ez, em⟩ := bindS em
    cases em
    cases d with
    | int i =>
      cases ez
      exact ⟨W, G, ρ, r, x1, s, ex, fun v G1 H1 ρ1 s1 t1 q1 => ⟨i, hdInt (s1.dr q1 ed), k _ G1 H1 ρ1 s1 t1 (.int _)⟩⟩
    | _ => cases ez
def copO : Cop → CmpOp
  | .lt => .Lt
  | .le => .LtE
  | .gt => .Gt
  | .ge => .GtE
  | .eq => .Eq
  | .ne => .NotEq
  | .is => .Is
  | .isnot => .IsNot
  | .in_ => .In
  | .notin => .NotIn
theorem oc (hu : X.A.units + 65 < cLine) (c : Cop) : OpR X (compareOp (copO c)) (rB X.K (cop c)) := by
  cases c with
  | lt => exact oc_lt
  | le => exact oc_le
  | gt => exact oc_gt
  | ge => exact oc_ge
  | eq => exact oc_eq (by omega)
  | ne => exact oc_ne (by omega)
  | is => exact oc_is
  | isnot => exact oc_isnot
  | in_ => exact oc_in hu
  | notin => exact oc_nin hu
abbrev gCmp (c : Cop) (g1 g2 : AE → Option (Rf × AE)) : AE → Option (Rf × AE) := fun r => (g1 r).bind fun x => (g2 x.2).bind fun y => (dr y.2 (settle x.1)).bind fun d => (dr y.2 y.1).bind fun e => (cop c d e).bind fun z => some (.v (.bool z), y.2)
theorem v_cmp (hu : X.A.units + 65 < cLine) (c : Cop) (hm : okE e2 = true) (h1 : EV X O e1 g1) (h2 : EV X O e2 g2) : EV X O (.Compare e1 [copO c] [e2] pos) (gCmp c g1 g2) :=
  peImp (pe_cmpR (oc hu c) h1.h h2 (mark_ok hm)) fun σ H Q ⟨W, G, ρ, r, x, s, em, k⟩ => by
    obtain ⟨x1, ex, em⟩ := bindS em
    obtain ⟨y1, ey, em⟩ := bindS em
    obtain ⟨d, ed, em⟩ := bindS em
    obtain ⟨e, ee, em⟩ := bindS em
    obtain ⟨z, ez, em⟩ := bindS em
    cases em
    exact ⟨W, G, ρ, r, (settle x1.1, x1.2), s, stl ex, fun v G1 H1 ρ1 s1 t1 q1 => ⟨W, G1, ρ1, _, y1, s1, ey, fun u G2 H2 ρ2 s2 t2 q2 => ⟨G2, d, e, z, s2.at_.gh, s2.dr (q1.go t2) ed, s2.dr q2 ee, ez, k _ G2 H2 ρ2 s2 (t1.trans t2) (.bl z)⟩⟩⟩
abbrev gT (g : AE → Option (Rf × AE)) : AE → Option (Bool × AE) := fun r => (g r).bind fun x => (dr x.2 x.1).bind fun d => (dTruth d).bind fun t => some (t, x.2)
theorem t_cmp (hu : X.A.units + 65 < cLine) (c : Cop) (hm : okE e2 = true) (h1 : EV X O e1 g1) (h2 : EV X O e2 g2) : EVT X O (.Compare e1 [copO c] [e2] pos) (gT (gCmp c g1 g2)) :=
  ptImp (pt_cmpR (oc hu c) h1.h h2 (mark_ok hm)) fun σ H Q ⟨W, G, ρ, r, x, s, em, k⟩ => by
    obtain ⟨w, ew, em⟩ := bindS em
    obtain ⟨x1, ex, ew⟩ := bindS ew
    obtain ⟨y1, ey, ew⟩ := bindS ew
    obtain ⟨d, ed, ew⟩ := bindS ew
    obtain ⟨e, ee, ew⟩ := bindS ew
    obtain ⟨z, ez, ew⟩ := bindS ew
    cases ew
    cases em
    exact ⟨W, G, ρ, r, (settle x1.1, x1.2), s, stl ex, fun v G1 H1 ρ1 s1 t1 q1 => ⟨W, G1, ρ1, _, y1, s1, ey, fun u G2 H2 ρ2 s2 t2 q2 => ⟨G2, d, e, z, s2.at_.gh, s2.dr (q1.go t2) ed, s2.dr q2 ee, ez, _, rfl, k G2 H2 ρ2 s2 (t1.trans t2)⟩⟩⟩
abbrev gCh (c c' : Cop) (g1 g2 g3 : AE → Option (Rf × AE)) : AE → Option (Rf × AE) := fun r => (g1 r).bind fun x => (g2 x.2).bind fun y => (dr y.2 (settle x.1)).bind fun d => (dr y.2 y.1).bind fun e => (cop c d e).bind fun z =>
    if z = true then (g3 y.2).bind fun w => (dr w.2 (settle y.1)).bind fun e' => (dr w.2 w.1).bind fun u => (cop c' e' u).bind fun z2 => some (.v (.bool z2), w.2) else some (.v (.bool false), y.2)
theorem dr_settle {r : AE} {x : Rf} : dr r (settle x) = dr r x := by cases x <;> rfl
theorem v_ch (hu : X.A.units + 65 < cLine) (c c' : Cop) (hm : okE e3 = true) (h1 : EV X O e1 g1) (h2 : EV X O e2 g2) (h3 : EV X O e3 g3) : EV X O (.Compare e1 [copO c, copO c'] [e2, e3] pos) (gCh c c' g1 g2 g3) :=
  peImp (pe_chain (oc hu c) (oc hu c') h1.h h2.h h3 (mark_ok hm)) fun σ H Q ⟨W, G, ρ, r, x, s, em, k⟩ => by
    obtain ⟨x1, ex, em⟩ := bindS em
    obtain ⟨y1, ey, em⟩ := bindS em
    obtain ⟨d, ed, em⟩ := bindS em
    obtain ⟨e, ee, em⟩ := bindS em
    obtain ⟨z, ez, em⟩ := bindS em
    refine ⟨W, G, ρ, r, (settle x1.1, x1.2), s, stl ex, fun v G1 H1 ρ1 s1 t1 q1 => ⟨W, G1, ρ1, _, (settle y1.1, y1.2), s1, stl ey, fun u G2 H2 ρ2 s2 t2 q2 => ⟨G2, d, e, z, s2.at_.gh, s2.dr (q1.go t2) ed, s2.dr q2 (by rw [dr_settle]; exact ee), ez, z, rfl, ?_⟩⟩⟩
    cases z with
    | false =>
      rw [if_neg Bool.false_ne_true] at em ⊢
      cases em
      exact k _ G2 H2 ρ2 s2 (t1.trans t2) (.bl _)
    | true =>
      rw [if_pos rfl] at em ⊢
      obtain ⟨w, ew, em⟩ := bindS em
      obtain ⟨e', ee', em⟩ := bindS em
      obtain ⟨u', eu', em⟩ := bindS em
      obtain ⟨z2, ez2, em⟩ := bindS em
      cases em
      exact ⟨W, G2, ρ2, _, w, s2, ew, fun v3 G3 H3 ρ3 s3 t3 q3 => ⟨G3, e', u', z2, s3.at_.gh, s3.dr (q2.go t3) ee', s3.dr q3 eu', ez2, k _ G3 H3 ρ3 s3 (t1.trans (t2.trans t3)) (.bl z2)⟩⟩
theorem t_ch (hu : X.A.units + 65 < cLine) (c c' : Cop) (hm : okE e3 = true) (h1 : EV X O e1 g1) (h2 : EV X O e2 g2) (h3 : EV X O e3 g3) : EVT X O (.Compare e1 [copO c, copO c'] [e2, e3] pos) (gT (gCh c c' g1 g2 g3)) :=
  ptImp (pt_chain (oc hu c) (oc hu c') h1.h h2.h h3 (mark_ok hm)) fun σ H Q ⟨W, G, ρ, r, x, s, em, k⟩ => by
    obtain ⟨w0, ew0, em0⟩ := bindS em
    obtain ⟨x1, ex, em⟩ := bindS ew0
    obtain ⟨y1, ey, em⟩ := bindS em
    obtain ⟨d, ed, em⟩ := bindS em
    obtain ⟨e, ee, em⟩ := bindS em
    obtain ⟨z, ez, em⟩ := bindS em
    refine ⟨W, G, ρ, r, (settle x1.1, x1.2), s, stl ex, fun v G1 H1 ρ1 s1 t1 q1 => ⟨W, G1, ρ1, _, (settle y1.1, y1.2), s1, stl ey, fun u G2 H2 ρ2 s2 t2 q2 => ⟨G2, d, e, z, s2.at_.gh, s2.dr (q1.go t2) ed, s2.dr q2 (by rw [dr_settle]; exact ee), ez, z, rfl, ?_⟩⟩⟩
    cases z with
    | false =>
      rw [if_neg Bool.false_ne_true] at em ⊢
      cases em
      cases em0
      exact ⟨_, rfl, k G2 H2 ρ2 s2 (t1.trans t2)⟩
    | true =>
      rw [if_pos rfl] at em ⊢
      obtain ⟨w, ew, em⟩ := bindS em
      obtain ⟨e', ee', em⟩ := bindS em
      obtain ⟨u', eu', em⟩ := bindS em
      obtain ⟨z2, ez2, em⟩ := bindS em
      cases em
      cases em0
      exact ⟨W, G2, ρ2, _, w, s2, ew, fun v3 G3 H3 ρ3 s3 t3 q3 => ⟨G3, e', u', z2, s3.at_.gh, s3.dr (q2.go t3) ee', s3.dr q3 eu', ez2, _, rfl, k G3 H3 ρ3 s3 (t1.trans (t2.trans t3))⟩⟩
theorem t_truth (he : ∀ whole, isTrue e1 X.env whole = (do let v ← whole; standAt e1.pos; holding [v] (truthy v))) (h1 : EV X O e1 g1) : EVT X O e1 (gT g1) :=
  ptImp (pt_truth h1 he) fun σ H Q ⟨W, G, ρ, r, x, s, em, k⟩ => by
    obtain ⟨x1, ex, em⟩ := bindS em
    obtain ⟨d, ed, em⟩ := bindS em
    obtain ⟨z, ez, em⟩ := bindS em
    cases em
    exact ⟨W, G, ρ, r, x1, s, ex, fun v G1 H1 ρ1 s1 t1 q1 => ⟨_, hdTruth s1.at_.gh (s1.dr q1 ed) ez, k G1 H1 ρ1 s1 t1⟩⟩
theorem v_notT (h1 : EV X O e1 g1) : EV X O (.UnaryOp .Not e1 pos) (fun r => (g1 r).bind fun x => (dr x.2 x.1).bind fun d => (dTruth d).bind fun t => some (.v (.bool !t), x.2)) :=
  peImp (pe_notT h1) fun σ H Q ⟨W, G, ρ, r, x, s, em, k⟩ => by
    obtain ⟨x1, ex, em⟩ := bindS em
    obtain ⟨d, ed, em⟩ := bindS em
    obtain ⟨z, ez, em⟩ := bindS em
    cases em
    exact ⟨W, G, ρ, r, x1, s, ex, fun v G1 H1 ρ1 s1 t1 q1 => ⟨_, hdTruth s1.at_.gh (s1.dr q1 ed) ez, k _ G1 H1 ρ1 s1 t1 (.bl _)⟩⟩
variable {rest : List Expr}
theorem RfR.settle {K : PySem.W.Frag} {W : Wd} {σ : L2.St} {G0 H0 G H : Hp} {ρ0 ρ : Env} {r : AE} {rf : Rf} {v : V} (s : Sv K O W σ G H ρ r) (s0 : ∀ b, W.H b ≠ none → H0 b ≠ none) (g : Go G0 H0 ρ0 G H ρ) (q : RfR σ H0 G H (owns ρ) v rf) : ∃ G', Sv K O W σ G' H ρ r ∧ Go G0 H0 ρ0 G' H ρ ∧ RfR σ H0 G' H (owns ρ) v (Pd.settle rf) := by
  cases rf with
  | v d => exact ⟨G, s, g, q⟩
  | s i => exact ⟨G, s, g, q⟩
  | f ds =>
    obtain ⟨a, vs, rfl, h1, h2, h3, h4, h5⟩ := q
    have w : W.H a = none := noneOf fun z => s0 a z h3
    refine ⟨upd G a (.lst vs), ⟨s.wo, s.wh, s.at_.freeze h1 h4 h2 w, s.er⟩, ⟨g.ow, g.gg.trans (same_upd1 h2), g.hh, g.dm, fun b hb z => ?_⟩, .lst upd_same (dqAMono (same_upd1 h2) h5)⟩
    by_cases q : b = a
    · rw [q]; exact .inl h3
    · rw [upd_ne q] at hb; exact g.fr b hb z
theorem v_or (h1 : EV X O e1 g1) (h2 : EV X O (.BoolOp .Or (e2 :: rest) pos) g2) : EV X O (.BoolOp .Or (e1 :: e2 :: rest) pos) (fun r => (g1 r).bind fun x => (dr x.2 x.1).bind fun d => (dTruth d).bind fun t => if t = true then some (settle x.1, x.2) else g2 x.2) :=
  peImp (pe_orT h1.h h2) fun σ H Q ⟨W, G, ρ, r, x, s, em, k⟩ => by
    obtain ⟨x1, ex, em⟩ := bindS em
    obtain ⟨d, ed, em⟩ := bindS em
    obtain ⟨z, ez, em⟩ := bindS em
    refine ⟨W, G, ρ, r, (settle x1.1, x1.2), s, stl ex, fun v G1 H1 ρ1 s1 t1 q1 => ⟨z, hdTruth s1.at_.gh (s1.dr q1 (by rw [dr_settle]; exact ed)) ez, ?_⟩⟩
    cases z with
    | false =>
      rw [if_neg Bool.false_ne_true] at em ⊢
      exact ⟨W, G1, ρ1, _, x, s1, em, fun u G2 H2 ρ2 s2 t2 q2 => k u G2 H2 ρ2 s2 (t1.trans t2) (q2.pre fun _ => t1.gone)⟩
    | true =>
      rw [if_pos rfl] at em ⊢
      cases em
      exact k v G1 H1 ρ1 s1 t1 q1
theorem v_and (h1 : EV X O e1 g1) (h2 : EV X O (.BoolOp .And (e2 :: rest) pos) g2) : EV X O (.BoolOp .And (e1 :: e2 :: rest) pos) (fun r => (g1 r).bind fun x => (dr x.2 x.1).bind fun d => (dTruth d).bind fun t => if t = true then g2 x.2 else some (settle x.1, x.2)) :=
  peImp (pe_andT h1.h h2) fun σ H Q ⟨W, G, ρ, r, x, s, em, k⟩ => by
    obtain ⟨x1, ex, em⟩ := bindS em
    obtain ⟨d, ed, em⟩ := bindS em
    obtain ⟨z, ez, em⟩ := bindS em
    refine ⟨W, G, ρ, r, (settle x1.1, x1.2), s, stl ex, fun v G1 H1 ρ1 s1 t1 q1 => ⟨z, hdTruth s1.at_.gh (s1.dr q1 (by rw [dr_settle]; exact ed)) ez, ?_⟩⟩
    cases z with
    | true =>
      rw [if_pos rfl] at em ⊢
      exact ⟨W, G1, ρ1, _, x, s1, em, fun u G2 H2 ρ2 s2 t2 q2 => k u G2 H2 ρ2 s2 (t1.trans t2) (q2.pre fun _ => t1.gone)⟩
    | false =>
      rw [if_neg Bool.false_ne_true] at em ⊢
      cases em
      exact k v G1 H1 ρ1 s1 t1 q1
variable {b1 b2 : AE → Option (Bool × AE)}
abbrev gOr (b1 b2 : AE → Option (Bool × AE)) : AE → Option (Bool × AE) := fun r => (b1 r).bind fun t => if t.1 = true then some (true, t.2) else b2 t.2
abbrev gAnd (b1 b2 : AE → Option (Bool × AE)) : AE → Option (Bool × AE) := fun r => (b1 r).bind fun t => if t.1 = true then b2 t.2 else some (false, t.2)
theorem w_or (h1 : EVT X O e1 b1) (h2 : EVW X O (.BoolOp .Or (e2 :: rest) pos) b2) : EVW X O (.BoolOp .Or (e1 :: e2 :: rest) pos) (gOr b1 b2) :=
  pwImp (pw_or h1 h2) fun σ H Q ⟨W, G, ρ, r, x, s, em, k⟩ => by
    obtain ⟨⟨z, r1⟩, ez, em⟩ := bindS em
    refine ⟨W, G, ρ, r, _, s, ez, fun G1 H1 ρ1 s1 t1 => ?_⟩
    cases z with
    | true => cases em; exact iteT (k G1 H1 ρ1 s1 t1)
    | false => exact iteF ⟨W, G1, ρ1, _, x, s1, em, fun G2 H2 ρ2 s2 t2 => k G2 H2 ρ2 s2 (t1.trans t2)⟩
theorem w_and (h1 : EVT X O e1 b1) (h2 : EVW X O (.BoolOp .And (e2 :: rest) pos) b2) : EVW X O (.BoolOp .And (e1 :: e2 :: rest) pos) (gAnd b1 b2) :=
  pwImp (pw_and h1 h2) fun σ H Q ⟨W, G, ρ, r, x, s, em, k⟩ => by
    obtain ⟨⟨z, r1⟩, ez, em⟩ := bindS em
    refine ⟨W, G, ρ, r, _, s, ez, fun G1 H1 ρ1 s1 t1 => ?_⟩
    cases z with
    | false => cases em; exact iteF (k G1 H1 ρ1 s1 t1)
    | true => exact iteT ⟨W, G1, ρ1, _, x, s1, em, fun G2 H2 ρ2 s2 t2 => k G2 H2 ρ2 s2 (t1.trans t2)⟩
theorem t_not (h1 : EVT X O e1 b1) : EVT X O (.UnaryOp .Not e1 pos) (fun r => (b1 r).bind fun t => some (!t.1, t.2)) :=
  ptImp (pt_not h1) fun σ H Q ⟨W, G, ρ, r, x, s, em, k⟩ => by
    obtain ⟨z, ez, em⟩ := bindS em
    cases em
    exact ⟨W, G, ρ, r, z, s, ez, fun G1 H1 ρ1 s1 t1 => k G1 H1 ρ1 s1 t1⟩
theorem v_if (hc : EVT X O e1 b1) (h1 : EV X O e2 g1) (h2 : EV X O e3 g2) : EV X O (.IfExp e1 e2 e3 pos) (fun r => (b1 r).bind fun t => if t.1 = true then g1 t.2 else g2 t.2) :=
  peImp (pe_ifExp hc h1 h2) fun σ H Q ⟨W, G, ρ, r, x, s, em, k⟩ => by
    obtain ⟨⟨z, r1⟩, ez, em⟩ := bindS em
    refine ⟨W, G, ρ, r, _, s, ez, fun G1 H1 ρ1 s1 t1 => ?_⟩
    cases z with
    | true => exact iteT ⟨W, G1, ρ1, _, x, s1, em, fun v G2 H2 ρ2 s2 t2 q2 => k v G2 H2 ρ2 s2 (t1.trans t2) (q2.pre fun _ => t1.gone)⟩
    | false => exact iteF ⟨W, G1, ρ1, _, x, s1, em, fun v G2 H2 ρ2 s2 t2 q2 => k v G2 H2 ρ2 s2 (t1.trans t2) (q2.pre fun _ => t1.gone)⟩
end
end Pd

set_option Elab.async false
set_option linter.all false
set_option maxRecDepth 100000
set_option maxHeartbeats 4000000
namespace Pd
open PySem PySem.Spec PyProof.Rows L2
section
variable {X : Cx} {O : List Addr} {e1 e2 e3 : Expr} {g1 g2 g3 : AE → Option (Rf × AE)} {pos pos2 p p2 : Pos} {x : Str}
theorem v_bl {i : Bool} {j} : EV X O (.Constant (.bool i) j pos) (fun r => some (.v (.bool i), r)) := peImp pe_bl fun σ H Q ⟨W, G, ρ, r, x, s, em, k⟩ => by cases em; exact k _ G H ρ s (Go.refl _ _ _) (.bl i)
theorem v_non {j} : EV X O (.Constant .none j pos) (fun r => some (.v .none, r)) := peImp pe_non fun σ H Q ⟨W, G, ρ, r, x, s, em, k⟩ => by cases em; exact k _ G H ρ s (Go.refl _ _ _) .non
theorem v_str {i : Str} {j} : EV X O (.Constant (.str i) j pos) (fun r => some (.v (.str i), r)) := peImp pe_str fun σ H Q ⟨W, G, ρ, r, x, s, em, k⟩ => by cases em; exact k _ G H ρ s (Go.refl _ _ _) (.str i)
theorem v_int {i : Int} {j} : EV X O (.Constant (.int i) j pos) (fun r => some (.v (.int i), r)) := peImp pe_int fun σ H Q ⟨W, G, ρ, r, x, s, em, k⟩ => by cases em; exact k _ G H ρ s (Go.refl _ _ _) (.int i)
abbrev gNm (i : Nat) : AE → Option (Rf × AE) := fun r => match r[i]? with
    | some (.val d) => some (.v d, r)
    | some (.own _) => some (.s i, r)
    | some (.twn _) => some (.s i, r)
    | _ => none
theorem v_nm (i : Nat) (hN : X.N[i]? = some x) (hv : Vis X.env.scope x) (hd : (x == ("__debug__" : Str)) = false) (hcd : (x == ("__classdict__" : Str)) = false) : EV X O (.Name x pos) (gNm i) :=
  peImp (pe_var hN hv hd hcd) fun σ H Q ⟨W, G, ρ, r, x, s, em, k⟩ => by
    have em : (match r[i]? with
      | some (.val d) => some (Rf.v d, r)
      | some (.own _) => some (.s i, r)
      | some (.twn _) => some (.s i, r)
      | _ => none) = some x := em
    split at em
    · rename_i d q
      cases em
      obtain ⟨v, h1, h2⟩ := s.at_.get (s.val q)
      exact ⟨v, h1, k v G H ρ s (Go.refl _ _ _) h2⟩
    · rename_i d q
      cases em
      obtain ⟨c, q2, _⟩ := s.own q (ds := d) rfl
      obtain ⟨h1, _⟩ := s.at_.getO q2
      exact ⟨_, h1, k _ G H ρ s (Go.refl _ _ _) h1⟩
    · rename_i d q
      cases em
      obtain ⟨c, q2, _⟩ := s.own q (ds := d) rfl
      obtain ⟨h1, _⟩ := s.at_.getO q2
      exact ⟨_, h1, k _ G H ρ s (Go.refl _ _ _) h1⟩
    · cases em
variable {es : List Expr} {ga : AE → Option (List Rf × AE)}
theorem a_nil : EVA X O [] (fun r => some ([], r)) := paImp pa_nil fun σ H Q ⟨W, G, ρ, r, x, s, em, k⟩ => by cases em; exact k _ G H ρ s (Go.refl _ _ _) .nil
theorem RfRs.go {σ : L2.St} {H0 G H G' H' : Hp} {ρ ρ' : Env} {vs : List V} {xs : List Rf} (x : Go G H ρ G' H' ρ') : RfRs σ H0 G H (owns ρ) vs xs → RfRs σ H0 G' H' (owns ρ') vs xs
  | .nil => .nil
  | .cons h t => .cons (h.go x) (RfRs.go x t)
theorem RfRs.pre {σ : L2.St} {H0 H00 G H : Hp} {os : List Addr} {vs : List V} {xs : List Rf} (k : ∀ a, H0 a = none → H00 a = none) : RfRs σ H0 G H os vs xs → RfRs σ H00 G H os vs xs
  | .nil => .nil
  | .cons h t => .cons (h.pre k) (RfRs.pre k t)
theorem a_cons (hs : okE e1 = true) (h1 : EV X O e1 g1) (h2 : EVA X O es ga) : EVA X O (e1 :: es) (fun r => (g1 r).bind fun x => (ga x.2).bind fun y => some (settle x.1 :: y.1, y.2)) :=
  paImp (pa_cons h1.h h2 (star_ok hs)) fun σ H Q ⟨W, G, ρ, r, x, s, em, k⟩ => by
    obtain ⟨x1, ex, em⟩ := bindS em
    obtain ⟨y1, ey, em⟩ := bindS em
    cases em
    exact ⟨W, G, ρ, r, _, s, stl ex, fun v G1 H1 ρ1 s1 t1 q1 => ⟨W, G1, ρ1, _, y1, s1, ey, fun vs G2 H2 ρ2 s2 t2 q2 => k _ G2 H2 ρ2 s2 (t1.trans t2) (.cons (q1.go t2) (q2.pre fun _ => t1.gone))⟩⟩
theorem Sv.fzs {K : PySem.W.Frag} {W : Wd} {σ : L2.St} {G0 H0 H : Hp} {ρ0 : Env} (s0 : ∀ b, W.H b ≠ none → H0 b ≠ none) : ∀ {xs : List Rf} {vs : List V} {G : Hp} {ρ : Env} {r : AE} {y : List D × AE}, Sv K O W σ G H ρ r → Go G0 H0 ρ0 G H ρ → RfRs σ H0 G H (owns ρ) vs xs → fzs r xs = some y →
    ∃ G' ρ', Sv K O W σ G' H ρ' y.2 ∧ Go G0 H0 ρ0 G' H ρ' ∧ DqA G' vs y.1 ∧ Same G G'
  | _, _, G, ρ, r, y, s, g, .nil, e => by cases e; exact ⟨G, ρ, s, g, .nil, Same.refl _⟩
  | _, _, G, ρ, r, y, s, g, .cons (x := x) (xs := xs) (vs := vs) h t, e => by
    obtain ⟨y1, e1, e⟩ := bindS e
    obtain ⟨y2, e2, e⟩ := bindS e
    cases e
    obtain ⟨G1, ρ1, s1, g1, q1, m1⟩ := s.fz s0 g h e1
    have t1 : RfRs σ H0 G1 H (owns ρ1) vs xs := by
      have mono : ∀ {vs : List V} {xs : List Rf}, RfRs σ H0 G H (owns ρ) vs xs → RfRs σ H0 G1 H (owns ρ1) vs xs := by
        intro vs xs t
        induction t with
        | nil => exact .nil
        | @cons v vs x xs h t ih =>
          refine .cons ?_ ih
          cases x with
          | v d => exact dqMono m1 h
          | s i => exact h
          | f ds => exact dqMono m1 h
      exact mono t
    obtain ⟨G2, ρ2, s2, g2, q2, m2⟩ := Sv.fzs s0 s1 g1 t1 e2
    exact ⟨G2, ρ2, s2, g2, .cons (dqMono m2 q1) q2, m1.trans m2⟩
theorem fzs_len : ∀ {xs : List Rf} {r : AE} {y : List D × AE}, fzs r xs = some y → y.1.length = xs.length
  | [], _, _, e => by cases e; rfl
  | x :: xs, _, _, e => by
    obtain ⟨y1, e1, e⟩ := bindS e
    obtain ⟨y2, e2, e⟩ := bindS e
    cases e
    show (y1.1 :: y2.1).length = _
    rw [List.length_cons, List.length_cons, fzs_len e2]
theorem v_tup {j} (h : EVA X O es ga) (hz : ∀ r x, ga r = some x → x.1.length ≤ sizeLine) : EV X O (.Tuple es j pos) (fun r => (ga r).bind fun x => (fzs x.2 x.1).bind fun y => some (.v (.tuple y.1), y.2)) :=
  peImp (pe_tup h) fun σ H Q ⟨W, G, ρ, r, x, s, em, k⟩ => by
    obtain ⟨x1, ex, em⟩ := bindS em
    obtain ⟨y1, ey, em⟩ := bindS em
    cases em
    refine ⟨W, G, ρ, r, x1, s, ex, fun vs G1 H1 ρ1 s1 t1 q1 => ?_⟩
    obtain ⟨G2, ρ2, s2, t2, q2, _⟩ := Sv.fzs s.at_.dm s1 t1 q1 ey
    refine ⟨?_, fun p hp => ?_⟩
    · rw [DqA.len q2, fzs_len ey]; exact hz r x1 ex
    · have gr : Gro G2 H1 (upd G2 p (.tup vs)) (upd H1 p (.tup vs)) := .inr ⟨p, _, hp, rfl, rfl⟩
      exact k _ _ _ ρ2 (s2.gro gr).1 (t2.trans (s2.gro gr).2) (.tup upd_same (dqAMono (same_upd1 (s2.at_.gNone hp)) q2))
theorem v_lst (h : EVA X O es ga) (hz : ∀ r x, ga r = some x → x.1.length ≤ sizeLine) : EV X O (.List es pos) (fun r => (ga r).bind fun x => (fzs x.2 x.1).bind fun y => some (.f y.1, y.2)) :=
  peImp (pe_lst h) fun σ H Q ⟨W, G, ρ, r, x, s, em, k⟩ => by
    obtain ⟨x1, ex, em⟩ := bindS em
    obtain ⟨y1, ey, em⟩ := bindS em
    cases em
    refine ⟨W, G, ρ, r, x1, s, ex, fun vs G1 H1 ρ1 s1 t1 q1 => ?_⟩
    obtain ⟨G2, ρ2, s2, t2, q2, _⟩ := Sv.fzs s.at_.dm s1 t1 q1 ey
    refine ⟨?_, fun p hp => ?_⟩
    · rw [DqA.len q2, fzs_len ey]; exact hz r x1 ex
    · exact (fin s2 t2 (rf := .f y1.1) (fun _ z => by cases z) k) p vs hp q2
theorem ixH {W : Wd} {G H : Hp} {σ : L2.St} {ρ : Env} {x y d : D} {v u : V} {Q : VK} (gs : Same G H) (hx : Hd X.K G H v x) (hy : Hd X.K G H u y) (em : dIx x y = some d) (k : ∀ z, Dq G z d → Q z H) : rIx X.K v u H Q := by
  cases y with
  | int i =>
    cases hdInt hy
    cases x with
    | list xs =>
      obtain ⟨a, vs, rfl, g, q⟩ := hdLst gs hx
      obtain ⟨z, ez, qz⟩ := atI_dq q em
      exact .inl ⟨_, _, i, z, rfl, rfl, .inl (.inl g), ez, k z qz⟩
    | tuple xs =>
      obtain ⟨a, vs, rfl, g, q⟩ := hdTup hx
      obtain ⟨z, ez, qz⟩ := atI_dq q em
      exact .inr (.inl ⟨_, _, i, z, rfl, rfl, .inl (.inl (gs _ _ g)), ez, k z qz⟩)
    | str z =>
      cases hdStr hx
      have em : (if z.length ≤ lineN then (atI z.cps.toList i).bind fun c => some (PyData.str ⟨#[c]⟩) else none) = some d := em
      split at em
      · rename_i hz
        obtain ⟨c, ec, em⟩ := bindS em
        cases em
        exact .inr (.inr ⟨z, i, c, rfl, rfl, by rw [lineEq]; exact hz, ec, k _ (.str _)⟩)
      · cases em
    | _ => cases em
  | _ => cases x <;> cases em
theorem v_ix (hs : okE e2 = true) (h1 : EV X O e1 g1) (h2 : EV X O e2 g2) : EV X O (.Subscript e1 e2 pos) (fun r => (g1 r).bind fun x => (g2 x.2).bind fun y => (dr y.2 (settle x.1)).bind fun d => (dr y.2 y.1).bind fun e => (dIx d e).bind fun z => some (.v z, y.2)) :=
  peImp (pe_ix ix_seq h1.h h2 (ix_ok hs)) fun σ H Q ⟨W, G, ρ, r, x, s, em, k⟩ => by
    obtain ⟨x1, ex, em⟩ := bindS em
    obtain ⟨y1, ey, em⟩ := bindS em
    obtain ⟨d, ed, em⟩ := bindS em
    obtain ⟨e, ee, em⟩ := bindS em
    obtain ⟨z, ez, em⟩ := bindS em
    cases em
    exact ⟨W, G, ρ, r, _, s, stl ex, fun v G1 H1 ρ1 s1 t1 q1 => ⟨W, G1, ρ1, _, y1, s1, ey, fun u G2 H2 ρ2 s2 t2 q2 => ixH (W := W) (σ := σ) (ρ := ρ) s2.at_.gh (s2.dr (q1.go t2) ed) (s2.dr q2 ee) ez fun w hw => k w G2 H2 ρ2 s2 (t1.trans t2) hw⟩⟩
variable {lo hi : Option Expr} {gl gh : AE → Option (Option Int × AE)}
theorem o_no : EVO X O none (fun r => some (none, r)) := poImp po_none fun σ H Q ⟨W, G, ρ, r, x, s, em, k⟩ => by cases em; exact k G H ρ s (Go.refl _ _ _)
theorem o_yes (h1 : EV X O e1 g1) : EVO X O (some e1) (fun r => (g1 r).bind fun x => (dr x.2 x.1).bind fun d => (dPart d).bind fun p => some (p, x.2)) := poImp (po_some h1) fun σ H Q ⟨W, G, ρ, r, x, s, em, k⟩ => by
  obtain ⟨x1, ex, em⟩ := bindS em
  obtain ⟨d, ed, em⟩ := bindS em
  obtain ⟨z, ez, em⟩ := bindS em
  cases em
  cases d with
  | int i => cases ez; exact ⟨W, G, ρ, r, x1, s, ex, fun v G1 H1 ρ1 s1 t1 q1 => ⟨i, hdInt (s1.dr q1 ed), k G1 H1 ρ1 s1 t1⟩⟩
  | _ => cases ez
theorem cutH {G H : Hp} {x : D} {l u : Option Int} {v : V} {z : Rf} {Q : VK} (gs : Same G H) (hx : Hd X.K G H v x) (em : dCutR l u x = some z) (k : RetP G H Q z) : (fun x lo hi H Q => rSlL X.K x lo hi H Q ∨ rSlA X.K x lo hi H Q) v l u H Q := by
  cases x with
  | list xs =>
    cases em
    obtain ⟨a, vs, rfl, g, q⟩ := hdLst gs hx
    exact .inl ⟨_, _, rfl, .inl (.inl g), fun r hr => k r _ hr (cutD_dq q l u)⟩
  | tuple xs =>
    cases em
    obtain ⟨p, vs, rfl, g, q⟩ := hdTup hx
    refine .inr ⟨_, _, rfl, .inl (.inl (gs _ _ g)), fun w => ?_, fun _ r hr => k _ (upd G r _) _ (.inr ⟨r, _, hr, rfl, rfl⟩) (.tup upd_same (dqAMono (same_upd1 (gNoneS gs hr)) (cutD_dq q l u)))⟩
    have e : cutD xs l u = xs := by
      unfold cutD
      rw [← DqA.len q, w.1, w.2, List.drop_zero, Nat.sub_zero, DqA.len q, List.take_length]
    have k : ∀ z G' H', Gro G H G' H' → Dq G' z (.tuple (cutD xs l u)) → Q z H' := k
    rw [e] at k
    exact k _ G H (.inl ⟨rfl, rfl⟩) (.tup g q)
  | _ => cases em
theorem dCutR_ns {l u : Option Int} {d : D} {z : Rf} (h : dCutR l u d = some z) : ∀ i, z ≠ .s i := by
  unfold dCutR at h
  split at h <;> exact map_ns (fun _ _ z => by cases z) h
theorem v_cut (h1 : EV X O e1 g1) (hl : EVO X O lo gl) (hh : EVO X O hi gh) : EV X O (.Subscript e1 (.Slice lo hi none p2) pos) (fun r => (g1 r).bind fun x => (gl x.2).bind fun l => (gh l.2).bind fun u => (dr u.2 (settle x.1)).bind fun d => (dCutR l.1 u.1 d).bind fun z => some (z, u.2)) :=
  peImp (pe_slice (sl_list.or sl_tupA) h1.h hl hh) fun σ H Q ⟨W, G, ρ, r, x, s, em, k⟩ => by
    obtain ⟨x1, ex, em⟩ := bindS em
    obtain ⟨l, el, em⟩ := bindS em
    obtain ⟨u, eu, em⟩ := bindS em
    obtain ⟨d, ed, em⟩ := bindS em
    obtain ⟨z, ez, em⟩ := bindS em
    cases em
    exact ⟨W, G, ρ, r, _, s, stl ex, fun v G1 H1 ρ1 s1 t1 q1 => ⟨W, G1, ρ1, _, l, s1, el, fun G2 H2 ρ2 s2 t2 => ⟨W, G2, ρ2, _, u, s2, eu, fun G3 H3 ρ3 s3 t3 => cutH s3.at_.gh (s3.dr (q1.go (t2.trans t3)) ed) ez (fin s3 (t1.trans (t2.trans t3)) (dCutR_ns ez) k)⟩⟩⟩
theorem dRev_ns {d : D} {z : Rf} (h : dRev d = some z) : ∀ i, z ≠ .s i := by
  cases d <;> cases h <;> exact fun _ z => by cases z
theorem v_rev {n : Nat} {p3 p4 p5 : Pos} (h1 : EV X O e1 g1) : EV X O (.Subscript e1 (.Slice none none (some (.UnaryOp .USub (.Constant (.int 1) n p3) p4)) p5) pos) (fun r => (g1 r).bind fun x => (dr x.2 x.1).bind fun d => (dRev d).bind fun z => some (z, x.2)) :=
  peImp (pe_rev h1) fun σ H Q ⟨W, G, ρ, r, x, s, em, k⟩ => by
    obtain ⟨x1, ex, em⟩ := bindS em
    obtain ⟨d, ed, em⟩ := bindS em
    obtain ⟨z, ez, em⟩ := bindS em
    cases em
    refine ⟨W, G, ρ, r, x1, s, ex, fun v G1 H1 ρ1 s1 t1 q1 => ?_⟩
    have hd := s1.dr q1 ed
    have fin := fin s1 t1 (dRev_ns ez) k
    cases d with
    | list ds =>
      cases ez
      obtain ⟨a, vs, rfl, ga, qa⟩ := hdLst s1.at_.gh hd
      exact ⟨a, vs, rfl, .inl ⟨.inl (.inl ga), fun p hp => fin p _ hp qa.rev⟩⟩
    | tuple ds =>
      cases ez
      obtain ⟨a, vs, rfl, ga, qa⟩ := hdTup hd
      refine ⟨a, vs, rfl, .inr ⟨.inl (.inl (s1.at_.gh _ _ ga)), fun p hp => ?_⟩⟩
      have gp : G1 p = none := gNoneS s1.at_.gh hp
      exact fin (.ref p) (upd G1 p (.tup vs.reverse)) _ (.inr ⟨p, _, hp, rfl, rfl⟩) (.tup upd_same (dqAMono (same_upd1 gp) qa.rev))
    | _ => cases ez
def biN : Bi → Str
  | .len => "len"
  | .abs => "abs"
  | .tup => "tuple"
  | .lst => "list"
  | .sum => "sum"
  | .all => "all"
  | .any => "any"
  | .max => "max"
  | .min => "min"
  | .sorted => "sorted"
  | .int => "int"
  | .str => "str"
theorem rC_v {c : Value} {f : D → Option D} (h : CallR X c (rC1 X.K f)) : CallR X c (rC X.K fun x => (f x).map .v) := by
  intro pins s σ H xs us Q I r ⟨G, x, d, z, e1, gs, hx, ef, k⟩
  have ef : (f d).map Rf.v = some z := ef
  cases q : f d with
  | none => rw [q] at ef; cases ef
  | some w => rw [q] at ef; cases ef; exact h pins s σ H xs us Q I r ⟨G, x, d, w, e1, gs, hx, q, k⟩
theorem rC_f {c : Value} {f : D → Option (List D)} (h : CallR X c (rC1L X.K f)) : CallR X c (rC X.K fun x => (f x).map .f) := by
  intro pins s σ H xs us Q I r ⟨G, x, d, z, e1, gs, hx, ef, k⟩
  have ef : (f d).map Rf.f = some z := ef
  cases q : f d with
  | none => rw [q] at ef; cases ef
  | some w => rw [q] at ef; cases ef; exact h pins s σ H xs us Q I r ⟨G, x, d, w, e1, gs, hx, q, k⟩
theorem bi1_ns {b : Bi} {d : D} {z : Rf} (h : bi1 b d = some z) : ∀ i, z ≠ .s i := by
  unfold bi1 at h
  split at h <;> exact map_ns (fun _ _ z => by cases z) h
theorem v_biB {id : String} {f : D → Option Rf} (hf : ∀ d z, f d = some z → ∀ i, z ≠ .s i) (hc : CallR X (.builtin id) (rC X.K f)) (hg : Gl X x) (hm : X.mg x = none) (hv : bootBuiltins x = some (.builtin id)) (hs : okE e1 = true) (h1 : EV X O e1 g1) (hn : x ≠ "__name__") (hdb : (x == ("__debug__" : Str)) = false) :
    EV X O (.Call (.Name x p) [e1] [] pos) (fun r => (g1 r).bind fun x => (dr x.2 x.1).bind fun d => (f d).bind fun z => some (z, x.2)) :=
  peImp (pe_callB hc hg hm hv (pa_cons h1 pa_nil (star_ok hs)) hn hdb (star_ok hs)) fun σ H Q ⟨W, G, ρ, r, x, s, em, k⟩ => by
    obtain ⟨x1, ex, em⟩ := bindS em
    obtain ⟨d, ed, em⟩ := bindS em
    obtain ⟨z, ez, em⟩ := bindS em
    cases em
    exact ⟨W, G, ρ, r, x1, s, ex, fun v G1 H1 ρ1 s1 t1 q1 => ⟨G1, v, d, z, rfl, s1.at_.gh, s1.dr q1 ed, ez, fin s1 t1 (hf d z ez) k⟩⟩
theorem v_biT {T : String} {f : D → Option Rf} (hf : ∀ d z, f d = some z → ∀ i, z ≠ .s i) (hc : CallR X (.type T) (rC X.K f)) (hg : Gl X x) (hm : X.mg x = none) (hv : bootBuiltins x = some (.type T)) (hs : okE e1 = true) (h1 : EV X O e1 g1) (hn : x ≠ "__name__") (hdb : (x == ("__debug__" : Str)) = false) :
    EV X O (.Call (.Name x p) [e1] [] pos) (fun r => (g1 r).bind fun x => (dr x.2 x.1).bind fun d => (f d).bind fun z => some (z, x.2)) :=
  peImp (pe_callTy hc hg hm hv (pa_cons h1 pa_nil (star_ok hs)) hn hdb (star_ok hs)) fun σ H Q ⟨W, G, ρ, r, x, s, em, k⟩ => by
    obtain ⟨x1, ex, em⟩ := bindS em
    obtain ⟨d, ed, em⟩ := bindS em
    obtain ⟨z, ez, em⟩ := bindS em
    cases em
    exact ⟨W, G, ρ, r, x1, s, ex, fun v G1 H1 ρ1 s1 t1 q1 => ⟨G1, v, d, z, rfl, s1.at_.gh, s1.dr q1 ed, ez, fin s1 t1 (hf d z ez) k⟩⟩
theorem v_bi (hc : X.calm = true) (b : Bi) (hg : Gl X (biN b)) (hm : X.mg (biN b) = none) (hs : okE e1 = true) (h1 : EV X O e1 g1) :
    EV X O (.Call (.Name (biN b) p) [e1] [] pos) (fun r => (g1 r).bind fun x => (dr x.2 x.1).bind fun d => (bi1 b d).bind fun z => some (z, x.2)) := by
  have ns : ∀ d z, bi1 b d = some z → ∀ i, z ≠ .s i := fun _ _ h => bi1_ns h
  cases b with
  | len => exact v_biB ns (rC_v cd_len) hg hm (by decide +kernel) hs h1 (by decide +kernel) (by decide +kernel)
  | abs => exact v_biB ns (rC_v cd_abs) hg hm (by decide +kernel) hs h1 (by decide +kernel) (by decide +kernel)
  | tup => exact v_biT ns (rC_v cd_tuple) hg hm (by decide +kernel) hs h1 (by decide +kernel) (by decide +kernel)
  | lst => exact v_biT ns (rC_f cl_list) hg hm (by decide +kernel) hs h1 (by decide +kernel) (by decide +kernel)
  | sum => exact v_biB ns (rC_v (cd_sum hc)) hg hm (by decide +kernel) hs h1 (by decide +kernel) (by decide +kernel)
  | all => exact v_biB ns (rC_v (cd_all hc)) hg hm (by decide +kernel) hs h1 (by decide +kernel) (by decide +kernel)
  | any => exact v_biB ns (rC_v (cd_any hc)) hg hm (by decide +kernel) hs h1 (by decide +kernel) (by decide +kernel)
  | max => exact v_biB ns (rC_v (cd_max hc)) hg hm (by decide +kernel) hs h1 (by decide +kernel) (by decide +kernel)
  | min => exact v_biB ns (rC_v (cd_min hc)) hg hm (by decide +kernel) hs h1 (by decide +kernel) (by decide +kernel)
  | sorted => exact v_biB ns (rC_f cl_sorted) hg hm (by decide +kernel) hs h1 (by decide +kernel) (by decide +kernel)
  | int => exact v_biT ns (rC_v cd_int) hg hm (by decide +kernel) hs h1 (by decide +kernel) (by decide +kernel)
  | str => exact v_biT ns (rC_v cd_str) hg hm (by decide +kernel) hs h1 (by decide +kernel) (by decide +kernel)
theorem ints2 {G H : Hp} {v u : V} {d e : D} {z : D} {f : List D → Option D} (hf : ∀ d e z, f [d, e] = some z → ∃ i j, d = .int i ∧ e = .int j) (hx : Hd X.K G H v d) (hy : Hd X.K G H u e) (h : f [d, e] = some z) : DqA G [v, u] [d, e] := by
  obtain ⟨i, j, rfl, rfl⟩ := hf _ _ _ h
  cases hdInt hx
  cases hdInt hy
  exact .cons (.int _) (.cons (.int _) .nil)
theorem min2_i (d e z : D) (h : dMin2 [d, e] = some z) : ∃ i j, d = .int i ∧ e = .int j := by
  cases d <;> cases e <;> first | exact ⟨_, _, rfl, rfl⟩ | cases h
theorem max2_i (d e z : D) (h : dMax2 [d, e] = some z) : ∃ i j, d = .int i ∧ e = .int j := by
  cases d <;> cases e <;> first | exact ⟨_, _, rfl, rfl⟩ | cases h
theorem v_mm {id : String} {f : List D → Option D} (hf : ∀ d e z, f [d, e] = some z → ∃ i j, d = .int i ∧ e = .int j) (hc : CallR X (.builtin id) (rCn f)) (hg : Gl X x) (hm : X.mg x = none) (hv : bootBuiltins x = some (.builtin id)) (hs : okE e1 = true) (hs2 : okE e2 = true) (h1 : EV X O e1 g1) (h2 : EV X O e2 g2) (hn : x ≠ "__name__") (hdb : (x == ("__debug__" : Str)) = false) :
    EV X O (.Call (.Name x p) [e1, e2] [] pos) (fun r => (g1 r).bind fun x => (g2 x.2).bind fun y => (dr y.2 (settle x.1)).bind fun d => (dr y.2 y.1).bind fun e => ((f [d, e]).map .v).bind fun z => some (z, y.2)) :=
  peImp (pe_callB hc hg hm hv (pa_cons h1.h (pa_cons h2 pa_nil (star_ok hs2)) (star_ok hs)) hn hdb (star_ok hs) (nstar (by rw [List.all_cons, hs2]; rfl))) fun σ H Q ⟨W, G, ρ, r, x, s, em, k⟩ => by
    obtain ⟨x1, ex, em⟩ := bindS em
    obtain ⟨y1, ey, em⟩ := bindS em
    obtain ⟨d, ed, em⟩ := bindS em
    obtain ⟨e, ee, em⟩ := bindS em
    obtain ⟨z, ez, em⟩ := bindS em
    cases em
    cases q : f [d, e] with
    | none => rw [q] at ez; cases ez
    | some w =>
      rw [q] at ez
      cases ez
      exact ⟨W, G, ρ, r, _, s, stl ex, fun v G1 H1 ρ1 s1 t1 q1 => ⟨W, G1, ρ1, _, y1, s1, ey, fun u G2 H2 ρ2 s2 t2 q2 => ⟨G2, _, w, s2.at_.gh, ints2 (X := X) hf (s2.dr (q1.go t2) ed) (s2.dr q2 ee) q, q, fin s2 (t1.trans t2) (rf := .v w) (fun _ z => by cases z) k⟩⟩⟩
theorem v_lrg (hc : X.calm = true) (hg : Gl X "list") (hm : X.mg "list" = none) (hg2 : Gl X "range") (hm2 : X.mg "range" = none) (hs : okE e1 = true) (hs2 : okE e2 = true) (h1 : EV X O e1 g1) (h2 : EV X O e2 g2) :
    EV X O (.Call (.Name "list" p) [.Call (.Name "range" p2) [e1, e2] [] pos2] [] pos) (fun r => (g1 r).bind fun x => (g2 x.2).bind fun y => (dr y.2 (settle x.1)).bind fun d => (dr y.2 y.1).bind fun e => ((dListRg d e).map .f).bind fun z => some (z, y.2)) :=
  peImp (pe_listRg hc hg hm (prg_2 hg2 hm2 h1.h h2 (star_ok hs) (star_ok hs2) (nstar (by rw [List.all_cons, hs2]; rfl))) (star_ok rfl)) fun σ H Q ⟨W, G, ρ, r, x, s, em, k⟩ => by
    obtain ⟨x1, ex, em⟩ := bindS em
    obtain ⟨y1, ey, em⟩ := bindS em
    obtain ⟨d, ed, em⟩ := bindS em
    obtain ⟨e, ee, em⟩ := bindS em
    obtain ⟨z, ez, em⟩ := bindS em
    cases em
    cases q : dListRg d e with
    | none => rw [q] at ez; cases ez
    | some w =>
      rw [q] at ez
      cases ez
      obtain ⟨i, j, rfl, rfl, ok, rfl⟩ := dListRgS q
      exact ⟨W, G, ρ, r, _, s, stl ex, fun v G1 H1 ρ1 s1 t1 q1 => ⟨W, G1, ρ1, _, y1, s1, ey, fun u G2 H2 ρ2 s2 t2 q2 => ⟨i, j, hdInt (s2.dr (q1.go t2) ed), hdInt (s2.dr q2 ee), ok, fun q hq => (fin s2 (t1.trans t2) (rf := .f _) (fun _ z => by cases z) k) q _ hq (dq_rg i _)⟩⟩⟩
theorem v_lrg1 (hc : X.calm = true) (hg : Gl X "list") (hm : X.mg "list" = none) (hg2 : Gl X "range") (hm2 : X.mg "range" = none) (hs : okE e1 = true) (h1 : EV X O e1 g1) :
    EV X O (.Call (.Name "list" p) [.Call (.Name "range" p2) [e1] [] pos2] [] pos) (fun r => (some (.v (.int 0), r)).bind fun x => (g1 x.2).bind fun y => (dr y.2 (settle x.1)).bind fun d => (dr y.2 y.1).bind fun e => ((dListRg d e).map .f).bind fun z => some (z, y.2)) :=
  peImp (pe_listRg hc hg hm (prg_1 hg2 hm2 h1 (star_ok hs)) (star_ok rfl)) fun σ H Q ⟨W, G, ρ, r, x, s, em, k⟩ => by
    obtain ⟨x1, ex, em⟩ := bindS em
    cases ex
    obtain ⟨y1, ey, em⟩ := bindS em
    obtain ⟨d, ed, em⟩ := bindS em
    cases ed
    obtain ⟨e, ee, em⟩ := bindS em
    obtain ⟨z, ez, em⟩ := bindS em
    cases em
    cases q : dListRg (.int 0) e with
    | none => rw [q] at ez; cases ez
    | some w =>
      rw [q] at ez
      cases ez
      obtain ⟨i, j, ei, rfl, ok, rfl⟩ := dListRgS q
      cases ei
      exact ⟨W, G, ρ, r, _, s, ey, fun v G1 H1 ρ1 s1 t1 q1 => ⟨j, hdInt (s1.dr q1 ee), ok, fun q hq => (fin s1 t1 (rf := .f _) (fun _ z => by cases z) k) q _ hq (dq_rg 0 _)⟩⟩
theorem v_trg1 (hc : X.calm = true) (hg : Gl X "tuple") (hm : X.mg "tuple" = none) (hg2 : Gl X "range") (hm2 : X.mg "range" = none) (hs : okE e1 = true) (h1 : EV X O e1 g1) :
    EV X O (.Call (.Name "tuple" p) [.Call (.Name "range" p2) [e1] [] pos2] [] pos) (fun r => (some (.v (.int 0), r)).bind fun x => (g1 x.2).bind fun y => (dr y.2 (settle x.1)).bind fun d => (dr y.2 y.1).bind fun e => ((dListRg d e).map fun l => .v (.tuple l)).bind fun z => some (z, y.2)) :=
  peImp (pe_tupRg hc hg hm (prg_1 hg2 hm2 h1 (star_ok hs)) (star_ok rfl)) fun σ H Q ⟨W, G, ρ, r, x, s, em, k⟩ => by
    obtain ⟨x1, ex, em⟩ := bindS em
    cases ex
    obtain ⟨y1, ey, em⟩ := bindS em
    obtain ⟨d, ed, em⟩ := bindS em
    cases ed
    obtain ⟨e, ee, em⟩ := bindS em
    obtain ⟨z, ez, em⟩ := bindS em
    cases em
    cases q : dListRg (.int 0) e with
    | none => rw [q] at ez; cases ez
    | some w =>
      rw [q] at ez
      cases ez
      obtain ⟨i, j, ei, rfl, ok, rfl⟩ := dListRgS q
      cases ei
      exact ⟨W, G, ρ, r, _, s, ey, fun v G1 H1 ρ1 s1 t1 q1 => ⟨j, hdInt (s1.dr q1 ee), ok, fun q hq => (fin s1 t1 (rf := .v _) (fun _ z => by cases z) k) _ (upd G1 q _) _ (.inr ⟨q, _, hq, rfl, rfl⟩) (.tup upd_same (dq_rg 0 _))⟩⟩
theorem v_trg (hc : X.calm = true) (hg : Gl X "tuple") (hm : X.mg "tuple" = none) (hg2 : Gl X "range") (hm2 : X.mg "range" = none) (hs : okE e1 = true) (hs2 : okE e2 = true) (h1 : EV X O e1 g1) (h2 : EV X O e2 g2) :
    EV X O (.Call (.Name "tuple" p) [.Call (.Name "range" p2) [e1, e2] [] pos2] [] pos) (fun r => (g1 r).bind fun x => (g2 x.2).bind fun y => (dr y.2 (settle x.1)).bind fun d => (dr y.2 y.1).bind fun e => ((dListRg d e).map fun l => .v (.tuple l)).bind fun z => some (z, y.2)) :=
  peImp (pe_tupRg hc hg hm (prg_2 hg2 hm2 h1.h h2 (star_ok hs) (star_ok hs2) (nstar (by rw [List.all_cons, hs2]; rfl))) (star_ok rfl)) fun σ H Q ⟨W, G, ρ, r, x, s, em, k⟩ => by
    obtain ⟨x1, ex, em⟩ := bindS em
    obtain ⟨y1, ey, em⟩ := bindS em
    obtain ⟨d, ed, em⟩ := bindS em
    obtain ⟨e, ee, em⟩ := bindS em
    obtain ⟨z, ez, em⟩ := bindS em
    cases em
    cases q : dListRg d e with
    | none => rw [q] at ez; cases ez
    | some w =>
      rw [q] at ez
      cases ez
      obtain ⟨i, j, rfl, rfl, ok, rfl⟩ := dListRgS q
      exact ⟨W, G, ρ, r, _, s, stl ex, fun v G1 H1 ρ1 s1 t1 q1 => ⟨W, G1, ρ1, _, y1, s1, ey, fun u G2 H2 ρ2 s2 t2 q2 => ⟨i, j, hdInt (s2.dr (q1.go t2) ed), hdInt (s2.dr q2 ee), ok, fun q hq => (fin s2 (t1.trans t2) (rf := .v _) (fun _ z => by cases z) k) _ (upd G2 q _) _ (.inr ⟨q, _, hq, rfl, rfl⟩) (.tup upd_same (dq_rg i _))⟩⟩⟩
def tyN2 : Ty → Str
  | .int => "int"
  | .bool => "bool"
  | .str => "str"
  | .list => "list"
  | .tuple => "tuple"
theorem isTyS (t : Ty) : IsTy (tyS t) := by
  cases t with
  | int => exact isTy_int
  | bool => exact isTy_bool
  | str => exact isTy_str
  | list => exact isTy_list
  | tuple => exact isTy_tuple
theorem boot_ty (t : Ty) : bootBuiltins (tyN2 t) = some (.type (tyS t)) := by cases t <;> decide +kernel
theorem ty_n (t : Ty) : tyN2 t ≠ "__name__" := by cases t <;> decide +kernel
theorem ty_d (t : Ty) : (tyN2 t == ("__debug__" : Str)) = false := by cases t <;> decide +kernel
theorem v_isi (t : Ty) (hg : Gl X "isinstance") (hm : X.mg "isinstance" = none) (hgt : Gl X (tyN2 t)) (hmt : X.mg (tyN2 t) = none) (hs : okE e1 = true) (h1 : EV X O e1 g1) :
    EV X O (.Call (.Name "isinstance" p) [e1, .Name (tyN2 t) p2] [] pos) (fun r => (g1 r).bind fun x => (dr x.2 x.1).bind fun d => some (.v (.bool (isT (tyS t) d)), x.2)) :=
  peImp (pe_callB call_isi hg hm (by decide +kernel) (pa_cons h1 (pa_cons (pe_bltn (v := .ty (tyS t)) hgt hmt (boot_ty t) rfl (ty_n t) (ty_d t)) pa_nil) (star_ok hs)) (by decide) (by decide) (star_ok hs)) fun σ H Q ⟨W, G, ρ, r, x, s, em, k⟩ => by
    obtain ⟨x1, ex, em⟩ := bindS em
    obtain ⟨d, ed, em⟩ := bindS em
    cases em
    refine ⟨W, G, ρ, r, x1, s, ex, fun v G1 H1 ρ1 s1 q1 hd => ?_⟩
    obtain ⟨t1, t2⟩ := hdTy s1.at_.gh (s1.dr hd ed)
    exact ⟨v, .ty (tyS t), _, _, isT (tyS t) d, rfl, .ty (tyS t), t1, kit_ty (isTyS t _ t2), k _ G1 H1 ρ1 s1 q1 (.bl _)⟩
end
end Pd

set_option Elab.async false
set_option linter.all false
set_option maxRecDepth 100000
set_option maxHeartbeats 4000000
namespace Pd
open PySem PySem.Spec PyProof.Rows L2
def RvR (H0 G H : Hp) (v : V) : Rf → Prop
  | .v d => Dq G v d
  | .f ds => ∃ a vs, v = .ref a ∧ H a = some (.lst vs) ∧ G a = none ∧ H0 a = none ∧ DqA G vs ds
  | .s _ => False
def spF (F : List D → Option Rf) : Sp := fun vs H Q _ => ∃ G ds r, Same G H ∧ DqA G vs ds ∧ F ds = some r ∧
  ∀ v G' H', Same G G' → Same G' H' → Same H H' → (∀ b, G' b ≠ none → G b = none → H b = none) → RvR H G' H' v r → Q v H'
def spW (K : PySem.W.Frag) (F : List Int → List D → List D → Option (Rf × List D)) : Sp := fun vs H Q _ => ∃ (G : Hp) (sa b : Addr) (ns : List Int) (ts : List D) (vts ws : List V) (ds : List D) (r : Rf × List D),
  vs = .ref sa :: .ref b :: ws ∧ Same G H ∧ SqL K G sa (ns.map V.int) ∧ H b = some (.lst vts) ∧ G b = none ∧ DqA G vts ts ∧ DqA G ws ds ∧ F ns ts ds = some r ∧
  ∀ v G' H' vts', Same G' H' → ExS b G H G' H' → H' b = some (.lst vts') → G' b = none → DqA G' vts' r.2 → (RvR H G' H' v r.1) → Q v H'
def spX (K : PySem.W.Frag) (tw : Bool) (F : List Int → List D → List D → Option (Rf × List D)) : Sp := if tw = true then spW K F else spF fun ds => (F [] [] ds).map (·.1)
structure CalX (X : Cx) (k : Nat) (f : Str) (tw : Bool) (F : List Int → List D → List D → Option (Rf × List D)) : Prop where
  ex : ∃ fa fd ps, X.mg f = some (.ref fa) ∧ PySem.W.keepIn X.K (.ref fa) = true ∧ Binds X.K fd ps [] ∧ FnOk X.prog X.w X.K X.mg X.base CX0 k fa fd ps (spX X.K tw F)
section
variable {X : Cx} {O : List Addr} {e1 e2 e3 : Expr} {g1 g2 g3 : AE → Option (Rf × AE)} {pos p p2 : Pos} {x : Str} {es : List Expr} {ga : AE → Option (List Rf × AE)} {k : Nat} {F : List Int → List D → List D → Option (Rf × List D)}
theorem v_call (c : CalX X k x false F) (hr : Room k X.A) (hg : Gl X x) (ha : EVA X O (e1 :: es) ga) (hs : okE e1 = true) (hss : es.all okE = true) (hdb : (x == ("__debug__" : Str)) = false) :
    EV X O (.Call (.Name x p) (e1 :: es) [] pos) (fun r => (ga r).bind fun x => (fzs x.2 x.1).bind fun y => (F [] [] y.1).bind fun z => some (z.1, y.2)) := by
  obtain ⟨fa, fd, ps, hm, hk, hb, F0⟩ := c.ex
  refine peImp (pe_call F0 hr hg hm hk hb .nil pass0 ha hdb (star_ok hs) (nstar hss)) fun σ H Q ⟨W, G, ρ, r, x, s, em, q⟩ => ?_
  obtain ⟨x1, ex, em⟩ := bindS em
  obtain ⟨y1, ey, em⟩ := bindS em
  obtain ⟨z, ez, em⟩ := bindS em
  cases em
  refine ⟨W, G, ρ, r, x1, s, ex, fun vs G1 H1 ρ1 s1 t1 q1 => ?_⟩
  obtain ⟨G2, ρ2, s2, t2, q2, _⟩ := Sv.fzs s.at_.dm s1 t1 q1 ey
  show spF (fun ds => (F [] [] ds).map (·.1)) (vs ++ []) H1 Q E0
  rw [List.append_nil]
  refine ⟨G2, y1.1, z.1, s2.at_.gh, q2, by show (F [] [] y1.1).map (·.1) = _; rw [ez]; rfl, fun v G3 H3 h1 h2 h3 h4 hd => ?_⟩
  have x3 : Ex G2 H1 G3 H3 := ⟨h1, h3, h4⟩
  have s3 := s2.ex x3 h2
  have t3 := Go.ex x3 ρ2
  refine q v G3 H3 ρ2 s3 (t2.trans t3) ?_
  obtain ⟨z1, z2⟩ := z
  cases z1 with
  | v d => exact hd
  | s i => exact hd.elim
  | f ds =>
    obtain ⟨a, us, rfl, k1, k2, k3, k4⟩ := hd
    exact ⟨a, us, rfl, k1, k2, t2.gone k3, s2.at_.rawNot k3, k4⟩
theorem Go.exS {a : Addr} {ρ : Env} {G H G' H' : Hp} (x : ExS a G H G' H') (h : a ∈ owns ρ) {ρ' : Env} (hρ : ∀ b ∈ owns ρ', b ∈ owns ρ) : Go G H ρ G' H' ρ' :=
  ⟨hρ, x.gg, fun b o n e => x.hh b o (fun z => n (by rw [z]; exact h)) e, x.dm, fun b h1 h2 => .inl (x.fr b h1 h2)⟩
theorem okO_is {K : PySem.W.Frag} {W : Wd} {σ : L2.St} {G H : Hp} {ρ : Env} {r : AE} {i : Nat} (s : Sv K O W σ G H ρ r) (h : okO r i = true) : ∃ c ds vs, ρ[i]? = some (.own c ds) ∧ σ[i]? = some (some (.ref c)) ∧ H c = some (.lst vs) ∧ DqA G vs ds := by
  unfold okO at h
  have go : ∀ {a ds}, r[i]? = some a → isO a = some ds → ∃ c ds vs, ρ[i]? = some (.own c ds) ∧ σ[i]? = some (some (.ref c)) ∧ H c = some (.lst vs) ∧ DqA G vs ds := fun {a ds} q e => by
    obtain ⟨c, q2, _⟩ := s.own q e
    obtain ⟨h1, _, vs, h3, h4⟩ := s.at_.getO q2
    exact ⟨c, ds, vs, q2, h1, h3, h4⟩
  split at h
  · rename_i ds q; exact go q (ds := ds) rfl
  · rename_i ds q; exact go q (ds := ds) rfl
  · cases h
theorem okT_is {K : PySem.W.Frag} {W : Wd} {σ : L2.St} {G H : Hp} {ρ : Env} {r : AE} {i : Nat} (s : Sv K O W σ G H ρ r) (h : okT r i = true) : ∃ c, σ[i]? = some (some (.ref c)) := by
  unfold okT at h
  split at h
  · rename_i ns q
    obtain ⟨a, h1, _⟩ := s.at_.rho.getS (s.scr q)
    exact ⟨a, h1⟩
  · cases h
theorem up_er {c : Addr} {a : As} {t t' : List D} (h : a = if c ∈ O then As.twn t else .own t) : upO a t' = er O (.own c t') := by
  subst h
  show upO (if c ∈ O then As.twn t else .own t) t' = if c ∈ O then As.twn t' else .own t'
  split <;> rfl
theorem Sv.mut {K : PySem.W.Frag} {W : Wd} {σ : L2.St} {G H : Hp} {ρ : Env} {r : AE} {i : Nat} {c : Addr} {a : As} {ds es : List D} {vs : List V} (s : Sv K O W σ G H ρ r) (hi : ρ[i]? = some (.own c ds)) (ha : a = if c ∈ O then As.twn ds else .own ds) (h : DqA G vs es) :
    Sv K O W σ G (upd H c (.lst vs)) (ρ.set i (.own c es)) (r.set i (upO a es)) ∧ Go G H ρ G (upd H c (.lst vs)) (ρ.set i (.own c es)) := by
  refine ⟨⟨s.wo, s.wh, s.at_.mut hi h, by rw [er_set, s.er, up_er ha]⟩, ⟨fun b hb => by rw [owns_set_own hi] at hb; exact hb, Same.refl _, fun b o n e => ?_, fun b hb => ?_, fun b h1 h2 => absurd h2 h1⟩⟩
  · rw [upd_ne (fun z => n (by rw [z]; exact mem_owns hi))]; exact e
  · by_cases q : b = c
    · rw [q, upd_same]; simp
    · rw [upd_ne q]; exact hb
theorem v_callT {y z : Str} {py pz : Pos} {i j : Nat} (c : CalX X k x true F) (hr : Room k X.A) (hg : Gl X x) (hy : X.N[i]? = some y) (hvy : Vis X.env.scope y) (hz : X.N[j]? = some z) (hvz : Vis X.env.scope z)
    (ha : EVA X O es ga) (hss : es.all okE = true) (hdb : (x == ("__debug__" : Str)) = false)
    (hd1 : (y == ("__debug__" : Str)) = false) (hc1 : (y == ("__classdict__" : Str)) = false) (hd2 : (z == ("__debug__" : Str)) = false) (hc2 : (z == ("__classdict__" : Str)) = false) :
    EV X O (.Call (.Name x p) (.Name y py :: .Name z pz :: es) [] pos) (fun r => if okT r i = true ∧ okO r j = true then (ga r).bind fun x => (fzs x.2 x.1).bind fun y => match y.2[i]?, y.2[j]? with
    | some (.scr ns), some a => (isO a).bind fun t => (F ns t y.1).bind fun z => some (z.1, y.2.set j (upO a z.2))
    | _, _ => none
    else none) := by
  obtain ⟨fa, fd, ps, hm, hk, hb, F0⟩ := c.ex
  refine peImp (pe_call F0 hr hg hm hk hb .nil pass0 (pa_cons (pe_var hy hvy hd1 hc1) (pa_cons (pe_var hz hvz hd2 hc2) ha (star_ok rfl)) (star_ok rfl)) hdb (star_ok rfl) (nstar (by rw [List.all_cons, hss]; rfl))) fun σ H Q ⟨W, G, ρ, r, x, s, em, q⟩ => ?_
  dsimp only at em
  split at em
  case isFalse => cases em
  rename_i ok
  obtain ⟨sa, hsa⟩ := okT_is s ok.1
  obtain ⟨b, t0, vt0, hb0, hb1, _, _⟩ := okO_is s ok.2
  obtain ⟨x1, ex, em⟩ := bindS em
  obtain ⟨y1, ey, em⟩ := bindS em
  try dsimp only at em
  split at em
  case h_2 => cases em
  rename_i ns a h1 h2
  obtain ⟨t, et, em⟩ := bindS em
  obtain ⟨w, ew, em⟩ := bindS em
  cases em
  refine ⟨_, hsa, _, hb1, W, G, ρ, r, x1, s, ex, fun vs G1 H1 ρ1 s1 t1 q1 => ?_⟩
  obtain ⟨G2, ρ2, s2, t2, q2, _⟩ := Sv.fzs s.at_.dm s1 t1 q1 ey
  obtain ⟨sa', k1, k2⟩ := s2.at_.rho.getS (s2.scr h1)
  rw [hsa] at k1
  cases k1
  obtain ⟨b', k3, k4⟩ := s2.own h2 et
  obtain ⟨k5, k6, vts, k7, k8⟩ := s2.at_.getO k3
  rw [hb1] at k5
  cases k5
  show spW X.K F ((.ref sa :: .ref b :: vs) ++ []) H1 Q E0
  rw [List.append_nil]
  refine ⟨G2, sa, b, ns, t, vts, vs, y1.1, w, rfl, s2.at_.gh, k2, k7, k6, k8, q2, ew, fun v G3 H3 vts' g3 x3 h3 h4 h5 hd => ?_⟩
  have a3 := At.calleeS s2.at_ k3 g3 x3 h3 h4 h5
  have s3 : Sv X.K O W σ G3 H3 (ρ2.set j (.own b w.2)) (y1.2.set j (upO a w.2)) := ⟨s2.wo, s2.wh, a3, by rw [er_set, s2.er, up_er k4]⟩
  have t3 : Go G2 H1 ρ2 G3 H3 (ρ2.set j (.own b w.2)) := Go.exS x3 (mem_owns k3) fun c hc => by rw [owns_set_own k3] at hc; exact hc
  refine q v G3 H3 _ s3 (t2.trans t3) ?_
  obtain ⟨z1, z2⟩ := w
  cases z1 with
  | v d => exact hd
  | s i => exact hd.elim
  | f ds =>
    obtain ⟨a', us, rfl, l1, l2, l3, l4⟩ := hd
    exact ⟨a', us, rfl, l1, l2, t2.gone l3, fun z => s2.at_.rawNot l3 (t3.ow _ z), l4⟩
theorem v_slen (i : Nat) (hN : X.N[i]? = some x) (hv : Vis X.env.scope x) (hg : Gl X "len") (hm : X.mg "len" = none) (hd : (x == ("__debug__" : Str)) = false) (hcd : (x == ("__classdict__" : Str)) = false) :
    EV X O (.Call (.Name "len" p) [.Name x p2] [] pos) (fun r => match r[i]? with
    | some (.scr ns) => some (.v (.int ns.length), r)
    | _ => none) :=
  peImp (pe_callB call_len_seq hg hm PySem.boot_len (pa_cons (pe_var hN hv hd hcd) pa_nil (star_ok rfl)) (by decide) (by decide) (star_ok rfl)) fun σ H Q ⟨W, G, ρ, r, x, s, em, k⟩ => by
    dsimp only at em
    split at em
    case h_2 => cases em
    rename_i ns q
    cases em
    obtain ⟨sa, e1, e2⟩ := s.at_.rho.getS (s.scr q)
    refine ⟨_, e1, sa, _, rfl, .inl (s.at_.gh.seq e2), ?_⟩
    rw [List.length_map]
    exact k _ G H ρ s (Go.refl _ _ _) (.int _)
theorem t_scr (i : Nat) (hN : X.N[i]? = some x) (hv : Vis X.env.scope x) (hd : (x == ("__debug__" : Str)) = false) (hcd : (x == ("__classdict__" : Str)) = false) :
    EVT X O (.Name x pos) (gT fun r => match r[i]? with
    | some (.scr ns) => some (.v (.bool !ns.isEmpty), r)
    | _ => none) :=
  ptImp (pt_truth (pe_var hN hv hd hcd) (by intro _; rfl)) fun σ H Q ⟨W, G, ρ, r, x, s, em, k⟩ => by
    obtain ⟨w, ew, em⟩ := bindS em
    dsimp only at ew
    split at ew
    case h_2 => cases ew
    rename_i ns q
    cases ew
    cases em
    obtain ⟨sa, e1, e2⟩ := s.at_.rho.getS (s.scr q)
    refine ⟨_, e1, !ns.isEmpty, .inl ⟨_, s.at_.gh.seq e2, ?_⟩, k G H ρ s (Go.refl _ _ _)⟩
    cases ns <;> rfl
theorem v_six (i : Nat) (hN : X.N[i]? = some x) (hv : Vis X.env.scope x) (hs : okE e1 = true) (h1 : EV X O e1 g1) (hd : (x == ("__debug__" : Str)) = false) (hcd : (x == ("__classdict__" : Str)) = false) :
    EV X O (.Subscript (.Name x p2) e1 pos) (fun r => if okT r i = true then (g1 r).bind fun x => (dr x.2 x.1).bind fun k => match x.2[i]? with
    | some (.scr ns) => (dIx (scrD ns) k).bind fun z => some (.v z, x.2)
    | _ => none
    else none) :=
  peImp (pe_ix ix_list (pe_var hN hv hd hcd) h1 (ix_ok hs)) fun σ H Q ⟨W, G, ρ, r, x, s, em, k⟩ => by
    dsimp only at em
    split at em
    case isFalse => cases em
    rename_i ok
    obtain ⟨sa, hsa⟩ := okT_is s ok
    obtain ⟨x1, ex, em⟩ := bindS em
    obtain ⟨d, ed, em⟩ := bindS em
    try dsimp only at em
    split at em
    case h_2 => cases em
    rename_i ns q
    obtain ⟨z, ez, em⟩ := bindS em
    cases em
    refine ⟨_, hsa, W, G, ρ, r, x1, s, ex, fun u G1 H1 ρ1 s1 t1 q1 => ?_⟩
    obtain ⟨sa', e1, e2⟩ := s1.at_.rho.getS (s1.scr q)
    rw [hsa] at e1
    cases e1
    cases d with
    | int i =>
      have em : atI (ns.map PyData.int) i = some z := ez
      obtain ⟨v, ev, qv⟩ := atI_dq (dq_ints G1 ns) em
      exact ⟨sa, _, i, v, rfl, hdInt (s1.dr q1 ed), s1.at_.gh.seq e2, ev, k v G1 H1 ρ1 s1 t1 qv⟩
    | _ => cases ez
theorem few1 {e : Expr} {cpos : Pos} {env : PySem.Env} (h : okE e = true) : ((backTo cpos (starEach (e :: []) env)).all (fun x => !x.1) && (backToKw cpos (keywordEach [] env)).all (fun x => x.1.isSome)
      && decide ((e :: []).length + ([] : List Keyword).length + (if ([] : List Keyword).isEmpty then 0 else 1) < 30)) = true := by
  rw [star_ok h]; rfl
theorem v_pop1 (i : Nat) {apos : Pos} (hN : X.N[i]? = some x) (hv : Vis X.env.scope x) (hs : okE e1 = true) (hl : (apos.endLine == pos.line) = true) (h1 : EV X O e1 g1) (hd : (x == ("__debug__" : Str)) = false) (hcd : (x == ("__classdict__" : Str)) = false) :
    EV X O (.Call (.Attribute (.Name x p) "pop" apos) [e1] [] pos) (fun r => if okO r i = true then ((g1 r).bind fun x => (dr x.2 x.1).bind fun d => (dPart d).bind fun p => some (p, x.2)).bind fun k => (k.2[i]?).bind fun s => (isO s).bind fun ds => (popD ds k.1).bind fun y => some (.v y.1, k.2.set i (upO s y.2)) else none) :=
  peImp (pe_bm PySem.F.plainAttrs_list PySem.F.slot_list_pop PySem.F.type_list_pop mt_popAt (pe_var hN hv hd hcd) (pa_cons h1 pa_nil (star_ok hs)) rfl (few1 hs) hl (star_ok hs) rfl) fun σ H Q ⟨W, G, ρ, r, x, s, em, k⟩ => by
    dsimp only at em
    split at em
    case isFalse => cases em
    rename_i ok
    obtain ⟨c, t0, vt0, hb0, hb1, hb2, _⟩ := okO_is s ok
    obtain ⟨kk, ek, em⟩ := bindS em
    obtain ⟨x1, ex, ek⟩ := bindS ek
    obtain ⟨d, ed, ek⟩ := bindS ek
    obtain ⟨pp, ep, ek⟩ := bindS ek
    cases ek
    obtain ⟨a, ha, em⟩ := bindS em
    obtain ⟨ds, hds, em⟩ := bindS em
    obtain ⟨y, ey, em⟩ := bindS em
    cases em
    refine ⟨_, hb1, .inl ⟨rfl, _, .inl (.inl hb2)⟩, W, G, ρ, r, x1, s, ex, fun u G1 H1 ρ1 s1 t1 q1 => ?_⟩
    cases d with
    | int z =>
      cases ep
      obtain ⟨c', k3, k4⟩ := s1.own ha hds
      obtain ⟨k5, k6, vts, k7, k8⟩ := s1.at_.getO k3
      rw [hb1] at k5
      cases k5
      have ep : (if -(2 ^ 63) ≤ z ∧ z < 2 ^ 63 then (seqIndex? z ds.length).bind fun k => (ds[k]?).bind fun y => some (y, ds.eraseIdx k) else none) = some y := ey
      split at ep
      · rename_i hb
        obtain ⟨n, en, ep⟩ := bindS ep
        obtain ⟨y', ey', ep⟩ := bindS ep
        cases ep
        obtain ⟨w, ew, qw⟩ := DqA.get k8 ey'
        obtain ⟨s2, t2⟩ := s1.mut (es := ds.eraseIdx n) k3 k4 (DqA.erase n k8)
        exact ⟨c, vts, z, n, w, rfl, by rw [hdInt (s1.dr q1 ed)], k7, hb.1, hb.2, by rw [DqA.len k8]; exact en, ew, k w G1 _ _ s2 (t1.trans t2) qw⟩
      · cases ep
    | _ => cases ep
theorem dq_dropLast {G : Hp} {vs : List V} {ds : List D} (h : DqA G vs ds) : DqA G vs.dropLast ds.dropLast := by
  rw [List.dropLast_eq_take, List.dropLast_eq_take, DqA.len h]
  exact DqA.take _ h
theorem v_pop0 (i : Nat) {apos : Pos} (hN : X.N[i]? = some x) (hv : Vis X.env.scope x) (hl : (apos.endLine == pos.line) = true) (hd : (x == ("__debug__" : Str)) = false) (hcd : (x == ("__classdict__" : Str)) = false) :
    EV X O (.Call (.Attribute (.Name x p) "pop" apos) [] [] pos) (fun r => if okO r i = true then (some ((none : Option Int), r)).bind fun k => (k.2[i]?).bind fun s => (isO s).bind fun ds => (popD ds k.1).bind fun y => some (.v y.1, k.2.set i (upO s y.2)) else none) :=
  peImp (pe_bm0 PySem.F.plainAttrs_list PySem.F.slot_list_pop PySem.F.type_list_pop mt_pop (pe_var hN hv hd hcd) rfl hl) fun σ H Q ⟨W, G, ρ, r, x, s, em, k⟩ => by
    dsimp only at em
    split at em
    case isFalse => cases em
    rename_i ok
    obtain ⟨c, t0, vt0, hb0, hb1, hb2, _⟩ := okO_is s ok
    obtain ⟨kk, ek, em⟩ := bindS em
    cases ek
    obtain ⟨a, ha, em⟩ := bindS em
    obtain ⟨ds, hds, em⟩ := bindS em
    obtain ⟨y, ey, em⟩ := bindS em
    cases em
    refine ⟨_, hb1, .inl ⟨rfl, _, .inl (.inl hb2)⟩, ?_⟩
    obtain ⟨c', k3, k4⟩ := s.own ha hds
    obtain ⟨k5, k6, vts, k7, k8⟩ := s.at_.getO k3
    rw [hb1] at k5
    cases k5
    have ep : ((ds[ds.length - 1]?).bind fun y => some (y, ds.dropLast)) = some y := ey
    obtain ⟨y', ey', ep⟩ := bindS ep
    cases ep
    obtain ⟨w, ew, qw⟩ := DqA.get k8 ey'
    obtain ⟨s2, t2⟩ := s.mut (es := ds.dropLast) k3 k4 (dq_dropLast k8)
    exact ⟨c, vts, w, rfl, rfl, k7, by rw [DqA.len k8]; exact ew, k w G _ _ s2 t2 qw⟩
variable {tg : Expr}
theorem i_e (h1 : EV X O e1 g1) : EVI X O tg e1 (fun r => (g1 r).bind fun x => (fz x.2 x.1).bind fun y => (dItems y.1).bind fun l => some (l, y.2)) := by
  refine ⟨fun pins s σ H R I ⟨W, G, ρ, r, x, sv, em, k⟩ => ?_⟩
  obtain ⟨x1, ex, em⟩ := bindS em
  obtain ⟨y, ey, em⟩ := bindS em
  obtain ⟨l, el, em⟩ := bindS em
  cases em
  have hh : (fun r => (g1 r).bind fun x => fz x.2 x.1) r = some y := by show (g1 r).bind _ = _; rw [ex]; exact ey
  obtain ⟨d, r'⟩ := y
  cases d with
  | list xs =>
    cases el
    exact (pi_list h1.d).run pins s σ H R I ⟨W, G, ρ, r, _, sv, hh, fun v G1 H1 ρ1 s1 t1 q => by
      cases q with
      | lst g q => exact ⟨_, rfl, ⟨_, .inl (.inl (s1.at_.gh _ _ g))⟩, k _ G1 H1 ρ1 s1 t1 (iter_list g q)⟩⟩
  | tuple xs =>
    cases el
    exact (pi_tup h1.d).run pins s σ H R I ⟨W, G, ρ, r, _, sv, hh, fun v G1 H1 ρ1 s1 t1 q => by
      cases q with
      | tup g q => exact ⟨_, rfl, ⟨_, .inl (.inl (s1.at_.gh _ _ g))⟩, k _ G1 H1 ρ1 s1 t1 (iter_tup g q)⟩⟩
  | _ => cases el
theorem dRangeS {x y : D} {l : List D} (h : dRange x y = some l) : ∃ a b, x = .int a ∧ y = .int b ∧ (-(2 ^ 62) ≤ a ∧ a < 2 ^ 62 ∧ -(2 ^ 62) ≤ b ∧ b < 2 ^ 62) ∧ l = rgD a 1 (b - a).toNat := by
  unfold dRange at h
  split at h
  · split at h
    · rename_i z
      cases h
      exact ⟨_, _, rfl, rfl, z, rfl⟩
    · cases h
  · cases h
theorem i_r1 (hg : Gl X "range") (hm : X.mg "range" = none) (hs : okE e1 = true) (h1 : EV X O e1 g1) : EVI X O tg (.Call (.Name "range" p) [e1] [] pos) (fun r => (g1 r).bind fun x => (dr x.2 x.1).bind fun d => (dRange (.int 0) d).bind fun l => some (l, x.2)) :=
  piImp (pi_range1 hg hm (pa_cons h1 pa_nil (star_ok hs)) (star_ok hs)) fun σ H R ⟨W, G, ρ, r, x, s, em, k⟩ => by
    obtain ⟨x1, ex, em⟩ := bindS em
    obtain ⟨d, ed, em⟩ := bindS em
    obtain ⟨l, el, em⟩ := bindS em
    cases em
    obtain ⟨a, b, e1, rfl, hz, rfl⟩ := dRangeS el
    cases e1
    exact ⟨W, G, ρ, r, x1, s, ex, fun v G1 H1 ρ1 s1 t1 q1 => ⟨b, by rw [hdInt (s1.dr q1 ed)], hz.2.2.1, hz.2.2.2, k _ G1 H1 ρ1 s1 t1 (by rw [Int.sub_zero]; exact iter_range)⟩⟩
theorem i_r2 (hg : Gl X "range") (hm : X.mg "range" = none) (hs : okE e1 = true) (hs2 : okE e2 = true) (h1 : EV X O e1 g1) (h2 : EV X O e2 g2) : EVI X O tg (.Call (.Name "range" p) [e1, e2] [] pos) (fun r => (g1 r).bind fun x => (g2 x.2).bind fun y => (dr y.2 (settle x.1)).bind fun d => (dr y.2 y.1).bind fun e => (dRange d e).bind fun l => some (l, y.2)) :=
  piImp (pi_range2 hg hm (pa_cons h1.h (pa_cons h2 pa_nil (star_ok hs2)) (star_ok hs)) (by rw [star_ok hs, star_ok hs2]; rfl) (by rw [star_ok hs2]; rfl)) fun σ H R ⟨W, G, ρ, r, x, s, em, k⟩ => by
    obtain ⟨x1, ex, em⟩ := bindS em
    obtain ⟨y1, ey, em⟩ := bindS em
    obtain ⟨d, ed, em⟩ := bindS em
    obtain ⟨e, ee, em⟩ := bindS em
    obtain ⟨l, el, em⟩ := bindS em
    cases em
    obtain ⟨a, b, rfl, rfl, hz, rfl⟩ := dRangeS el
    exact ⟨W, G, ρ, r, _, s, stl ex, fun v G1 H1 ρ1 s1 t1 q1 => ⟨W, G1, ρ1, _, y1, s1, ey, fun u G2 H2 ρ2 s2 t2 q2 => ⟨a, b, by rw [hdInt (s2.dr (q1.go t2) ed), hdInt (s2.dr q2 ee)], hz, k _ G2 H2 ρ2 s2 (t1.trans t2) iter_range⟩⟩⟩
theorem i_rd {j1 p1 p3} (hg : Gl X "range") (hm : X.mg "range" = none) (hs : okE e1 = true) (hs2 : okE e2 = true) (h1 : EV X O e1 g1) (h2 : EV X O e2 g2) : EVI X O tg (.Call (.Name "range" p) [e1, e2, .UnaryOp .USub (.Constant (.int 1) j1 p1) p3] [] pos) (fun r => (g1 r).bind fun x => (g2 x.2).bind fun y => (dr y.2 (settle x.1)).bind fun d => (dr y.2 y.1).bind fun e => (dRangeDn d e).bind fun l => some (l, y.2)) :=
  piImp (pi_range3 hg hm (pa_cons h1.h (pa_cons h2 (pa_cons (v_neg (O := O) v_int) pa_nil (star_ok rfl)) (star_ok hs2)) (star_ok hs)) (star_ok hs) (by rw [star_ok hs2]; rfl)) fun σ H R ⟨W, G, ρ, r, x, s, em, k⟩ => by
    obtain ⟨x1, ex, em⟩ := bindS em
    obtain ⟨y1, ey, em⟩ := bindS em
    obtain ⟨d, ed, em⟩ := bindS em
    obtain ⟨e, ee, em⟩ := bindS em
    obtain ⟨l, el, em⟩ := bindS em
    cases em
    cases d with
    | int n =>
      cases e with
      | int n2 =>
        have em : (if -(2 ^ 62) ≤ n ∧ n < 2 ^ 62 ∧ -(2 ^ 62) ≤ n2 ∧ n2 < 2 ^ 62 then some (rgD n (-1) (n - n2).toNat) else none) = some l := el
        split at em
        · rename_i hz
          cases em
          exact ⟨W, G, ρ, r, _, s, stl ex, fun v G1 H1 ρ1 s1 t1 q1 => ⟨W, G1, ρ1, _, y1, s1, ey, fun u G2 H2 ρ2 s2 t2 q2 => ⟨W, G2, ρ2, _, (.v (.int (-1)), y1.2), s2, rfl, fun w G3 H3 ρ3 s3 t3 q3 => ⟨n, n2, -1, (n - n2).toNat,
            by rw [hdInt (s3.dr (q1.go (t2.trans t3)) ed), hdInt (s3.dr (q2.go t3) ee)]; cases q3; rfl, RgC.neg hz.1 hz.2.1 hz.2.2.1 hz.2.2.2, k _ G3 H3 ρ3 s3 (t1.trans (t2.trans t3)) iter_rangeC⟩⟩⟩⟩
        · cases em
      | _ => cases el
    | _ => cases e <;> cases el
theorem i_zip {elts : List Expr} {kk : Nat} {tpos : Pos} (hg : Gl X "zip") (hm : X.mg "zip" = none) (hs : okE e1 = true) (hs2 : okE e2 = true) (h1 : EV X O e1 g1) (h2 : EV X O e2 g2) :
    EVI X O (.Tuple elts kk tpos) (.Call (.Name "zip" p) [e1, e2] [] pos) (fun r => (g1 r).bind fun x => (fz x.2 x.1).bind fun x' => (g2 x'.2).bind fun y => (fz y.2 y.1).bind fun y' => (dZip x'.1 y'.1).bind fun l => some (l, y'.2)) :=
  piImp (pi_or (RZ.pi_zipA hg hm (pa_cons h1.d (pa_cons h2.d pa_nil (star_ok hs2)) (star_ok hs)) (star_ok hs) (nstar (by rw [List.all_cons, hs2]; rfl))) (pi_zipM hg hm (pa_cons h1.d (pa_cons h2.d pa_nil (star_ok hs2)) (star_ok hs)) (star_ok hs) (nstar (by rw [List.all_cons, hs2]; rfl)))) fun σ H R ⟨W, G, ρ, r, x, s, em, k⟩ => by
    obtain ⟨x0, ex0, em⟩ := bindS em
    obtain ⟨x1, ex1, em⟩ := bindS em
    obtain ⟨y0, ey0, em⟩ := bindS em
    obtain ⟨y1, ey1, em⟩ := bindS em
    obtain ⟨l, el, em⟩ := bindS em
    cases em
    have ex : (fun r => (g1 r).bind fun x => fz x.2 x.1) r = some x1 := by show (g1 r).bind _ = _; rw [ex0]; exact ex1
    have ey : (fun r => (g2 r).bind fun x => fz x.2 x.1) x1.2 = some y1 := by show (g2 x1.2).bind _ = _; rw [ey0]; exact ey1
    obtain ⟨x, r1⟩ := x1
    obtain ⟨y, r2⟩ := y1
    cases x with
    | list xs =>
      cases y with
      | list ys =>
        cases el
        refine Or.inl ⟨W, G, ρ, r, _, s, ex, fun v G1 H1 ρ1 s1 t1 h1 => ⟨W, G1, ρ1, _, _, s1, ey, fun u G2 H2 ρ2 s2 t2 h2 => ?_⟩⟩
        have h1 := dqMono t2.gg h1
        cases h1 with
        | lst g q =>
          cases h2 with
          | lst g' q' => exact ⟨_, _, _, _, rfl, .inl ⟨.inl (.inl (s2.at_.gh _ _ g)), .inl (.inl (s2.at_.gh _ _ g')), k _ G2 H2 ρ2 s2 (t1.trans t2) (iter_zip g q g' q')⟩⟩
      | _ => cases el
    | tuple xs =>
      cases y with
      | tuple ys =>
        cases el
        refine Or.inl ⟨W, G, ρ, r, _, s, ex, fun v G1 H1 ρ1 s1 t1 h1 => ⟨W, G1, ρ1, _, _, s1, ey, fun u G2 H2 ρ2 s2 t2 h2 => ?_⟩⟩
        have h1 := dqMono t2.gg h1
        cases h1 with
        | tup g q =>
          cases h2 with
          | tup g' q' => exact ⟨_, _, _, _, rfl, .inr ⟨.inl (.inl (s2.at_.gh _ _ g)), .inl (.inl (s2.at_.gh _ _ g')), k _ G2 H2 ρ2 s2 (t1.trans t2) (iter_zipT g q g' q')⟩⟩
      | list ys =>
        cases el
        refine Or.inr ⟨W, G, ρ, r, _, s, ex, fun v G1 H1 ρ1 s1 t1 h1 => ⟨W, G1, ρ1, _, _, s1, ey, fun u G2 H2 ρ2 s2 t2 h2 => ?_⟩⟩
        have h1 := dqMono t2.gg h1
        cases h1 with
        | tup g q =>
          cases h2 with
          | lst g' q' => exact ⟨_, _, _, _, rfl, .inl (.inl (s2.at_.gh _ _ g)), .inl (.inl (s2.at_.gh _ _ g')), k _ G2 H2 ρ2 s2 (t1.trans t2) (iter_zipM g q g' q')⟩
      | _ => cases el
    | _ => cases y <;> cases el
theorem i_enum {elts : List Expr} {kk : Nat} {tpos : Pos} (hg : Gl X "enumerate") (hm : X.mg "enumerate" = none) (hs : okE e1 = true) (h1 : EV X O e1 g1) :
    EVI X O (.Tuple elts kk tpos) (.Call (.Name "enumerate" p) [e1] [] pos) (fun r => (g1 r).bind fun x => (fz x.2 x.1).bind fun y => (dEnum y.1).bind fun l => some (l, y.2)) :=
  piImp (pi_enumT hg hm (pa_cons h1.d pa_nil (star_ok hs)) (star_ok hs)) fun σ H R ⟨W, G, ρ, r, x, s, em, k⟩ => by
    obtain ⟨x0, ex0, em⟩ := bindS em
    obtain ⟨x1, ex1, em⟩ := bindS em
    obtain ⟨l, el, em⟩ := bindS em
    cases em
    have ex : (fun r => (g1 r).bind fun x => fz x.2 x.1) r = some x1 := by show (g1 r).bind _ = _; rw [ex0]; exact ex1
    refine ⟨W, G, ρ, r, x1, s, ex, fun v G1 H1 ρ1 s1 t1 h1 => ?_⟩
    obtain ⟨x, r1⟩ := x1
    cases h1 with
    | lst g q => cases el; exact ⟨_, _, rfl, .inl ⟨.inl (.inl (s1.at_.gh _ _ g)), k _ G1 H1 ρ1 s1 t1 (iter_enum g q)⟩⟩
    | tup g q => cases el; exact ⟨_, _, rfl, .inr ⟨.inl (.inl (s1.at_.gh _ _ g)), k _ G1 H1 ρ1 s1 t1 (iter_enumT g q)⟩⟩
    | _ => cases el
theorem i_scr (i : Nat) (hN : X.N[i]? = some x) (hv : Vis X.env.scope x) (hd : (x == ("__debug__" : Str)) = false) (hcd : (x == ("__classdict__" : Str)) = false) : EVI X O tg (.Name x pos) (fun r => match r[i]? with
    | some (.scr ns) => some (ns.map PyData.int, r)
    | _ => none) :=
  piImp (pi_list (pe_var hN hv hd hcd)) fun σ H R ⟨W, G, ρ, r, x, s, em, k⟩ => by
    dsimp only at em
    split at em
    case h_2 => cases em
    rename_i ns q
    cases em
    obtain ⟨sa, e1, e2⟩ := s.at_.rho.getS (s.scr q)
    refine ⟨_, e1, sa, rfl, ⟨_, s.at_.gh.seq e2⟩, k _ G H ρ s (Go.refl _ _ _) fun G' H' j ss g => ?_⟩
    have hs : SqL X.K H' sa (ns.map V.int) := g.seq (ss.seq e2)
    refine ⟨fun d e => ?_, fun d v H2 e y => ?_, fun hl => ⟨_, hs, by rw [List.length_map] at hl ⊢; exact hl⟩⟩
    · obtain ⟨v, ev, _⟩ := DqA.get (dq_ints G' ns) e
      exact ⟨_, v, hs, ev⟩
    · obtain ⟨w, ew, hw⟩ := DqA.get (dq_ints G' ns) e
      obtain ⟨rfl, y⟩ := y
      have := y _ hs
      rw [ew] at this
      cases this
      exact ⟨G', .inl ⟨rfl, rfl⟩, hw⟩
end
end Pd

set_option Elab.async false
set_option linter.all false
set_option maxRecDepth 100000
set_option maxHeartbeats 4000000
namespace Pd
open PySem PySem.Spec PyProof.Rows L2
section
variable {K : PySem.W.Frag} {O : List Addr} {W : Wd} {σ σ' : L2.St} {G H G' H' : Hp} {ρ ρ' : Env} {r r' : AE} {v : V} {d : D} {i : Nat}
theorem Sv.setV (s : Sv K O W σ G H ρ r) (h : Dq G v d) : Sv K O W (σ.set i (some v)) G H (ρ.set i (.val d)) (r.set i (.val d)) := ⟨s.wo, s.wh, s.at_.setV i h, by rw [er_set, s.er]; rfl⟩
def TGA (K : PySem.W.Frag) (O : List Addr) (is : List Nat) (g : D → AE → Option AE) : TG := fun v σ H Q => ∃ W G d ρ r r', Sv K O W σ G H ρ r ∧ Dq G v d ∧ g d r = some r' ∧
  ∀ σ' ρ', (∀ j, j ∉ is → σ'[j]? = σ[j]?) → σ'.length = σ.length → Sv K O W σ' G H ρ' r' → (∀ a ∈ owns ρ', a ∈ owns ρ) → Q σ' H
def TGAs (K : PySem.W.Frag) (O : List Addr) (is : List Nat) (g : List D → AE → Option AE) : TGs := fun vs σ H Q => ∃ W G ds ρ r r', Sv K O W σ G H ρ r ∧ DqA G vs ds ∧ g ds r = some r' ∧
  ∀ σ' ρ', (∀ j, j ∉ is → σ'[j]? = σ[j]?) → σ'.length = σ.length → Sv K O W σ' G H ρ' r' → (∀ a ∈ owns ρ', a ∈ owns ρ) → Q σ' H
end
section
variable {X : Cx} {O : List Addr} {e e1 e2 e3 e4 : Expr} {es : List Expr} {pos p p2 : Pos} {x : Str} {is is2 : List Nat} {g : D → AE → Option AE} {gs : List D → AE → Option AE} {kk : Nat}
theorem pgsImp {t t' : TGs} (h : PGs X es t) (k : ∀ v σ H Q, t' v σ H Q → t v σ H Q) : PGs X es t' := ⟨fun pins s σ H v u Q I r q => h.run pins s σ H v u Q I r (k _ _ _ _ q)⟩
theorem g_name (i : Nat) (hN : X.N.Nodup) (hi : X.N[i]? = some x) (hx : Loc X.env.scope x) (hf : X.fn x = true ∨ X.env.scope.names.lookup x = some .local) : PG X (.Name x pos) (TGA X.K O [i] (asg (.n i))) :=
  pgImp (pg_name hN hi hx hf) fun v σ H Q ⟨W, G, d, ρ, r, r', s, hd, eg, k⟩ => by
    simp only [asg] at eg
    split at eg
    · cases eg
      refine k _ _ (fun j hj => ?_) (by simp) (s.setV hd) (owns_sub_set rfl)
      have : i ≠ j := fun z => hj (by rw [z]; exact List.mem_cons_self)
      rw [List.getElem?_set_ne this]
    · cases eg
theorem gs_nil : PGs X [] (TGAs X.K O [] fun ds r => match ds with
    | [] => some r
    | _ => none) :=
  pgsImp pgs_nil fun vs σ H Q ⟨W, G, ds, ρ, r, r', s, hd, eg, k⟩ => by
    cases hd with
    | nil => cases eg; exact ⟨rfl, k σ ρ (fun _ _ => rfl) rfl s fun _ h => h⟩
    | cons _ _ => cases eg
def okT1 : Expr → Bool
  | .Starred _ _ => false
  | _ => true
theorem asg_ok {env : PySem.Env} (h : okT1 e = true) : (assignEach (e :: es) env).map (·.2) = assign e env :: (assignEach es env).map (·.2) := by cases e <;> first | rfl | cases h
theorem asg_len {env : PySem.Env} (h : es.all okT1 = true) : (assignEach es env).length = es.length ∧ (assignEach es env).findIdx? (·.1) = none := by
  induction es with
  | nil => exact ⟨rfl, rfl⟩
  | cons e r ih =>
    rw [List.all_cons, Bool.and_eq_true] at h
    have q : assignEach (e :: r) env = (false, assign e env) :: assignEach r env := by
      have h1 := h.1
      cases e <;> first | rfl | cases h1
    rw [q]
    obtain ⟨i1, i2⟩ := ih h.2
    refine ⟨by rw [List.length_cons, List.length_cons, i1], ?_⟩
    rw [List.findIdx?_cons]
    simp [i2]
theorem gs_cons (ho : okT1 e = true) (h1 : PG X e (TGA X.K O is g)) (h2 : PGs X es (TGAs X.K O is2 gs)) : PGs X (e :: es) (TGAs X.K O (is ++ is2) fun ds r => match ds with
    | d :: r' => (g d r).bind fun r1 => gs r' r1
    | _ => none) :=
  pgsImp (pgs_cons h1 h2 (asg_ok ho)) fun vs σ H Q ⟨W, G, ds, ρ, r, r', s, hd, eg, k⟩ => by
    cases hd with
    | nil => cases eg
    | cons q1 q2 =>
      obtain ⟨r1, eg1, eg⟩ := bindS eg
      refine ⟨_, _, rfl, W, G, _, ρ, r, r1, s, q1, eg1, fun σ1 ρ1 z1 l1 s1 o1 => ⟨W, G, _, ρ1, r1, r', s1, q2, eg, fun σ2 ρ2 z2 l2 s2 o2 => k σ2 ρ2 (fun j hj => ?_) (l2.trans l1) s2 fun a h => o1 a (o2 a h)⟩⟩
      rw [z2 j fun z => hj (List.mem_append_right _ z), z1 j fun z => hj (List.mem_append_left _ z)]
theorem g_tup (hc : X.calm = true) (ho : es.all okT1 = true) (h : PGs X es (TGAs X.K O is gs)) (hg : ∀ d r r', g d r = some r' → ∃ ds, d = .tuple ds ∧ ds.length = es.length ∧ gs ds r = some r') : PG X (.Tuple es kk pos) (TGA X.K O is g) :=
  pgImp (pg_tup hc h (asg_len ho).1 (asg_len ho).2) fun v σ H Q ⟨W, G, d, ρ, r, r', s, hd, eg, k⟩ => by
    obtain ⟨ds, rfl, hl, eg⟩ := hg _ _ _ eg
    cases hd with
    | tup g q => exact ⟨_, _, rfl, .inl (.inl (s.at_.gh _ _ g)), (DqA.len q).trans hl, W, G, ds, ρ, r, r', s, q, eg, k⟩
theorem g_t2 {a b : Tg} {i1 i2 : List Nat} (hc : X.calm = true) (o1 : okT1 e1 = true) (o2 : okT1 e2 = true) (h1 : PG X e1 (TGA X.K O i1 (asg a))) (h2 : PG X e2 (TGA X.K O i2 (asg b))) : PG X (.Tuple [e1, e2] kk pos) (TGA X.K O (i1 ++ (i2 ++ [])) (asg (.t2 a b))) :=
  g_tup hc (by simp [o1, o2]) (gs_cons o1 h1 (gs_cons o2 h2 gs_nil)) fun d r r' eg => by
    simp only [asg] at eg
    split at eg
    · obtain ⟨r1, e1, eg⟩ := bindS eg
      exact ⟨_, rfl, rfl, by show (asg a _ r).bind _ = _; rw [e1]; show (asg b _ r1).bind _ = _; rw [eg]; rfl⟩
    · cases eg
theorem g_t3 {a b c : Tg} {i1 i2 i3 : List Nat} (hc : X.calm = true) (o1 : okT1 e1 = true) (o2 : okT1 e2 = true) (o3 : okT1 e3 = true) (h1 : PG X e1 (TGA X.K O i1 (asg a))) (h2 : PG X e2 (TGA X.K O i2 (asg b))) (h3 : PG X e3 (TGA X.K O i3 (asg c))) : PG X (.Tuple [e1, e2, e3] kk pos) (TGA X.K O (i1 ++ (i2 ++ (i3 ++ []))) (asg (.t3 a b c))) :=
  g_tup hc (by simp [o1, o2, o3]) (gs_cons o1 h1 (gs_cons o2 h2 (gs_cons o3 h3 gs_nil))) fun d r r' eg => by
    simp only [asg] at eg
    split at eg
    · obtain ⟨r1, e1, eg⟩ := bindS eg
      obtain ⟨r2, e2, eg⟩ := bindS eg
      exact ⟨_, rfl, rfl, by show (asg a _ r).bind _ = _; rw [e1]; show (asg b _ r1).bind _ = _; rw [e2]; show (asg c _ r2).bind _ = _; rw [eg]; rfl⟩
    · cases eg
theorem g_t4 {a b c d : Tg} {i1 i2 i3 i4 : List Nat} (hc : X.calm = true) (o1 : okT1 e1 = true) (o2 : okT1 e2 = true) (o3 : okT1 e3 = true) (o4 : okT1 e4 = true) (h1 : PG X e1 (TGA X.K O i1 (asg a))) (h2 : PG X e2 (TGA X.K O i2 (asg b))) (h3 : PG X e3 (TGA X.K O i3 (asg c))) (h4 : PG X e4 (TGA X.K O i4 (asg d))) : PG X (.Tuple [e1, e2, e3, e4] kk pos) (TGA X.K O (i1 ++ (i2 ++ (i3 ++ (i4 ++ [])))) (asg (.t4 a b c d))) :=
  g_tup hc (by simp [o1, o2, o3, o4]) (gs_cons o1 h1 (gs_cons o2 h2 (gs_cons o3 h3 (gs_cons o4 h4 gs_nil)))) fun d' r r' eg => by
    simp only [asg] at eg
    split at eg
    · obtain ⟨r1, e1, eg⟩ := bindS eg
      obtain ⟨r2, e2, eg⟩ := bindS eg
      obtain ⟨r3, e3, eg⟩ := bindS eg
      exact ⟨_, rfl, rfl, by show (asg a _ r).bind _ = _; rw [e1]; show (asg b _ r1).bind _ = _; rw [e2]; show (asg c _ r2).bind _ = _; rw [e3]; show (asg d _ r3).bind _ = _; rw [eg]; rfl⟩
    · cases eg
end
section
variable {K : PySem.W.Frag} {O : List Addr} {W : Wd} {σ σ' : L2.St} {G H G' H' : Hp} {ρ ρ' : Env} {r r' : AE}
theorem wipeR_er (O : List Addr) (ρ : Env) : ∀ own : List Nat, (wipeR ρ own).map (er O) = wipeA own (ρ.map (er O))
  | [] => rfl
  | v :: vs => by
    show ((wipeR ρ vs).set v .no).map (er O) = (wipeA vs (ρ.map (er O))).set v .no
    rw [er_set, wipeR_er O ρ vs]; rfl
theorem Sv.wipe (s : Sv K O W σ G H ρ r) (own : List Nat) : Sv K O W (L2.wipe σ own) G H (wipeR ρ own) (wipeA own r) := ⟨s.wo, s.wh, s.at_.wipe own, by rw [wipeR_er, s.er]⟩
theorem owns_wipe : ∀ (own : List Nat) (ρ : Env), ∀ a ∈ owns (wipeR ρ own), a ∈ owns ρ
  | [], _, _, h => h
  | v :: vs, ρ, a, h => owns_wipe vs ρ a (owns_sub_set rfl a h)
def backG {α : Type} (z : α) (own : List Nat) (l l' : List α) : List α := own.foldr (fun i acc => acc.set i (l.getD i z)) l'
theorem backG_len {α : Type} (z : α) (l l' : List α) : ∀ own : List Nat, (backG z own l l').length = l'.length
  | [] => rfl
  | v :: vs => by
    show ((backG z vs l l').set v _).length = _
    rw [List.length_set, backG_len z l l' vs]
theorem backG_get {α : Type} (z : α) (l l' : List α) (j : Nat) : ∀ own : List Nat, (backG z own l l')[j]? = if j ∈ own then (l'[j]?).map (fun _ => l.getD j z) else l'[j]?
  | [] => by simp [backG]
  | v :: vs => by
    have ih := backG_get z l l' j vs
    show ((backG z vs l l').set v (l.getD v z))[j]? = _
    by_cases h : v = j
    · subst h
      rw [if_pos List.mem_cons_self]
      by_cases hl : v < l'.length
      · rw [List.getElem?_set_self (by rw [backG_len]; exact hl), List.getElem?_eq_getElem hl]; rfl
      · rw [List.getElem?_eq_none (by rw [List.length_set, backG_len]; omega), List.getElem?_eq_none (by omega)]; rfl
    · rw [List.getElem?_set_ne h, ih]
      by_cases q : j ∈ vs
      · rw [if_pos q, if_pos (List.mem_cons_of_mem _ q)]
      · rw [if_neg q, if_neg (by simp only [List.mem_cons, not_or]; exact ⟨fun z => h z.symm, q⟩)]
theorem rho_len (a : At K W G H σ ρ) : σ.length = ρ.length := a.rho.len
theorem At.back (a0 : At K W G H σ ρ) (gg : Same G G') : ∀ (own : List Nat), (∀ i ∈ own, plainS (er O (ρ.getD i .no)) = true) → At K W G' H' σ' ρ' → At K W G' H' (backG none own σ σ') (backG .no own ρ ρ') ∧ ∀ a ∈ owns (backG .no own ρ ρ'), a ∈ owns ρ'
  | [], _, a => ⟨a, fun _ h => h⟩
  | v :: vs, hp, a => by
    obtain ⟨ih, io⟩ := At.back a0 gg vs (fun i hi => hp i (List.mem_cons_of_mem _ hi)) a
    have pl := hp v List.mem_cons_self
    show At K W G' H' ((backG none vs σ σ').set v (σ.getD v none)) ((backG .no vs ρ ρ').set v (ρ.getD v .no)) ∧ _
    have e2 : backG Sl.no (v :: vs) ρ ρ' = (backG .no vs ρ ρ').set v (ρ.getD v .no) := rfl
    rw [e2]
    cases q : ρ.getD v .no with
    | no => exact ⟨ih.setN _ v, fun b hb => io b (owns_sub_set rfl b hb)⟩
    | val d =>
      have q2 : ρ[v]? = some (.val d) := by
        rw [List.getD_eq_getElem?_getD] at q
        cases e : ρ[v]? with
        | none => rw [e] at q; cases q
        | some y => rw [e] at q; exact congrArg some q
      obtain ⟨u, h1, h2⟩ := a0.get q2
      have e : σ.getD v none = some u := by rw [List.getD_eq_getElem?_getD, h1]; rfl
      rw [e]
      exact ⟨ih.setV v (dqMono gg h2), fun b hb => io b (owns_sub_set rfl b hb)⟩
    | own c ds =>
      rw [q] at pl
      unfold er at pl
      simp only at pl
      split at pl <;> cases pl
    | scr ns => rw [q] at pl; cases pl
theorem er_getD (O : List Addr) (ρ : Env) (i : Nat) : er O (ρ.getD i .no) = (ρ.map (er O)).getD i .no := by
  rw [List.getD_eq_getElem?_getD, List.getD_eq_getElem?_getD, List.getElem?_map]
  cases ρ[i]? <;> rfl
theorem backR_er (O : List Addr) (ρ ρ' : Env) : ∀ own : List Nat, (backG .no own ρ ρ').map (er O) = backA own (ρ.map (er O)) (ρ'.map (er O))
  | [] => rfl
  | v :: vs => by
    show ((backG .no vs ρ ρ').set v (ρ.getD v .no)).map (er O) = (backA vs (ρ.map (er O)) (ρ'.map (er O))).set v ((ρ.map (er O)).getD v .no)
    rw [er_set, backR_er O ρ ρ' vs, er_getD]
theorem Sv.back (s0 : Sv K O W σ G H ρ r) (gg : Same G G') (own : List Nat) (hp : own.all (fun i => plainS (r.getD i .no)) = true) (hz : ∀ j, j ∉ own → σ'[j]? = σ[j]?) (hl : σ'.length = σ.length) (s : Sv K O W σ' G' H' ρ' r') :
    ∃ ρb, Sv K O W σ G' H' ρb (backA own r r') ∧ ∀ a ∈ owns ρb, a ∈ owns ρ' := by
  have hp' : ∀ i ∈ own, plainS (Pd.er O (ρ.getD i .no)) = true := fun i hi => by
    rw [er_getD, s0.er]
    exact List.all_eq_true.mp hp i hi
  obtain ⟨a, ho⟩ := At.back (O := O) s0.at_ gg own hp' s.at_
  have e : backG none own σ σ' = σ := by
    refine List.ext_getElem? fun j => ?_
    rw [backG_get]
    by_cases q : j ∈ own
    · rw [if_pos q]
      by_cases hj : j < σ.length
      · rw [List.getElem?_eq_getElem hj, List.getElem?_eq_getElem (by omega), List.getD_eq_getElem?_getD, List.getElem?_eq_getElem hj]; rfl
      · rw [List.getElem?_eq_none (by omega), List.getElem?_eq_none (by omega)]; rfl
    · rw [if_neg q]; exact hz j q
  rw [e] at a
  exact ⟨_, ⟨s.wo, s.wh, a, by rw [backR_er, s0.er, s.er]⟩, ho⟩
theorem backA_get (own : List Nat) (r r' : AE) (h : r'.length = r.length) {i : Nat} (hi : i ∈ own) : (backA own r r').getD i .no = r.getD i .no := by
  have e : backA own r r' = backG .no own r r' := rfl
  rw [e, List.getD_eq_getElem?_getD, backG_get, if_pos hi]
  by_cases hj : i < r'.length
  · rw [List.getElem?_eq_getElem hj]; rfl
  · rw [List.getElem?_eq_none (by omega), List.getD_eq_getElem?_getD, List.getElem?_eq_none (by omega)]; rfl
theorem Go.sub {ρ4 ρb ρ6 : Env} (x : Go G H ρ4 G' H' ρ6) (h1 : ∀ a ∈ owns ρ4, a ∈ owns ρ) (h2 : ∀ a ∈ owns ρb, a ∈ owns ρ6) : Go G H ρ G' H' ρb :=
  ⟨fun a h => h1 a (x.ow a (h2 a h)), x.gg, fun b o n e => x.hh b o (fun z => n (h1 b z)) e, x.dm, fun b h z => (x.fr b h z).imp id (h1 b)⟩
end
section
variable {X : Cx} {O : List Addr} {elt tg iter : Expr} {pos : Pos}
structure LcV (X : Cx) (O : List Addr) (e : Expr) (g : AE → Option (Rf × AE)) : Prop where
  ef : EV X O e g
  as : ∀ {i : Nat} {y : Str} {py spos : Pos}, X.N[i]? = some y → X.env.scope.names.lookup y = some .local → swapsWith e (some (.Name y py)) spos.line X.env = pure true → PS X (.Assign [.Name y py] e spos) (tAsg (TEV X.K O g) (gName i))
theorem v_lc {ifs : List Expr} {scope : Scope} {own : List (Str × Nat)} {is : List Nat} {gi : AE → Option (List D × AE)} {ga : D → AE → Option AE} {gc : AE → Option (Bool × AE)} {ge : AE → Option (D × AE)}
    (hc : X.calm = true) (hN : X.N.Nodup) (hi : EVI X O tg iter gi) (ok : BlkOk X.N X.env.scope scope own) (his : ∀ j ∈ is, j ∈ own.map (·.2))
    (hg : ∀ (s : Shared) (H : Hp) (C : Addr) (cl : List (Str × Addr)) (fp : List Addr), PG (X.blk s H scope (compEnvC scope cl C X.env) fp) tg (TGA X.K O is ga))
    (ht : ∀ (s : Shared) (H : Hp) (C : Addr) (cl : List (Str × Addr)) (fp : List Addr), PTs (X.blk s H scope (compEnvC scope cl C X.env) fp) ifs (TTV X.K O gc))
    (he : ∀ (s : Shared) (H : Hp) (C : Addr) (cl : List (Str × Addr)) (fp : List Addr), PE (X.blk s H scope (compEnvC scope cl C X.env) fp) elt (TED X.K O ge))
    (hs : okE iter = true) :
    LcV X O (.ListComp elt [⟨tg, iter, ifs, 0⟩] scope pos) (fun r => (gi r).bind fun xs => if xs.1.length ≤ lineN ∧ (own.map (·.2)).all (fun i => plainS (xs.2.getD i .no)) = true
      then (compA (own.map (·.2)) ga gc ge xs.1 xs.2).bind fun ys => some (.f ys.1, ys.2) else none) := by
  suffices key : ∀ σ H Q, TEV X.K O (fun r => (gi r).bind fun xs => if xs.1.length ≤ lineN ∧ (own.map (·.2)).all (fun i => plainS (xs.2.getD i .no)) = true
      then (compA (own.map (·.2)) ga gc ge xs.1 xs.2).bind fun ys => some (.f ys.1, ys.2) else none) σ H Q → tLc (TIV X.K O gi) (TGA X.K O is ga) (TTV X.K O gc) (TED X.K O ge) (own.map (·.2)) σ H Q from
    ⟨peImp (pe_lc hc hN hi ok hg ht he (fold_ok hs)) key, fun hy hyl hsw => psImp (ps_setLc hc hN hy hyl hsw hi ok hg ht he (fold_ok hs)) fun B σ H q => key σ H _ q⟩
  generalize hvs : own.map (·.2) = vs at his ⊢
  intro σ H Q ⟨W, G, ρ, r, x, s, em, k⟩
  obtain ⟨xs, exs, em⟩ := bindS em
  split at em
  case isFalse => cases em
  rename_i hz
  obtain ⟨ys, eys, em⟩ := bindS em
  cases em
  refine ⟨W, G, ρ, r, xs, s, exs, fun J G1 H1 ρ1 s1 t1 it P hP => ?_⟩
  have hwP : W.H P = none := s1.at_.wNone hP
  refine ⟨fun i n H' => n = xs.1.length - i ∧ i ≤ xs.1.length ∧ ∃ G' ρ' r' acc da rest, Sv X.K O W σ G' H' ρ' r' ∧ P ∉ owns ρ' ∧ Go G1 H1 ρ1 G' H' ρ' ∧ H' P = some (.lst acc) ∧ G' P = none ∧ DqA G' acc da ∧ acc.length ≤ i ∧ vs.all (fun i => plainS (r'.getD i .no)) = true ∧ compA vs ga gc ge (xs.1.drop i) r' = some rest ∧ (da ++ rest.1, rest.2) = ys,
    ⟨xs.1.length, by simp, Nat.zero_le _, G1, ρ1, xs.2, [], [], ys, s1.raw _ hP, s1.at_.rawNot hP, Go.ex (.raw hP) ρ1, upd_same, s1.at_.gNone hP, .nil, Nat.le_refl _, hz.2, eys, rfl⟩, ?_⟩
  rintro i n H' ⟨rfl, hi', G', ρ', r', acc, da, rest, s2, n2, t2, hD, gD, qa, la, hpl, er', ey⟩
  obtain ⟨jg, jy, js⟩ := it G' H' i t2.gg s2.at_.gh
  by_cases hlt : i < xs.1.length
  case neg =>
    have ei : i = xs.1.length := by omega
    subst ei
    rw [List.drop_length] at er'
    cases er'
    rw [List.append_nil] at ey
    subst ey
    exact .inl ⟨js (Nat.le_refl _), k (.ref P) G' H' ρ' s2 (t1.trans t2) ⟨P, acc, rfl, hD, gD, t1.gone hP, n2, qa⟩⟩
  have ex : xs.1[i]? = some xs.1[i] := List.getElem?_eq_getElem hlt
  rw [List.drop_eq_getElem_cons hlt] at er'
  obtain ⟨r1, eg, er'⟩ := bindS er'
  obtain ⟨b, eb, er'⟩ := bindS er'
  refine .inr ⟨jg _ ex, fun H3 => i + 1 ≤ xs.1.length ∧ ∃ G' ρ' r' acc da rest, Sv X.K O W σ G' H3 ρ' r' ∧ P ∉ owns ρ' ∧ Go G1 H1 ρ1 G' H3 ρ' ∧ H3 P = some (.lst acc) ∧ G' P = none ∧ DqA G' acc da ∧ acc.length ≤ i + 1 ∧ vs.all (fun i => plainS (r'.getD i .no)) = true ∧ compA vs ga gc ge (xs.1.drop (i + 1)) r' = some rest ∧ (da ++ rest.1, rest.2) = ys,
    fun H3 n => ⟨xs.1.length - (i + 1), by omega, rfl, n⟩, fun x H3 y3 => ?_⟩
  obtain ⟨G3, g3, hx⟩ := jy _ _ _ ex y3
  obtain ⟨s3, t3⟩ := s2.gro g3
  have at3 : H3 P = some (.lst acc) ∧ G3 P = none := ⟨t3.hh _ _ n2 hD, noneOf fun z => by
    rcases t3.fr P z gD with q | q
    · rw [hD] at q; cases q
    · exact n2 q⟩
  obtain ⟨D3, gD3⟩ := at3
  refine ⟨W, G3, xs.1[i], _, _, r1, s3.wipe vs, hx, eg, fun σ4 ρ4 z4 l4 s4 o4 => ⟨wipe_same his z4 l4, W, G3, ρ4, r1, b, s4, eb, fun G5 H5 ρ5 s5 t5 => ?_⟩⟩
  have o4' : ∀ a ∈ owns ρ4, a ∈ owns ρ' := fun a h => owns_wipe vs ρ' a (o4 a h)
  have n4 : P ∉ owns ρ4 := fun z => n2 (o4' P z)
  have D5 : H5 P = some (.lst acc) := t5.hh _ _ n4 D3
  have gD5 : G5 P = none := noneOf fun z => by
    rcases t5.fr P z gD3 with q | q
    · rw [D3] at q; cases q
    · exact n4 q
  have hz4 : ∀ j, j ∉ vs → σ4[j]? = σ[j]? := fun j hj => by
    rw [z4 j fun q => hj (his j q), wipe_ge, if_neg hj]
  have hl4 : σ4.length = σ.length := by rw [l4, wipe_length]
  have lens : ∀ {r6 : AE} {G6 H6 : Hp} {ρ6 : Env}, Sv X.K O W σ4 G6 H6 ρ6 r6 → r6.length = r'.length := fun {r6 G6 H6 ρ6} s6 => by
    rw [er_len s6, ← rho_len s6.at_, hl4, rho_len s2.at_, er_len s2]
  have plb : ∀ {r6 : AE}, r6.length = r'.length → vs.all (fun i => plainS ((backA vs r' r6).getD i .no)) = true := fun {r6} hlen => by
    rw [List.all_eq_true]
    intro j hj
    rw [backA_get vs r' r6 hlen hj]
    exact List.all_eq_true.mp hpl j hj
  obtain ⟨b1, b2⟩ := b
  cases b1 with
  | false =>
    rw [if_neg Bool.false_ne_true] at er'
    refine iteF ?_
    obtain ⟨ρb, sb, ob⟩ := Sv.back s3 t5.gg vs hpl hz4 hl4 s5
    have tb := Go.sub (ρ := ρ') t5 o4' ob
    exact ⟨hlt, G5, ρb, _, acc, da, rest, sb, fun z => n4 (t5.ow P (ob P z)), t2.trans (t3.trans tb), D5, gD5, dqAMono (t3.gg.trans t5.gg) qa, by omega, plb (lens s5), er', ey⟩
  | true =>
    rw [if_pos rfl] at er'
    refine iteT ?_
    obtain ⟨y, ey1, er'⟩ := bindS er'
    obtain ⟨rs, ers, er'⟩ := bindS er'
    cases er'
    refine ⟨W, G5, ρ5, b2, y, s5, ey1, fun v G6 H6 ρ6 s6 t6 hv => ?_⟩
    have n5 : P ∉ owns ρ5 := fun z => n4 (t5.ow P z)
    have D6 : H6 P = some (.lst acc) := t6.hh _ _ n5 D5
    have gD6 : G6 P = none := noneOf fun z => by
      rcases t6.fr P z gD5 with q | q
      · rw [D5] at q; cases q
      · exact n5 q
    obtain ⟨ρb, sb, ob⟩ := Sv.back s3 (t5.trans t6).gg vs hpl hz4 hl4 s6
    have tb := Go.sub (ρ := ρ') (t5.trans t6) o4' ob
    have nb : P ∉ owns ρb := fun z => n5 (t6.ow P (ob P z))
    have tt : Go G1 H1 ρ1 G6 H6 ρb := t2.trans (t3.trans tb)
    refine ⟨acc, D6, ?_, hlt, G6, ρb, _, acc ++ [v], da ++ [y.1], rs, ⟨sb.wo, sb.wh, sb.at_.touch nb gD6 hwP, sb.er⟩, nb, ⟨tt.ow, tt.gg, fun c o n e => ?_, fun b h => ?_, tt.fr⟩, upd_same, gD6, DqA.app (dqAMono (t3.gg.trans (t5.gg.trans t6.gg)) qa) (.cons hv .nil), ?_, plb (lens s6), ers, ?_⟩
    · rw [lineEq]; have := hz.1; omega
    · have n' : c ≠ P := ne_of_none e hP
      rw [upd_ne n']; exact tt.hh _ _ n e
    · by_cases q : b = P
      · rw [q, upd_same]; simp
      · rw [upd_ne q]; exact tt.dm b h
    · rw [List.length_append, List.length_singleton]; omega
    · rw [← ey, List.append_assoc]; rfl
end
end Pd

set_option Elab.async false
set_option linter.all false
set_option maxRecDepth 100000
set_option maxHeartbeats 4000000
namespace Pd
open PySem PySem.Spec PyProof.Rows L2
def OutK (K : PySem.W.Frag) (O : List Addr) (W : Wd) (G : Hp) (B : Ends) : Out → Prop
  | .nx r' => ∀ σ' G' H' ρ', Sv K O W σ' G' H' ρ' r' → Same G G' → B.nx σ' H'
  | .rt rf r' => ∀ v σ' G' H' ρ', Sv K O W σ' G' H' ρ' r' → Same G G' → RvR W.H G' H' v rf → B.rt v H'
def TSB (K : PySem.W.Frag) (O : List Addr) (m : AE → Option Out) : TS := fun B σ H => ∃ W G ρ r x, Sv K O W σ G H ρ r ∧ m r = some x ∧ OutK K O W G B x
abbrev ESt (X : Cx) (O : List Addr) (st : Stmt) (m : AE → Option Out) : Prop := PS X st (TSB X.K O m)
abbrev ESs (X : Cx) (O : List Addr) (st : List Stmt) (m : AE → Option Out) : Prop := PSs X st (TSB X.K O m)
section
variable {K : PySem.W.Frag} {O : List Addr} {W : Wd} {G G' : Hp} {B : Ends} {x : Out}
theorem OutK.mono (h : OutK K O W G B x) (s : Same G G') : OutK K O W G' B x := by
  cases x with
  | nx r => exact fun σ' G2 H2 ρ' sv g => h σ' G2 H2 ρ' sv (s.trans g)
  | rt rf r => exact fun v σ' G2 H2 ρ' sv g => h v σ' G2 H2 ρ' sv (s.trans g)
end
section
variable {X : Cx} {O : List Addr} {e e1 e2 : Expr} {g g1 g2 : AE → Option (Rf × AE)} {pos p p2 : Pos} {x y : Str} {st : Stmt} {rest ba bb : List Stmt} {m m1 m2 : AE → Option Out} {i j : Nat}
theorem ss_nil : ESs X O [] (fun r => some (.nx r)) := pssImp pss_nil fun B σ H ⟨W, G, ρ, r, x, s, em, k⟩ => by
  cases em
  exact k σ G H ρ s (Same.refl _)
theorem ss_cons (h1 : ESt X O st m1) (h2 : ESs X O rest m2) : ESs X O (st :: rest) (fun r => (m1 r).bind fun o => match o with
    | .nx r' => m2 r'
    | .rt x r' => some (.rt x r')) :=
  pssImp (pss_cons h1 h2) fun B σ H ⟨W, G, ρ, r, x, s, em, k⟩ => by
    obtain ⟨o, eo, em⟩ := bindS em
    refine ⟨W, G, ρ, r, o, s, eo, ?_⟩
    cases o with
    | nx r' => exact fun σ' G' H' ρ' s' g' => ⟨W, G', ρ', r', x, s', em, k.mono g'⟩
    | rt rf r' => cases em; exact k
theorem nos_is {K : PySem.W.Frag} {W : Wd} {σ : L2.St} {G0 H0 G H : Hp} {ρ0 ρ : Env} {r : AE} {rf : Rf} {v : V} (s : Sv K O W σ G H ρ r) (s0 : ∀ b, W.H b ≠ none → H0 b ≠ none) (g : Go G0 H0 ρ0 G H ρ) (h : RfR σ H0 G H (owns ρ) v rf) {z : Rf × AE} (e : nos r rf = some z) :
    ∃ G' ρ', Sv K O W σ G' H ρ' z.2 ∧ Go G0 H0 ρ0 G' H ρ' ∧ RfR σ H0 G' H (owns ρ') v z.1 ∧ (∀ i, z.1 ≠ .s i) ∧ Same G G' ∧ (∀ a, a ∈ owns ρ' → a ∈ owns ρ) ∧ (∀ a, H a ≠ none → G a = none → a ∉ owns ρ → G' a = none) := by
  cases rf with
  | v d => cases e; exact ⟨G, ρ, s, g, h, (fun _ z => by cases z), Same.refl _, fun _ h => h, fun _ _ h _ => h⟩
  | f ds => cases e; exact ⟨G, ρ, s, g, h, (fun _ z => by cases z), Same.refl _, fun _ h => h, fun _ _ h _ => h⟩
  | s i =>
    obtain ⟨y, ey, e⟩ := bindS e
    cases e
    obtain ⟨G', ρ', s', g', q, m⟩ := s.fz s.at_.dm (Go.refl G H ρ) (show RfR σ H G H (owns ρ) v (.s i) from h) ey
    exact ⟨G', ρ', s', g.trans g', q, (fun _ z => by cases z), m, g'.ow, fun a h1 h2 h3 => noneOf fun z => (g'.fr a z h2).elim h1 h3⟩
theorem Sv.setR {K : PySem.W.Frag} {W : Wd} {σ : L2.St} {G H H0 : Hp} {ρ : Env} {r r' : AE} {rf : Rf} {v : V} (s : Sv K O W σ G H ρ r) (s0 : ∀ b, W.H b ≠ none → H0 b ≠ none) (h : RfR σ H0 G H (owns ρ) v rf) (hn : ∀ i, rf ≠ .s i) (e : setR r i rf = some r') :
    ∃ ρ', Sv K O W (σ.set i (some v)) G H ρ' r' ∧ ∀ a ∈ owns ρ', a ∈ owns ρ ∨ (v = .ref a ∧ ∃ ds, rf = .f ds) := by
  cases rf with
  | v d => cases e; exact ⟨_, s.setV h, fun a z => .inl (owns_sub_set rfl a z)⟩
  | s j => exact absurd rfl (hn j)
  | f ds =>
    cases e
    obtain ⟨a, vs, rfl, h1, h2, h3, h4, h5⟩ := h
    have hw : W.H a = none := noneOf fun z => s0 a z h3
    have hO : a ∉ O := fun z => s.wh a z hw
    refine ⟨ρ.set i (.own a ds), ⟨s.wo, s.wh, s.at_.setO i h1 h4 h2 hw h5, ?_⟩, fun b z => (owns_set_sub z).imp id fun q => ?_⟩
    · rw [er_set, s.er]
      show r.set i (if a ∈ O then As.twn ds else .own ds) = _
      rw [if_neg hO]
    · rw [List.mem_singleton.mp q]; exact ⟨rfl, ds, rfl⟩
theorem s_setA (hA : PS X (.Assign [.Name x p] e pos) (tAsg (TEV X.K O g) (gName i))) : ESt X O (.Assign [.Name x p] e pos) (fun r => (g r).bind fun x => if i < x.2.length then (setR x.2 i x.1).bind fun r' => some (.nx r') else none) :=
  psImp hA fun B σ H ⟨W, G, ρ, r, x, s, em, k⟩ => by
    obtain ⟨x1, ex, em⟩ := bindS em
    split at em
    case isFalse => cases em
    obtain ⟨r', er', em⟩ := bindS em
    cases em
    refine ⟨W, G, ρ, r, x1, s, ex, fun v G1 H1 ρ1 s1 t1 q1 => ?_⟩
    obtain ⟨rf, r1⟩ := x1
    cases rf with
    | v d =>
      obtain ⟨ρ2, s2, _⟩ := s1.setR s.at_.dm q1 (fun _ z => by cases z) er'
      exact k _ G1 H1 ρ2 s2 t1.gg
    | f ds =>
      obtain ⟨ρ2, s2, _⟩ := s1.setR s.at_.dm q1 (fun _ z => by cases z) er'
      exact k _ G1 H1 ρ2 s2 t1.gg
    | s j =>
      obtain ⟨y, ey, er'⟩ := bindS er'
      cases er'
      obtain ⟨G2, ρ2, s2, t2, q2, m2⟩ := s1.fz s.at_.dm t1 q1 ey
      exact k _ G2 H1 _ (s2.setV q2) t2.gg
theorem s_set (hN : X.N.Nodup) (hi : X.N[i]? = some x) (hx : Loc X.env.scope x) (hf : X.fn x = true ∨ X.env.scope.names.lookup x = some .local) (h : EV X O e g) (hs : swapsWith e (some (.Name x p)) pos.line X.env = pure false) :
    ESt X O (.Assign [.Name x p] e pos) (fun r => (g r).bind fun x => if i < x.2.length then (setR x.2 i x.1).bind fun r' => some (.nx r') else none) := s_setA (ps_set hN hi hx h hs hf)
theorem s_unp {tg : Expr} {is : List Nat} {ga : D → AE → Option AE} (h : EV X O e g) (hg : PG X tg (TGA X.K O is ga)) (ht : okT1 tg = true) (hs : swapsWithSole [tg] e pos.line X.env = pure false) (hw : swappedStores [tg] e X.env = pure none) :
    ESt X O (.Assign [tg] e pos) (fun r => (g r).bind fun x => (fz x.2 x.1).bind fun y => (ga y.1 y.2).bind fun r' => some (.nx r')) :=
  psImp (ps_asg h.d hg hs hw (asg_ok ht)) fun B σ H ⟨W, G, ρ, r, x, s, em, k⟩ => by
    obtain ⟨x1, ex, em⟩ := bindS em
    obtain ⟨y1, ey, em⟩ := bindS em
    obtain ⟨r', er', em⟩ := bindS em
    cases em
    exact ⟨W, G, ρ, r, y1, s, by show (g r).bind _ = _; rw [ex]; exact ey, fun v G1 H1 ρ1 s1 t1 q1 => ⟨W, G1, y1.1, ρ1, y1.2, r', s1, q1, er', fun σ2 ρ2 z2 l2 s2 o2 => k σ2 G1 H1 ρ2 s2 t1.gg⟩⟩
abbrev gPar (i j : Nat) (g1 g2 : AE → Option (Rf × AE)) : AE → Option Out := fun r => (g1 r).bind fun x => (g2 x.2).bind fun y => (nos y.2 x.1).bind fun x' => (nos x'.2 y.1).bind fun y' => if i ≠ j ∧ i < y'.2.length ∧ j < y'.2.length then
      (setR y'.2 i x'.1).bind fun r1 => (setR r1 j y'.1).bind fun r2 => some (.nx r2) else none
theorem par_core : ∀ B σ H, TSB X.K O (gPar i j g1 g2) B σ H → tPar i j (tCons (TEV X.K O g1) (tCons (TEV X.K O g2) tNil)) B σ H :=
  fun B σ H ⟨W, G, ρ, r, x, s, em, k⟩ => by
    obtain ⟨x1, ex, em⟩ := bindS em
    obtain ⟨y1, ey, em⟩ := bindS em
    obtain ⟨x2, ex2, em⟩ := bindS em
    obtain ⟨y2, ey2, em⟩ := bindS em
    split at em
    case isFalse => cases em
    obtain ⟨r1, er1, em⟩ := bindS em
    obtain ⟨r2, er2, em⟩ := bindS em
    cases em
    refine ⟨W, G, ρ, r, x1, s, ex, fun v G1 H1 ρ1 s1 t1 q1 => ⟨W, G1, ρ1, _, y1, s1, ey, fun u G2 H2 ρ2 s2 t2 q2 => ⟨v, u, rfl, ?_⟩⟩⟩
    -- the left one, no more a slot
    obtain ⟨G3, ρ3, s3, t3, q3, n3, m3, o3, k3⟩ := nos_is s2 s.at_.dm (t1.trans t2) (q1.go t2) ex2
    -- the right one stands as it did
    have q2' : RfR σ H1 G3 H2 (owns ρ3) u y1.1 := by
      obtain ⟨yf, yr⟩ := y1
      cases yf with
      | v d => exact dqMono m3 q2
      | s i => exact q2
      | f ds =>
        obtain ⟨a, us, rfl, l1, l2, l3, l4, l5⟩ := q2
        exact ⟨a, us, rfl, l1, k3 a (by rw [l1]; simp) l2 l4, l3, fun z => l4 (o3 a z), dqAMono m3 l5⟩
    obtain ⟨G4, ρ4, s4, t4, q4, n4, m4, o4, k4⟩ := nos_is s3 s.at_.dm t3 (q2'.pre fun _ => t1.gone) ey2
    have q3' : RfR σ H G4 H2 (owns ρ4) v x2.1 := by
      obtain ⟨xf, xr⟩ := x2
      cases xf with
      | v d => exact dqMono m4 q3
      | s i => exact absurd rfl (n3 i)
      | f ds =>
        obtain ⟨a, us, rfl, l1, l2, l3, l4, l5⟩ := q3
        exact ⟨a, us, rfl, l1, k4 a (by rw [l1]; simp) l2 l4, l3, fun z => l4 (o4 a z), dqAMono m4 l5⟩
    obtain ⟨ρ5, s5, o5⟩ := s4.setR s.at_.dm q3' n3 er1
    -- the two new lists stand apart
    have q5 : RfR (σ.set i (some v)) H G4 H2 (owns ρ5) u y2.1 := by
      obtain ⟨yf, yr⟩ := y2
      cases yf with
      | v d => exact q4
      | s i => exact absurd rfl (n4 i)
      | f ds =>
        obtain ⟨a, us, rfl, l1, l2, l3, l4, l5⟩ := q4
        refine ⟨a, us, rfl, l1, l2, l3, fun z => ?_, l5⟩
        rcases o5 a z with z | ⟨z1, es, z2⟩
        · exact l4 z
        · -- then the left one was there when the right one was made
          have ey1 : y1.1 = .f ds := by
            obtain ⟨yf, yr1⟩ := y1
            cases yf with
            | v d => cases ey2
            | f d => cases ey2; rfl
            | s i => obtain ⟨w, _, hw'⟩ := bindS ey2; cases hw'
          have ex1 : x1.1 = .f es := by
            obtain ⟨xf, xr1⟩ := x1
            have z2 : x2.1 = Rf.f es := z2
            cases xf with
            | v d =>
              have h : (Rf.v d, y1.2) = x2 := Option.some.inj ex2
              rw [← h] at z2; cases z2
            | f d =>
              have h : (Rf.f d, y1.2) = x2 := Option.some.inj ex2
              rw [← h] at z2; exact z2
            | s i =>
              obtain ⟨w, _, hw'⟩ := bindS ex2
              have h : (Rf.v w.1, w.2) = x2 := Option.some.inj hw'
              rw [← h] at z2; cases z2
          rw [ex1] at q1
          rw [ey1] at q2
          obtain ⟨a1, us1, e1', l1', _, _, _, _⟩ := q1
          obtain ⟨a2, us2, e2', _, _, l3', _, _⟩ := q2
          cases e2'
          rw [z1] at e1'
          cases e1'
          rw [l1'] at l3'
          cases l3'
    obtain ⟨ρ6, s6, _⟩ := s5.setR s.at_.dm q5 n4 er2
    exact k _ G4 H2 ρ6 s6 t4.gg
theorem s_par {px py pt : Pos} {kt k2 pt2} (hc : X.calm = true) (hN : X.N.Nodup) (hi : X.N[i]? = some x) (hj : X.N[j]? = some y) (hij : i ≠ j)
    (hx : X.env.scope.names.lookup x = some .local) (hy : X.env.scope.names.lookup y = some .local) (hs1 : okE e1 = true) (hs2 : okE e2 = true) (h1 : EV X O e1 g1) (h2 : EV X O e2 g2)
    (hw : swappedStores [.Tuple [.Name x px, .Name y py] kt pt] (.Tuple [e1, e2] k2 pt2) X.env = pure (some [x, y])) (hs : swapsWithSole [.Tuple [.Name x px, .Name y py] kt pt] (.Tuple [e1, e2] k2 pt2) pos.line X.env = pure false) :
    ESt X O (.Assign [.Tuple [.Name x px, .Name y py] kt pt] (.Tuple [e1, e2] k2 pt2) pos) (fun r => (g1 r).bind fun x => (g2 x.2).bind fun y => (nos y.2 x.1).bind fun x' => (nos x'.2 y.1).bind fun y' => if i ≠ j ∧ i < y'.2.length ∧ j < y'.2.length then
      (setR y'.2 i x'.1).bind fun r1 => (setR r1 j y'.1).bind fun r2 => some (.nx r2) else none) :=
  psImp (ps_par hc hN hi hj hij hx hy (pa_cons h1 (pa_cons h2 pa_nil (star_ok hs2)) (star_ok hs1)) hw hs) par_core
theorem s_parT {px py pt : Pos} {kt k2 pt2} (hc : X.calm = true) (hN : X.N.Nodup) (hi : X.N[i]? = some x) (hj : X.N[j]? = some y)
    (hx : Loc X.env.scope x) (hy : Loc X.env.scope y) (fx : X.fn x = true ∨ X.env.scope.names.lookup x = some .local) (fy : X.fn y = true ∨ X.env.scope.names.lookup y = some .local) (hs1 : okE e1 = true) (hs2 : okE e2 = true) (h1 : EV X O e1 g1) (h2 : EV X O e2 g2)
    (hw : swappedStores [.Tuple [.Name x px, .Name y py] kt pt] (.Tuple [e1, e2] k2 pt2) X.env = pure none) (hs : swapsWithSole [.Tuple [.Name x px, .Name y py] kt pt] (.Tuple [e1, e2] k2 pt2) pos.line X.env = pure false) :
    ESt X O (.Assign [.Tuple [.Name x px, .Name y py] kt pt] (.Tuple [e1, e2] k2 pt2) pos) (gPar i j g1 g2) :=
  psImp (ps_parT hc hN hi hj hx hy fx fy (pa_cons h1 (pa_cons h2 pa_nil (star_ok hs2)) (star_ok hs1)) hw hs) par_core
theorem s_app {apos : Pos} (i : Nat) (hN : X.N[i]? = some x) (hv : Vis X.env.scope x) (hs : okE e = true) (hl : (apos.endLine == p.line) = true) (h1 : EV X O e g) (hd : (x == ("__debug__" : Str)) = false) (hcd : (x == ("__classdict__" : Str)) = false) :
    ESt X O (.Expr (.Call (.Attribute (.Name x p2) "append" apos) [e] [] p) pos) (fun r => if okO r i = true then (g r).bind fun x => (fz x.2 x.1).bind fun y => (y.2[i]?).bind fun s => (isO s).bind fun ds => (dApp ds y.1).bind fun ds' => some (.nx (y.2.set i (upO s ds'))) else none) :=
  psImp (ps_expr (pe_bm PySem.F.plainAttrs_list PySem.F.slot_list_append PySem.F.type_list_append mt_append (pe_var hN hv hd hcd) (pa_cons h1.d pa_nil (star_ok hs)) rfl (few1 hs) hl (star_ok hs) rfl)) fun B σ H ⟨W, G, ρ, r, x, s, em, k⟩ => by
    dsimp only at em
    split at em
    case isFalse => cases em
    rename_i ok
    obtain ⟨c, t0, vt0, hb0, hb1, hb2, _⟩ := okO_is s ok
    obtain ⟨x1, ex, em⟩ := bindS em
    obtain ⟨y, ey, em⟩ := bindS em
    obtain ⟨a, ha, em⟩ := bindS em
    obtain ⟨ds, hds, em⟩ := bindS em
    obtain ⟨ds', hds', em⟩ := bindS em
    cases em
    refine ⟨_, hb1, .inl ⟨rfl, _, .inl (.inl hb2)⟩, W, G, ρ, r, y, s, by show (g r).bind _ = _; rw [ex]; exact ey, fun u G1 H1 ρ1 s1 t1 q1 => ?_⟩
    obtain ⟨c', k3, k4⟩ := s1.own ha hds
    obtain ⟨k5, k6, vts, k7, k8⟩ := s1.at_.getO k3
    rw [hb1] at k5
    cases k5
    unfold dApp at hds'
    split at hds'
    · rename_i hz
      cases hds'
      obtain ⟨s2, t2⟩ := s1.mut k3 k4 (DqA.app k8 (.cons q1 .nil))
      exact ⟨c, vts, u, rfl, rfl, k7, by rw [lineEq, DqA.len k8]; exact hz, k _ G1 _ _ s2 t1.gg⟩
    · cases hds'
theorem s_ext {apos : Pos} (i : Nat) (hN : X.N[i]? = some x) (hv : Vis X.env.scope x) (hs : okE e = true) (hl : (apos.endLine == p.line) = true) (h1 : EV X O e g) (hd : (x == ("__debug__" : Str)) = false) (hcd : (x == ("__classdict__" : Str)) = false) :
    ESt X O (.Expr (.Call (.Attribute (.Name x p2) "extend" apos) [e] [] p) pos) (fun r => if okO r i = true then (g r).bind fun x => (fz x.2 x.1).bind fun y => (y.2[i]?).bind fun s => (isO s).bind fun ds => (dExt ds y.1).bind fun ds' => some (.nx (y.2.set i (upO s ds'))) else none) :=
  psImp (ps_expr (pe_bm PySem.F.plainAttrs_list PySem.F.slot_list_extend PySem.F.type_list_extend mt_extD (pe_var hN hv hd hcd) (pa_cons h1.d pa_nil (star_ok hs)) rfl (few1 hs) hl (star_ok hs) rfl)) fun B σ H ⟨W, G, ρ, r, x, s, em, k⟩ => by
    dsimp only at em
    split at em
    case isFalse => cases em
    rename_i ok
    obtain ⟨c, t0, vt0, hb0, hb1, hb2, _⟩ := okO_is s ok
    obtain ⟨x1, ex, em⟩ := bindS em
    obtain ⟨y, ey, em⟩ := bindS em
    obtain ⟨a, ha, em⟩ := bindS em
    obtain ⟨ds, hds, em⟩ := bindS em
    obtain ⟨ds', hds', em⟩ := bindS em
    cases em
    refine ⟨_, hb1, .inl ⟨rfl, _, .inl (.inl hb2)⟩, W, G, ρ, r, y, s, by show (g r).bind _ = _; rw [ex]; exact ey, fun u G1 H1 ρ1 s1 t1 q1 => ?_⟩
    obtain ⟨c', k3, k4⟩ := s1.own ha hds
    obtain ⟨k5, k6, vts, k7, k8⟩ := s1.at_.getO k3
    rw [hb1] at k5
    cases k5
    obtain ⟨d, yr⟩ := y
    cases d with
    | list fs =>
      have hds' : (if ds.length + fs.length ≤ lineN then some (ds ++ fs) else none) = some ds' := hds'
      split at hds'
      · rename_i hz
        cases hds'
        cases q1 with
        | lst gq q =>
          obtain ⟨s2, t2⟩ := s1.mut k3 k4 (DqA.app k8 q)
          exact ⟨c, _, vts, _, rfl, rfl, k7, .inl (s1.at_.gh _ _ gq), by rw [lineEq, DqA.len k8, DqA.len q]; exact hz, k _ G1 _ _ s2 t1.gg⟩
      · cases hds'
    | tuple fs =>
      have hds' : (if ds.length + fs.length ≤ lineN then some (ds ++ fs) else none) = some ds' := hds'
      split at hds'
      · rename_i hz
        cases hds'
        cases q1 with
        | tup gq q =>
          obtain ⟨s2, t2⟩ := s1.mut k3 k4 (DqA.app k8 q)
          exact ⟨c, _, vts, _, rfl, rfl, k7, .inr (.inl (.inl (s1.at_.gh _ _ gq))), by rw [lineEq, DqA.len k8, DqA.len q]; exact hz, k _ G1 _ _ s2 t1.gg⟩
      · cases hds'
    | _ => cases hds'
theorem s_put {ps : Pos} (i : Nat) (hN : X.N[i]? = some x) (hv : Vis X.env.scope x) (hs1 : okE e1 = true) (h : EV X O e g) (h1 : EV X O e1 g1) (hd : (x == ("__debug__" : Str)) = false) (hcd : (x == ("__classdict__" : Str)) = false)
    (hs : swapsWithSole [.Subscript (.Name x p) e1 ps] e pos.line X.env = pure false) (hw : swappedStores [.Subscript (.Name x p) e1 ps] e X.env = pure none) :
    ESt X O (.Assign [.Subscript (.Name x p) e1 ps] e pos) (fun r => (g r).bind fun x => (fz x.2 x.1).bind fun y => if okO y.2 i = true then (g1 y.2).bind fun z => (dr z.2 z.1).bind fun j => (z.2[i]?).bind fun s => (isO s).bind fun ds => (dPut ds j y.1).bind fun ds' => some (.nx (z.2.set i (upO s ds'))) else none) :=
  psImp (ps_asg h.d (pg_sub (pe_var hN hv hd hcd) h1 set_list (by intro v; cases e1 <;> first | rfl | cases hs1)) hs hw (asg_ok rfl)) fun B σ H ⟨W, G, ρ, r, x, s, em, k⟩ => by
    obtain ⟨x1, ex, em⟩ := bindS em
    obtain ⟨y, ey, em⟩ := bindS em
    split at em
    case isFalse => cases em
    rename_i ok
    obtain ⟨z, ez, em⟩ := bindS em
    obtain ⟨jj, ej, em⟩ := bindS em
    obtain ⟨a, ha, em⟩ := bindS em
    obtain ⟨ds, hds, em⟩ := bindS em
    obtain ⟨ds', hds', em⟩ := bindS em
    cases em
    refine ⟨W, G, ρ, r, y, s, by show (g r).bind _ = _; rw [ex]; exact ey, fun v G1 H1 ρ1 s1 t1 q1 => ?_⟩
    obtain ⟨c, t0, vt0, hb0, hb1, hb2, _⟩ := okO_is s1 ok
    refine ⟨_, hb1, W, G1, ρ1, _, z, s1, ez, fun u G2 H2 ρ2 s2 t2 q2 => ?_⟩
    obtain ⟨c', k3, k4⟩ := s2.own ha hds
    obtain ⟨k5, k6, vts, k7, k8⟩ := s2.at_.getO k3
    rw [hb1] at k5
    cases k5
    cases jj with
    | int q =>
      obtain ⟨n, en, hds'⟩ := bindS hds'
      cases hds'
      obtain ⟨s3, t3⟩ := s2.mut (es := ds.set n y.1) k3 k4 (DqA.set (dqMono t2.gg q1) n k8)
      exact ⟨c, vts, q, n, rfl, hdInt (s2.dr q2 ej), k7, by rw [DqA.len k8]; exact en, k _ G2 _ _ s3 (t1.trans t2).gg⟩
    | _ => cases hds'
theorem s_drop (h : EV X O e g) (hs : swapsWith e none pos.line X.env = pure false) : ESt X O (.Expr e pos) (fun r => (g r).bind fun x => some (.nx x.2)) :=
  psImp (ps_expr h hs) fun B σ H ⟨W, G, ρ, r, x, s, em, k⟩ => by
    obtain ⟨x1, ex, em⟩ := bindS em
    cases em
    exact ⟨W, G, ρ, r, x1, s, ex, fun v G1 H1 ρ1 s1 t1 q1 => k σ G1 H1 ρ1 s1 t1.gg⟩
theorem s_ret (h : EV X O e g) : ESt X O (.Return (some e) pos) (fun r => (g r).bind fun x => retR x.2 x.1) :=
  psImp (ps_ret h) fun B σ H ⟨W, G, ρ, r, x, s, em, k⟩ => by
    obtain ⟨x1, ex, em⟩ := bindS em
    refine ⟨W, G, ρ, r, x1, s, ex, fun v G1 H1 ρ1 s1 t1 q1 => ?_⟩
    obtain ⟨rf, r1⟩ := x1
    cases rf with
    | v d => cases em; exact k v σ G1 H1 ρ1 s1 t1.gg q1
    | f ds =>
      cases em
      obtain ⟨a, vs, rfl, h1, h2, h3, h4, h5⟩ := q1
      exact k _ σ G1 H1 ρ1 s1 t1.gg ⟨a, vs, rfl, h1, h2, noneOf fun z => s.at_.dm a z h3, h5⟩
    | s j =>
      simp only [retR] at em
      split at em
      · rename_i ds q
        cases em
        obtain ⟨c, q2, q3⟩ := s1.own q (ds := ds) rfl
        have hc : c ∉ O := fun z => by rw [if_pos z] at q3; cases q3
        have hw : W.H c = none := by
          rcases s1.at_.ow c (mem_owns q2) with z | z
          · rw [s1.wo] at z; exact absurd z hc
          · exact z
        obtain ⟨h1, hg, vs, h3, h4⟩ := s1.at_.getO q2
        have hh : σ[j]? = some (some v) := q1
        rw [h1] at hh
        cases hh
        have s2 : Sv X.K O W (σ.set j none) G1 H1 (ρ1.set j .no) (r1.set j .no) := ⟨s1.wo, s1.wh, s1.at_.setN none j, by rw [er_set, s1.er]; rfl⟩
        exact k _ _ G1 H1 _ s2 t1.gg ⟨c, vs, rfl, h3, hg, hw, h4⟩
      · rename_i d q
        cases em
        obtain ⟨v', h1, h2⟩ := s1.at_.get (s1.val q)
        have hh : σ[j]? = some (some v) := q1
        rw [h1] at hh
        cases hh
        exact k _ σ G1 H1 ρ1 s1 t1.gg h2
      · cases em
theorem s_if {c : Expr} {b : AE → Option (Bool × AE)} (hc : EVT X O c b) (ha : ESs X O ba m1) (hb : ESs X O bb m2) : ESt X O (.If c ba bb pos) (fun r => (b r).bind fun t => if t.1 = true then m1 t.2 else m2 t.2) :=
  psImp (ps_if hc ha hb) fun B σ H ⟨W, G, ρ, r, x, s, em, k⟩ => by
    obtain ⟨⟨z, r1⟩, ez, em⟩ := bindS em
    refine ⟨W, G, ρ, r, _, s, ez, fun G1 H1 ρ1 s1 t1 => ?_⟩
    cases z with
    | true => exact iteT ⟨W, G1, ρ1, _, x, s1, em, k.mono t1.gg⟩
    | false => exact iteF ⟨W, G1, ρ1, _, x, s1, em, k.mono t1.gg⟩
theorem s_for {tg it : Expr} {is : List Nat} {ga : D → AE → Option AE} {gi : AE → Option (List D × AE)} (hp : PassesOwn (model X.prog X.w) X.A X.env X.xe) (hc : X.calm = true) (hi : EVI X O tg it gi) (hg : PG X tg (TGA X.K O is ga)) (hb : ESs X O ba m) (hs : okE it = true) :
    ESt X O (.For tg it ba [] pos) (fun r => (gi r).bind fun xs => forA ga m xs.1 xs.2) := by
  refine psImp (ps_for hp hc hi hg hb (fold_ok hs)) fun Bn σ H ⟨W, G, ρ, r, x, s, em, k⟩ => ?_
  obtain ⟨xs, exs, em⟩ := bindS em
  refine ⟨W, G, ρ, r, xs, s, exs, fun J G1 H1 ρ1 s1 t1 itr => ?_⟩
  refine ⟨fun i n σ' H' => n = xs.1.length - i ∧ i ≤ xs.1.length ∧ ∃ G' ρ' r', Sv X.K O W σ' G' H' ρ' r' ∧ Same G1 G' ∧ forA ga m (xs.1.drop i) r' = some x, ⟨xs.1.length, by simp, Nat.zero_le _, G1, ρ1, xs.2, s1, Same.refl _, em⟩, ?_⟩
  rintro i n σ' H' ⟨rfl, hle, G', ρ', r', s2, g2, ef⟩
  obtain ⟨jg, jy, js⟩ := itr G' H' i g2 s2.at_.gh
  by_cases hlt : i < xs.1.length
  case neg =>
    have ei : i = xs.1.length := by omega
    subst ei
    rw [List.drop_length] at ef
    cases ef
    exact .inl ⟨js (Nat.le_refl _), k σ' G' H' ρ' s2 (t1.gg.trans g2)⟩
  have ex : xs.1[i]? = some xs.1[i] := List.getElem?_eq_getElem hlt
  rw [List.drop_eq_getElem_cons hlt] at ef
  obtain ⟨r1, eg, ef⟩ := bindS ef
  obtain ⟨o, eo, ef⟩ := bindS ef
  refine .inr ⟨jg _ ex, fun σ3 H3 => i + 1 ≤ xs.1.length ∧ ∃ G' ρ' r', Sv X.K O W σ3 G' H3 ρ' r' ∧ Same G1 G' ∧ forA ga m (xs.1.drop (i + 1)) r' = some x, fun σ3 H3 nn => ⟨xs.1.length - (i + 1), by omega, rfl, nn⟩, fun y H3 y3 => ?_⟩
  obtain ⟨G3, g3, hx⟩ := jy _ _ _ ex y3
  obtain ⟨s3, t3⟩ := s2.gro g3
  refine ⟨W, G3, xs.1[i], ρ', r', r1, s3, hx, eg, fun σ4 ρ4 z4 l4 s4 o4 => ⟨W, G3, ρ4, r1, o, s4, eo, ?_⟩⟩
  cases o with
  | nx r2 => exact fun σ5 G5 H5 ρ5 s5 g5 => ⟨hlt, G5, ρ5, r2, s5, g2.trans (t3.gg.trans g5), ef⟩
  | rt rf r2 => cases ef; exact fun v σ5 G5 H5 ρ5 s5 g5 hv => k v σ5 G5 H5 ρ5 s5 (t1.gg.trans (g2.trans (t3.gg.trans g5))) hv
theorem s_while {c : Expr} {b : AE → Option (Bool × AE)} (hp : PassesOwn (model X.prog X.w) X.A X.env X.xe) (hc : EVT X O c b) (hb : ESs X O ba m) : ESt X O (.While c ba [] pos) (fun r => whA b m r) := by
  refine psImp (ps_while hp hc hb) fun Bn σ H ⟨W, G, ρ, r, x, s, em, k⟩ => ?_
  obtain ⟨n0, em⟩ := whA_is em
  refine ⟨fun n σ' H' => ∃ G' ρ' r', Sv X.K O W σ' G' H' ρ' r' ∧ Same G G' ∧ whN b m n r' = some x, ⟨n0, G, ρ, r, s, Same.refl _, em⟩, ?_⟩
  rintro n σ' H' ⟨G', ρ', r', s2, g2, ef⟩
  cases n with
  | zero => cases ef
  | succ n =>
    obtain ⟨⟨t, r1⟩, eb, ef⟩ := bindS ef
    refine ⟨W, G', ρ', r', _, s2, eb, fun G3 H3 ρ3 s3 t3 => ?_⟩
    cases t with
    | true =>
      obtain ⟨o, eo, ef⟩ := bindS ef
      refine iteT ⟨fun σ4 H4 => ∃ G' ρ' r', Sv X.K O W σ4 G' H4 ρ' r' ∧ Same G G' ∧ whN b m n r' = some x, fun σ4 H4 h => ⟨n, Nat.lt_succ_self _, h⟩, W, G3, ρ3, r1, o, s3, eo, ?_⟩
      cases o with
      | nx r2 => exact fun σ5 G5 H5 ρ5 s5 g5 => ⟨G5, ρ5, r2, s5, g2.trans (t3.gg.trans g5), ef⟩
      | rt rf r2 => cases ef; exact fun v σ5 G5 H5 ρ5 s5 g5 hv => k v σ5 G5 H5 ρ5 s5 (g2.trans (t3.gg.trans g5)) hv
    | false =>
      cases ef
      exact iteF (k σ' G3 H3 ρ3 s3 (g2.trans t3.gg))
theorem s_doc {x j pos pos'} : ESt X O (.Expr (.Constant (.str x) j pos) pos') (fun r => some (.nx r)) :=
  psImp ps_doc fun B σ H ⟨W, G, ρ, r, x, s, em, k⟩ => by cases em; exact k σ G H ρ s (Same.refl _)
end
end Pd

set_option Elab.async false
set_option linter.all false
set_option maxRecDepth 100000
set_option maxHeartbeats 4000000
namespace Pd
open PySem PySem.Spec PyProof.Rows L2
def dbgB (x : Str) : Bool := !(x == ("__debug__" : Str)) && !(x == ("__classdict__" : Str))
def visB (sc : Scope) (x : Str) : Bool := match sc.names.lookup x with
  | some .local => true
  | some .cell => true
  | some .free => true
  | _ => false
def locB (sc : Scope) (x : Str) : Bool := match sc.names.lookup x with
  | some .local => true
  | some .cell => true
  | _ => false
def isLoc (sc : Scope) (x : Str) : Bool := match sc.names.lookup x with
  | some .local => true
  | _ => false
def glB (sc : Scope) (x : Str) : Bool := match sc.names.lookup x with
  | some .globalImplicit => true
  | _ => false
def nmB (N : List Str) (i : Nat) (x : Str) : Bool := match N[i]? with
  | some y => decide (y = x)
  | none => false
def nmOk (N : List Str) (sc : Scope) (i : Nat) (x : Str) : Bool := nmB N i x && (visB sc x && dbgB x)
def tE : Expr → Bool
  | .BoolOp _ _ _ => false
  | .UnaryOp .Not _ _ => false
  | .IfExp _ _ _ _ => false
  | .Compare _ _ _ _ => false
  | _ => true
def opB : Operator → Operator → Bool := fun a b => decide (a = b)
def cpB : CmpOp → CmpOp → Bool := fun a b => decide (a = b)
def stB (a b : Str) : Bool := decide (a = b)
def Irs.len : Irs → Nat
  | .nil => 0
  | .cons _ r => r.len + 1
def tgS : Tg → List Nat
  | .n i => [i]
  | .t2 a b => tgS a ++ (tgS b ++ [])
  | .t3 a b c => tgS a ++ (tgS b ++ (tgS c ++ []))
  | .t4 a b c d => tgS a ++ (tgS b ++ (tgS c ++ (tgS d ++ [])))
def ownP (N : List Str) (own : List Nat) : List (Str × Nat) := own.map fun i => (N.getD i "", i)
section
variable (Tw : String → Option Bool) (N : List Str)
def chkG (ok : Str → Bool) (sc : Scope) : Tg → Expr → Bool
  | .n i, .Name x _ => nmB N i x && (locB sc x && ok x)
  | .t2 a b, .Tuple [x, y] _ _ => (okT1 x && okT1 y) && (chkG ok sc a x && chkG ok sc b y)
  | .t3 a b c, .Tuple [x, y, z] _ _ => (okT1 x && (okT1 y && okT1 z)) && (chkG ok sc a x && (chkG ok sc b y && chkG ok sc c z))
  | .t4 a b c d, .Tuple [x, y, z, w] _ _ => (okT1 x && (okT1 y && (okT1 z && okT1 w))) && (chkG ok sc a x && (chkG ok sc b y && (chkG ok sc c z && chkG ok sc d w)))
  | _, _ => false
def twB (f : String) (b : Bool) : Bool := match Tw f with
  | some c => c == b
  | none => false
def okBlk (scope sc : Scope) (x : Str) : Bool := (scope.names.lookup x == some .cell) || isLoc (relS scope sc) x
def glN (sc : Scope) (f g : Str) : Bool := stB f g && (glB sc f)
mutual
def chkE : Nat → Scope → Expr → Ir → Bool
  | 0, _, _, _ => false
  | n + 1, sc, e, ir => match ir with
    | .int i => (match e with
      | .Constant (.int j) _ _ => decide (i = j)
      | _ => false)
    | .bl i => (match e with
      | .Constant (.bool j) _ _ => decide (i = j)
      | _ => false)
    | .non => (match e with
      | .Constant .none _ _ => true
      | _ => false)
    | .str s => (match e with
      | .Constant (.str t) _ _ => stB t (Str.ofString s)
      | _ => false)
    | .nm i => (match e with
      | .Name x _ => nmOk N sc i x
      | _ => false)
    | .bin o x y => (match e with
      | .BinOp a op b _ => opB op (bopO o) && (chkE n sc a x && chkE n sc b y)
      | _ => false)
    | .neg x => (match e with
      | .UnaryOp .USub a _ => chkE n sc a x
      | _ => false)
    | .cmp o x y => (match e with
      | .Compare a [op] [b] _ => cpB op (copO o) && (okE b && (chkE n sc a x && chkE n sc b y))
      | _ => false)
    | .ch2 o o' x y z => (match e with
      | .Compare a [op, op'] [b, c] _ => cpB op (copO o) && (cpB op' (copO o') && (okE c && (chkE n sc a x && (chkE n sc b y && chkE n sc c z))))
      | _ => false)
    | .and x y => (match e with
      | .BoolOp .And (a :: b :: rest) p => chkE n sc a x && chkB n sc .And (b :: rest) y
      | _ => false)
    | .or x y => (match e with
      | .BoolOp .Or (a :: b :: rest) p => chkE n sc a x && chkB n sc .Or (b :: rest) y
      | _ => false)
    | .not x => (match e with
      | .UnaryOp .Not a _ => chkE n sc a x
      | _ => false)
    | .ite c x y => (match e with
      | .IfExp t a b _ => chkT n sc t c && (chkE n sc a x && chkE n sc b y)
      | _ => false)
    | .tup es => (match e with
      | .Tuple l _ _ => decide (es.len ≤ 1000) && chkL n sc l es
      | _ => false)
    | .lst es => (match e with
      | .List l _ => decide (es.len ≤ 1000) && chkL n sc l es
      | _ => false)
    | .ix x y => (match e with
      | .Subscript a b _ => okE b && (chkE n sc a x && chkE n sc b y)
      | _ => false)
    | .cut x lo hi => (match e with
      | .Subscript a (.Slice l h none _) _ => chkE n sc a x && (chkO n sc l lo && chkO n sc h hi)
      | _ => false)
    | .rev x => (match e with
      | .Subscript a (.Slice none none (some (.UnaryOp .USub (.Constant (.int 1) _ _) _)) _) _ => chkE n sc a x
      | _ => false)
    | .call f es => (match e with
      | .Call (.Name g _) (a :: rest) [] _ => (glN sc g (Str.ofString f) && dbgB g) && (twB Tw f false && (okE a && (rest.all okE && chkL n sc (a :: rest) es)))
      | _ => false)
    | .callT f i j es => (match e with
      | .Call (.Name g _) (.Name y _ :: .Name z _ :: rest) [] _ => (glN sc g (Str.ofString f) && dbgB g) && (twB Tw f true && ((nmOk N sc i y && nmOk N sc j z) && (rest.all okE && chkL n sc rest es)))
      | _ => false)
    | .bi b x => (match e with
      | .Call (.Name g _) [a] [] _ => glN sc g (biN b) && (okE a && chkE n sc a x)
      | _ => false)
    | .bi2 b x y => (match b with
      | .min2 => (match e with
        | .Call (.Name g _) [a, c] [] _ => glN sc g "min" && ((okE a && okE c) && (chkE n sc a x && chkE n sc c y))
        | _ => false)
      | .max2 => (match e with
        | .Call (.Name g _) [a, c] [] _ => glN sc g "max" && ((okE a && okE c) && (chkE n sc a x && chkE n sc c y))
        | _ => false)
      | .lrg => (match e with
        | .Call (.Name g _) [.Call (.Name h _) [a, c] [] _] [] _ => (glN sc g "list" && glN sc h "range") && ((okE a && okE c) && (chkE n sc a x && chkE n sc c y))
        | .Call (.Name g _) [.Call (.Name h _) [c] [] _] [] _ => (match x with
          | .int 0 => (glN sc g "list" && glN sc h "range") && (okE c && chkE n sc c y)
          | _ => false)
        | _ => false)
      | .trg => (match e with
        | .Call (.Name g _) [.Call (.Name h _) [a, c] [] _] [] _ => (glN sc g "tuple" && glN sc h "range") && ((okE a && okE c) && (chkE n sc a x && chkE n sc c y))
        | .Call (.Name g _) [.Call (.Name h _) [c] [] _] [] _ => (match x with
          | .int 0 => (glN sc g "tuple" && glN sc h "range") && (okE c && chkE n sc c y)
          | _ => false)
        | _ => false))
    | .isi x t => (match e with
      | .Call (.Name g _) [a, .Name h _] [] _ => (glN sc g "isinstance" && glN sc h (tyN2 t)) && (okE a && chkE n sc a x)
      | _ => false)
    | .pop i a => (match e with
      | .Call (.Attribute (.Name x _) m apos) l [] pos => (nmOk N sc i x && (stB m "pop" && (apos.endLine == pos.line))) && (match a with
        | .no => l.isEmpty
        | .yes y => (match l with
          | [b] => okE b && chkE n sc b y
          | _ => false))
      | _ => false)
    | .slen i => (match e with
      | .Call (.Name g _) [.Name x _] [] _ => glN sc g "len" && nmOk N sc i x
      | _ => false)
    | .six i y => (match e with
      | .Subscript (.Name x _) b _ => nmOk N sc i x && (okE b && chkE n sc b y)
      | _ => false)
    | .stru i => false
    | .lc own t it c x => (match e with
      | .ListComp elt [⟨tg, iter, ifs, 0⟩] scope _ => (blkC N sc scope (ownP N own) && ((tgS t).all (fun j => own.contains j) && okE iter)) && ((chkI n sc tg iter it && chkG N (okBlk scope sc) (relS scope sc) t tg) && (chkC n (relS scope sc) ifs c && chkE n (relS scope sc) elt x))
      | _ => false)
def chkB : Nat → Scope → BoolOp → List Expr → Ir → Bool
  | 0, _, _, _, _ => false
  | n + 1, sc, op, l, ir => match l with
    | [] => false
    | [a] => chkE n sc a ir
    | a :: b :: rest => (match op with
      | .And => (match ir with
        | .and x y => chkE n sc a x && chkB n sc .And (b :: rest) y
        | _ => false)
      | .Or => (match ir with
        | .or x y => chkE n sc a x && chkB n sc .Or (b :: rest) y
        | _ => false))
def chkT : Nat → Scope → Expr → Ir → Bool
  | 0, _, _, _ => false
  | n + 1, sc, e, ir => match ir with
    | .and x y => (match e with
      | .BoolOp .And (a :: b :: rest) p => chkT n sc a x && chkTB n sc .And (b :: rest) y
      | _ => false)
    | .or x y => (match e with
      | .BoolOp .Or (a :: b :: rest) p => chkT n sc a x && chkTB n sc .Or (b :: rest) y
      | _ => false)
    | .not x => (match e with
      | .UnaryOp .Not a _ => chkT n sc a x
      | _ => false)
    | .ite _ _ _ => false
    | .stru i => (match e with
      | .Name x _ => nmOk N sc i x
      | _ => false)
    | .cmp o x y => (match e with
      | .Compare a [op] [b] _ => cpB op (copO o) && (okE b && (chkE n sc a x && chkE n sc b y))
      | _ => false)
    | .ch2 o o' x y z => (match e with
      | .Compare a [op, op'] [b, c] _ => cpB op (copO o) && (cpB op' (copO o') && (okE c && (chkE n sc a x && (chkE n sc b y && chkE n sc c z))))
      | _ => false)
    | ir => tE e && chkE n sc e ir
def chkTB : Nat → Scope → BoolOp → List Expr → Ir → Bool
  | 0, _, _, _, _ => false
  | n + 1, sc, op, l, ir => match l with
    | [] => false
    | [a] => chkT n sc a ir
    | a :: b :: rest => (match op with
      | .And => (match ir with
        | .and x y => chkT n sc a x && chkTB n sc .And (b :: rest) y
        | _ => false)
      | .Or => (match ir with
        | .or x y => chkT n sc a x && chkTB n sc .Or (b :: rest) y
        | _ => false))
def chkL : Nat → Scope → List Expr → Irs → Bool
  | 0, _, _, _ => false
  | n + 1, sc, l, es => match es with
    | .nil => l.isEmpty
    | .cons x xs => (match l with
      | a :: rest => okE a && (chkE n sc a x && chkL n sc rest xs)
      | [] => false)
def chkO : Nat → Scope → Option Expr → Iro → Bool
  | 0, _, _, _ => false
  | n + 1, sc, e, o => match o with
    | .no => (match e with
      | none => true
      | some _ => false)
    | .yes x => (match e with
      | some a => chkE n sc a x
      | none => false)
def chkC : Nat → Scope → List Expr → Iro → Bool
  | 0, _, _, _ => false
  | n + 1, sc, e, o => match o with
    | .no => e.isEmpty
    | .yes x => (match e with
      | [a] => chkT n sc a x
      | _ => false)
def chkI : Nat → Scope → Expr → Expr → Iri → Bool
  | 0, _, _, _, _ => false
  | n + 1, sc, tg, e, ir => match ir with
    | .e x => chkE n sc e x
    | .r1 x => (match e with
      | .Call (.Name g _) [a] [] _ => glN sc g "range" && (okE a && chkE n sc a x)
      | _ => false)
    | .r2 x y => (match e with
      | .Call (.Name g _) [a, b] [] _ => glN sc g "range" && ((okE a && okE b) && (chkE n sc a x && chkE n sc b y))
      | _ => false)
    | .rd x y => (match e with
      | .Call (.Name g _) [a, b, .UnaryOp .USub (.Constant (.int 1) _ _) _] [] _ => glN sc g "range" && ((okE a && okE b) && (chkE n sc a x && chkE n sc b y))
      | _ => false)
    | .zip x y => (match tg with
      | .Tuple _ _ _ => (match e with
        | .Call (.Name g _) [a, b] [] _ => glN sc g "zip" && ((okE a && okE b) && (chkE n sc a x && chkE n sc b y))
        | _ => false)
      | _ => false)
    | .enum x => (match tg with
      | .Tuple _ _ _ => (match e with
        | .Call (.Name g _) [a] [] _ => glN sc g "enumerate" && (okE a && chkE n sc a x)
        | _ => false)
      | _ => false)
    | .scr i => (match e with
      | .Name x _ => nmOk N sc i x
      | _ => false)
end
end
end Pd

set_option Elab.async false
set_option linter.all false
set_option maxRecDepth 100000
set_option maxHeartbeats 8000000
namespace Pd
open PySem PySem.Spec PyProof.Rows L2
def bltL : List Str := ["len", "abs", "tuple", "list", "sum", "all", "any", "max", "min", "sorted", "int", "str", "range", "isinstance", "zip", "enumerate", "bool"]
structure Cg (Tw : String → Option Bool) (cl : Cl) (k : Nat) (N : List Str) (ok : Str → Bool) (sc : Scope) (X : Cx) : Prop where
  n : X.N = N
  nd : N.Nodup
  sc_ : X.env.scope = sc
  kind : sc.kind = .function
  calm : X.calm = true
  room : Room k X.A
  fn : ∀ x, ok x = true → X.fn x = true ∨ X.env.scope.names.lookup x = some .local
  xe : X.xe = fun _ _ => False
  nf : ∀ b ∈ bltL, X.mg b = none
  cal : ∀ f t, Tw f = some t → CalX X k (Str.ofString f) t (cl f)
section
variable {Tw : String → Option Bool} {cl : Cl} {k : Nat} {N : List Str} {ok : Str → Bool} {sc : Scope} {X : Cx} {O : List Addr}
theorem Cg.hu (C : Cg Tw cl k N ok sc X) : X.A.units + 65 < cLine := by have := C.room.un; omega
theorem nm_is (C : Cg Tw cl k N ok sc X) {i : Nat} {x : Str} (h : nmOk N sc i x = true) : X.N[i]? = some x ∧ Vis X.env.scope x ∧ (x == ("__debug__" : Str)) = false ∧ (x == ("__classdict__" : Str)) = false := by
  obtain ⟨h1, h2⟩ := and2 h
  obtain ⟨h2, h3⟩ := and2 h2
  obtain ⟨h3, h4⟩ := and2 h3
  refine ⟨?_, ?_, by simpa using h3, by simpa using h4⟩
  · rw [C.n]
    unfold nmB at h1
    split at h1
    · rename_i q; rw [q, of_decide_eq_true h1]
    · cases h1
  · rw [C.sc_]
    unfold visB at h2
    split at h2
    · exact .inl (by assumption)
    · exact .inr (.inl (by assumption))
    · exact .inr (.inr (by assumption))
    · cases h2
theorem gl_is (C : Cg Tw cl k N ok sc X) {f g : Str} (h : glN sc f g = true) : f = g ∧ Gl X f := by
  obtain ⟨h1, h2⟩ := and2 h
  refine ⟨of_decide_eq_true h1, ?_⟩
  unfold glB at h2
  show X.env.scope.names.lookup f = _
  rw [C.sc_]
  split at h2
  · assumption
  · cases h2
theorem loc_is (C : Cg Tw cl k N ok sc X) {x : Str} (h : locB sc x = true) : Loc X.env.scope x := by
  unfold locB at h
  rw [C.sc_]
  split at h
  · exact .inl (by assumption)
  · exact .inr (by assumption)
  · cases h
theorem nmB_is (C : Cg Tw cl k N ok sc X) {i : Nat} {x : Str} (h : nmB N i x = true) : X.N[i]? = some x := by
  rw [C.n]
  unfold nmB at h
  split at h
  · rename_i q; rw [q, of_decide_eq_true h]
  · cases h
theorem tw_is {f : String} {b : Bool} (h : twB Tw f b = true) : Tw f = some b := by
  unfold twB at h
  split at h
  · rename_i c q; rw [q, eq_of_beq h]
  · cases h
theorem EV.is {e : Expr} {g g' : AE → Option (Rf × AE)} (h : EV X O e g) (q : ∀ r, g' r = g r) : EV X O e g' := (funext q : g' = g) ▸ h
theorem EVT.is {e : Expr} {g g' : AE → Option (Bool × AE)} (h : EVT X O e g) (q : ∀ r, g' r = g r) : EVT X O e g' := (funext q : g' = g) ▸ h
theorem EVW.is {e : Expr} {g g' : AE → Option (Bool × AE)} (h : EVW X O e g) (q : ∀ r, g' r = g r) : EVW X O e g' := (funext q : g' = g) ▸ h
theorem EVA.is {e : List Expr} {g g' : AE → Option (List Rf × AE)} (h : EVA X O e g) (q : ∀ r, g' r = g r) : EVA X O e g' := (funext q : g' = g) ▸ h
theorem EVO.is {e : Option Expr} {g g' : AE → Option (Option Int × AE)} (h : EVO X O e g) (q : ∀ r, g' r = g r) : EVO X O e g' := (funext q : g' = g) ▸ h
theorem EVI.is {tg e : Expr} {g g' : AE → Option (List D × AE)} (h : EVI X O tg e g) (q : ∀ r, g' r = g r) : EVI X O tg e g' := (funext q : g' = g) ▸ h
theorem evs_len : ∀ (es : Irs) (r : AE) (x : List Rf × AE), evs cl es r = some x → x.1.length = es.len
  | .nil, r, x, h => by rw [evs] at h; cases h; rfl
  | .cons a es, r, x, h => by
    rw [evs] at h
    obtain ⟨y, ey, h⟩ := bindS h
    obtain ⟨z, ez, h⟩ := bindS h
    cases h
    show (settle y.1 :: z.1).length = es.len + 1
    rw [List.length_cons, evs_len es _ _ ez]
theorem small_line {n : Nat} (h : n ≤ 1000) : n ≤ sizeLine := by rw [lineEq]; exact Nat.le_trans h (by decide)
theorem Cg.blk (C : Cg Tw cl k N ok sc X) {scope : Scope} {own : List (Str × Nat)} (b : BlkOk X.N X.env.scope scope own) (s : Shared) (H : Hp) (Ca : Addr) (cs : List (Str × Addr)) (fp : List Addr) :
    Cg Tw cl k N (okBlk scope sc) (relS scope sc) (X.blk s H scope (compEnvC scope cs Ca X.env) fp) := by
  refine ⟨C.n, C.nd, by rw [← C.sc_]; rfl, b.kind, C.calm, C.room, fun x hx => ?_, rfl, C.nf, fun f t h => ⟨(C.cal f t h).ex⟩⟩
  unfold okBlk at hx
  rw [Bool.or_eq_true] at hx
  rcases hx with hx | hx
  · exact .inl hx
  · refine .inr ?_
    unfold isLoc at hx
    show (relS scope X.env.scope).names.lookup x = _
    rw [C.sc_]
    split at hx
    · assumption
    · cases hx
theorem chkG_ok (C : Cg Tw cl k N ok sc X) : ∀ (t : Tg) (e : Expr), chkG N ok sc t e = true → PG X e (TGA X.K O (tgS t) (asg t))
  | .n i, .Name x p, h => by
    obtain ⟨h1, h2⟩ := and2 h
    obtain ⟨h2, h3⟩ := and2 h2
    exact g_name i (C.n ▸ C.nd) (nmB_is C h1) (loc_is C h2) (C.fn x h3)
  | .t2 a b, .Tuple [x, y] _ _, h => by
    obtain ⟨h1, h2⟩ := and2 h
    obtain ⟨o1, o2⟩ := and2 h1
    obtain ⟨c1, c2⟩ := and2 h2
    exact g_t2 C.calm o1 o2 (chkG_ok C a x c1) (chkG_ok C b y c2)
  | .t3 a b c, .Tuple [x, y, z] _ _, h => by
    obtain ⟨h1, h2⟩ := and2 h
    obtain ⟨o1, o2⟩ := and2 h1
    obtain ⟨o2, o3⟩ := and2 o2
    obtain ⟨c1, c2⟩ := and2 h2
    obtain ⟨c2, c3⟩ := and2 c2
    exact g_t3 C.calm o1 o2 o3 (chkG_ok C a x c1) (chkG_ok C b y c2) (chkG_ok C c z c3)
  | .t4 a b c d, .Tuple [x, y, z, w] _ _, h => by
    obtain ⟨h1, h2⟩ := and2 h
    obtain ⟨o1, o2⟩ := and2 h1
    obtain ⟨o2, o3⟩ := and2 o2
    obtain ⟨o3, o4⟩ := and2 o3
    obtain ⟨c1, c2⟩ := and2 h2
    obtain ⟨c2, c3⟩ := and2 c2
    obtain ⟨c3, c4⟩ := and2 c3
    exact g_t4 C.calm o1 o2 o3 o4 (chkG_ok C a x c1) (chkG_ok C b y c2) (chkG_ok C c z c3) (chkG_ok C d w c4)
theorem tE_ok {e : Expr} {env : PySem.Env} (h : tE e = true) : ∀ whole, isTrue e env whole = (do let v ← whole; standAt e.pos; holding [v] (truthy v)) := by
  intro whole
  cases e with
  | UnaryOp op a p => cases op <;> first | rfl | cases h
  | BoolOp _ _ _ => cases h
  | IfExp _ _ _ _ => cases h
  | Compare _ _ _ _ => cases h
  | _ => rfl
theorem ownP_snd (N : List Str) : ∀ own : List Nat, (ownP N own).map (·.2) = own
  | [] => rfl
  | i :: r => congrArg (i :: ·) (ownP_snd N r)
structure Snd (Tw : String → Option Bool) (cl : Cl) (N : List Str) (O : List Addr) (n : Nat) (sc : Scope) (X : Cx) : Prop where
  e : ∀ e ir, chkE Tw N n sc e ir = true → EV X O e (ev cl ir)
  b : ∀ op l ir p, chkB Tw N n sc op l ir = true → EV X O (.BoolOp op l p) (ev cl ir)
  t : ∀ e ir, chkT Tw N n sc e ir = true → EVT X O e (evT cl ir)
  tb : ∀ op l ir p, chkTB Tw N n sc op l ir = true → EVW X O (.BoolOp op l p) (evT cl ir)
  l : ∀ l es, chkL Tw N n sc l es = true → EVA X O l (evs cl es)
  o : ∀ e o, chkO Tw N n sc e o = true → EVO X O e (evo cl o)
  c : ∀ ifs o, chkC Tw N n sc ifs o = true → PTs X ifs (TTV X.K O (evC cl o))
  i : ∀ tg e it, chkI Tw N n sc tg e it = true → EVI X O tg e (evI cl it)
theorem bltIn {b : Str} (C : Cg Tw cl k N ok sc X) (h : b ∈ bltL := by decide +kernel) : X.mg b = none := C.nf b h
theorem bi_in (b : Bi) : biN b ∈ bltL := by cases b <;> decide +kernel
theorem ty_in (t : Ty) : tyN2 t ∈ bltL := by cases t <;> decide +kernel
theorem snd_lc (n : Nat) (ih : ∀ (X : Cx) (ok : Str → Bool) (sc : Scope), Cg Tw cl k N ok sc X → Snd Tw cl N O n sc X) (C : Cg Tw cl k N ok sc X) {own : List Nat} {t : Tg} {it : Iri} {c : Iro} {x : Ir} {elt tg iter : Expr} {ifs : List Expr} {scope : Scope} {pos : Pos}
    (h1 : blkC N sc scope (ownP N own) = true) (h3 : (tgS t).all (fun j => own.contains j) = true) (h4 : okE iter = true) (h5 : chkI Tw N n sc tg iter it = true) (h7 : chkG N (okBlk scope sc) (relS scope sc) t tg = true) (h6 : chkC Tw N n (relS scope sc) ifs c = true) (h8 : chkE Tw N n (relS scope sc) elt x = true) :
    LcV X O (.ListComp elt [⟨tg, iter, ifs, 0⟩] scope pos) (ev cl (.lc own t it c x)) := by
  have I := ih X ok sc C
  have b : BlkOk X.N X.env.scope scope (ownP N own) := by rw [C.n, C.sc_]; exact blkOk_by h1
  have J := fun (s : Shared) (H : Hp) (Ca : Addr) (cs : List (Str × Addr)) (fp : List Addr) => ih _ _ _ (C.blk b s H Ca cs fp)
  have q := v_lc (O := O) (pos := pos) (is := tgS t) C.calm (C.n ▸ C.nd) (I.i _ _ _ h5) b (fun j hj => by
    rw [ownP_snd]
    have := List.all_eq_true.mp h3 j hj
    simpa using this) (fun s H Ca cs fp => chkG_ok (C.blk b s H Ca cs fp) t tg h7) (fun s H Ca cs fp => (J s H Ca cs fp).c _ _ h6) (fun s H Ca cs fp => ((J s H Ca cs fp).e _ _ h8).d) h4
  rw [ownP_snd] at q
  have e : ev cl (.lc own t it c x) = _ := funext fun r => by (rw [ev]) <;> rfl
  rw [e]
  exact q
theorem snd_e (n : Nat) (ih : ∀ (X : Cx) (ok : Str → Bool) (sc : Scope), Cg Tw cl k N ok sc X → Snd Tw cl N O n sc X) (C : Cg Tw cl k N ok sc X) (e : Expr) (ir : Ir) (h : chkE Tw N (n + 1) sc e ir = true) : EV X O e (ev cl ir) := by
  have I := ih X ok sc C
  cases ir with
  | int i =>
    simp only [chkE] at h
    split at h
    · rw [of_decide_eq_true h]; exact v_int.is fun r => by (rw [ev]) <;> rfl
    · cases h
  | bl i =>
    simp only [chkE] at h
    split at h
    · rw [of_decide_eq_true h]; exact v_bl.is fun r => by (rw [ev]) <;> rfl
    · cases h
  | non =>
    simp only [chkE] at h
    split at h
    · exact v_non.is fun r => by (rw [ev]) <;> rfl
    · cases h
  | str s =>
    simp only [chkE] at h
    split at h
    · rw [of_decide_eq_true h]; exact v_str.is fun r => by (rw [ev]) <;> rfl
    · cases h
  | nm i =>
    simp only [chkE] at h
    split at h
    · obtain ⟨h1, h2, h3, h4⟩ := nm_is C h
      exact (v_nm i h1 h2 h3 h4).is fun r => by (rw [ev]) <;> rfl
    · cases h
  | bin o x y =>
    simp only [chkE] at h
    split at h
    · obtain ⟨h1, h2⟩ := and2 h
      obtain ⟨h2, h3⟩ := and2 h2
      rw [of_decide_eq_true h1]
      exact (v_bin o (I.e _ _ h2) (I.e _ _ h3)).is fun r => by (rw [ev]) <;> rfl
    · cases h
  | neg x =>
    simp only [chkE] at h
    split at h
    · exact (v_neg (I.e _ _ h)).is fun r => by (rw [ev]) <;> rfl
    · cases h
  | cmp o x y =>
    simp only [chkE] at h
    split at h
    · obtain ⟨h1, h2⟩ := and2 h
      obtain ⟨h2, h3⟩ := and2 h2
      obtain ⟨h3, h4⟩ := and2 h3
      rw [of_decide_eq_true h1]
      exact (v_cmp C.hu o h2 (I.e _ _ h3) (I.e _ _ h4)).is fun r => by (rw [ev]) <;> rfl
    · cases h
  | ch2 o o' x y z =>
    simp only [chkE] at h
    split at h
    · obtain ⟨h1, h2⟩ := and2 h
      obtain ⟨h2, h3⟩ := and2 h2
      obtain ⟨h3, h4⟩ := and2 h3
      obtain ⟨h4, h5⟩ := and2 h4
      obtain ⟨h5, h6⟩ := and2 h5
      rw [of_decide_eq_true h1, of_decide_eq_true h2]
      exact (v_ch C.hu o o' h3 (I.e _ _ h4) (I.e _ _ h5) (I.e _ _ h6)).is fun r => by (rw [ev]) <;> rfl
    · cases h
  | and x y =>
    simp only [chkE] at h
    split at h
    · obtain ⟨h1, h2⟩ := and2 h
      exact (v_and (I.e _ _ h1) (I.b _ _ _ _ h2)).is fun r => by (rw [ev]) <;> rfl
    · cases h
  | or x y =>
    simp only [chkE] at h
    split at h
    · obtain ⟨h1, h2⟩ := and2 h
      exact (v_or (I.e _ _ h1) (I.b _ _ _ _ h2)).is fun r => by (rw [ev]) <;> rfl
    · cases h
  | not x =>
    simp only [chkE] at h
    split at h
    · exact (v_notT (I.e _ _ h)).is fun r => by (rw [ev]) <;> rfl
    · cases h
  | ite c x y =>
    simp only [chkE] at h
    split at h
    · obtain ⟨h1, h2⟩ := and2 h
      obtain ⟨h2, h3⟩ := and2 h2
      exact (v_if (I.t _ _ h1) (I.e _ _ h2) (I.e _ _ h3)).is fun r => by (rw [ev]) <;> rfl
    · cases h
  | tup es =>
    simp only [chkE] at h
    split at h
    · obtain ⟨h1, h2⟩ := and2 h
      exact (v_tup (I.l _ _ h2) fun r x hx => by rw [evs_len es r x hx]; exact small_line (of_decide_eq_true h1)).is fun r => by (rw [ev]) <;> rfl
    · cases h
  | lst es =>
    simp only [chkE] at h
    split at h
    · obtain ⟨h1, h2⟩ := and2 h
      exact (v_lst (I.l _ _ h2) fun r x hx => by rw [evs_len es r x hx]; exact small_line (of_decide_eq_true h1)).is fun r => by (rw [ev]) <;> rfl
    · cases h
  | ix x y =>
    simp only [chkE] at h
    split at h
    · obtain ⟨h1, h2⟩ := and2 h
      obtain ⟨h2, h3⟩ := and2 h2
      exact (v_ix h1 (I.e _ _ h2) (I.e _ _ h3)).is fun r => by (rw [ev]) <;> rfl
    · cases h
  | cut x lo hi =>
    simp only [chkE] at h
    split at h
    · obtain ⟨h1, h2⟩ := and2 h
      obtain ⟨h2, h3⟩ := and2 h2
      exact (v_cut (I.e _ _ h1) (I.o _ _ h2) (I.o _ _ h3)).is fun r => by (rw [ev]) <;> rfl
    · cases h
  | rev x =>
    simp only [chkE] at h
    split at h
    · exact (v_rev (I.e _ _ h)).is fun r => by (rw [ev]) <;> rfl
    · cases h
  | call f es =>
    simp only [chkE] at h
    split at h
    · obtain ⟨h1, h2⟩ := and2 h
      obtain ⟨h1, hd⟩ := and2 h1
      obtain ⟨hd, _⟩ := and2 hd
      obtain ⟨h2, h3⟩ := and2 h2
      obtain ⟨h3, h4⟩ := and2 h3
      obtain ⟨h4, h5⟩ := and2 h4
      obtain ⟨e1, hg⟩ := gl_is C h1
      subst e1
      exact (v_call (C.cal f false (tw_is h2)) C.room hg (I.l _ _ h5) h3 h4 (by simpa using hd)).is fun r => by (rw [ev]) <;> rfl
    · cases h
  | callT f i j es =>
    simp only [chkE] at h
    split at h
    · obtain ⟨h1, h2⟩ := and2 h
      obtain ⟨h1, hd⟩ := and2 h1
      obtain ⟨hd, _⟩ := and2 hd
      obtain ⟨h2, h3⟩ := and2 h2
      obtain ⟨h3, h4⟩ := and2 h3
      obtain ⟨n1, n2⟩ := and2 h3
      obtain ⟨h4, h5⟩ := and2 h4
      obtain ⟨e1, hg⟩ := gl_is C h1
      subst e1
      obtain ⟨a1, a2, a3, a4⟩ := nm_is C n1
      obtain ⟨b1, b2, b3, b4⟩ := nm_is C n2
      exact (v_callT (C.cal f true (tw_is h2)) C.room hg a1 a2 b1 b2 (I.l _ _ h5) h4 (by simpa using hd) a3 a4 b3 b4).is fun r => by (rw [ev]) <;> rfl
    · cases h
  | bi b x =>
    simp only [chkE] at h
    split at h
    · obtain ⟨h1, h2⟩ := and2 h
      obtain ⟨h2, h3⟩ := and2 h2
      obtain ⟨e1, hg⟩ := gl_is C h1
      subst e1
      exact (v_bi C.calm b hg (C.nf _ (bi_in b)) h2 (I.e _ _ h3)).is fun r => by (rw [ev]) <;> rfl
    · cases h
  | bi2 b x y =>
    cases b with
    | min2 =>
      simp only [chkE] at h
      split at h
      · obtain ⟨h1, h2⟩ := and2 h
        obtain ⟨h2, h3⟩ := and2 h2
        obtain ⟨o1, o2⟩ := and2 h2
        obtain ⟨c1, c2⟩ := and2 h3
        obtain ⟨e1, hg⟩ := gl_is C h1
        subst e1
        exact (v_mm min2_i (cd_min2 C.calm) hg (bltIn C) (by decide +kernel) o1 o2 (I.e _ _ c1) (I.e _ _ c2) (by decide +kernel) (by decide +kernel)).is fun r => by (rw [ev]) <;> rfl
      · cases h
    | max2 =>
      simp only [chkE] at h
      split at h
      · obtain ⟨h1, h2⟩ := and2 h
        obtain ⟨h2, h3⟩ := and2 h2
        obtain ⟨o1, o2⟩ := and2 h2
        obtain ⟨c1, c2⟩ := and2 h3
        obtain ⟨e1, hg⟩ := gl_is C h1
        subst e1
        exact (v_mm max2_i (cd_max2 C.calm) hg (bltIn C) (by decide +kernel) o1 o2 (I.e _ _ c1) (I.e _ _ c2) (by decide +kernel) (by decide +kernel)).is fun r => by (rw [ev]) <;> rfl
      · cases h
    | lrg =>
      simp only [chkE] at h
      split at h
      · obtain ⟨h1, h2⟩ := and2 h
        obtain ⟨g1, g2⟩ := and2 h1
        obtain ⟨h2, h3⟩ := and2 h2
        obtain ⟨o1, o2⟩ := and2 h2
        obtain ⟨c1, c2⟩ := and2 h3
        obtain ⟨e1, hg⟩ := gl_is C g1
        obtain ⟨e2, hg2⟩ := gl_is C g2
        subst e1 e2
        exact (v_lrg C.calm hg (bltIn C) hg2 (bltIn C) o1 o2 (I.e _ _ c1) (I.e _ _ c2)).is fun r => by (rw [ev]) <;> rfl
      · split at h
        · obtain ⟨h1, h2⟩ := and2 h
          obtain ⟨g1, g2⟩ := and2 h1
          obtain ⟨o2, c2⟩ := and2 h2
          obtain ⟨e1, hg⟩ := gl_is C g1
          obtain ⟨e2, hg2⟩ := gl_is C g2
          subst e1 e2
          exact (v_lrg1 C.calm hg (bltIn C) hg2 (bltIn C) o2 (I.e _ _ c2)).is fun r => by (rw [ev, ev]) <;> rfl
        · cases h
      · cases h
    | trg =>
      simp only [chkE] at h
      split at h
      · obtain ⟨h1, h2⟩ := and2 h
        obtain ⟨g1, g2⟩ := and2 h1
        obtain ⟨h2, h3⟩ := and2 h2
        obtain ⟨o1, o2⟩ := and2 h2
        obtain ⟨c1, c2⟩ := and2 h3
        obtain ⟨e1, hg⟩ := gl_is C g1
        obtain ⟨e2, hg2⟩ := gl_is C g2
        subst e1 e2
        exact (v_trg C.calm hg (bltIn C) hg2 (bltIn C) o1 o2 (I.e _ _ c1) (I.e _ _ c2)).is fun r => by (rw [ev]) <;> rfl
      · split at h
        · obtain ⟨h1, h2⟩ := and2 h
          obtain ⟨g1, g2⟩ := and2 h1
          obtain ⟨o2, c2⟩ := and2 h2
          obtain ⟨e1, hg⟩ := gl_is C g1
          obtain ⟨e2, hg2⟩ := gl_is C g2
          subst e1 e2
          exact (v_trg1 C.calm hg (bltIn C) hg2 (bltIn C) o2 (I.e _ _ c2)).is fun r => by (rw [ev, ev]) <;> rfl
        · cases h
      · cases h
  | isi x t =>
    simp only [chkE] at h
    split at h
    · obtain ⟨h1, h2⟩ := and2 h
      obtain ⟨g1, g2⟩ := and2 h1
      obtain ⟨h2, h3⟩ := and2 h2
      obtain ⟨e1, hg⟩ := gl_is C g1
      obtain ⟨e2, hg2⟩ := gl_is C g2
      subst e1 e2
      exact (v_isi t hg (bltIn C) hg2 (C.nf _ (ty_in t)) h2 (I.e _ _ h3)).is fun r => by (rw [ev]) <;> rfl
    · cases h
  | pop i a =>
    simp only [chkE] at h
    split at h
    · obtain ⟨h1, h2⟩ := and2 h
      obtain ⟨h1, h3⟩ := and2 h1
      obtain ⟨h3, h4⟩ := and2 h3
      obtain ⟨a1, a2, a3, a4⟩ := nm_is C h1
      have em := of_decide_eq_true h3
      subst em
      cases a with
      | no =>
        have h2 := List.isEmpty_iff.mp h2
        subst h2
        exact (v_pop0 i a1 a2 h4 a3 a4).is fun r => by (rw [ev, evp]) <;> rfl
      | yes y =>
        dsimp only at h2
        split at h2
        · obtain ⟨h5, h6⟩ := and2 h2
          exact (v_pop1 i a1 a2 h5 h4 (I.e _ _ h6) a3 a4).is fun r => by (rw [ev, evp]) <;> rfl
        · cases h2
    · cases h
  | slen i =>
    simp only [chkE] at h
    split at h
    · obtain ⟨h1, h2⟩ := and2 h
      obtain ⟨e1, hg⟩ := gl_is C h1
      subst e1
      obtain ⟨a1, a2, a3, a4⟩ := nm_is C h2
      exact (v_slen i a1 a2 hg (bltIn C) a3 a4).is fun r => by (rw [ev]) <;> rfl
    · cases h
  | six i y =>
    simp only [chkE] at h
    split at h
    · obtain ⟨h1, h2⟩ := and2 h
      obtain ⟨h2, h3⟩ := and2 h2
      obtain ⟨a1, a2, a3, a4⟩ := nm_is C h1
      exact (v_six i a1 a2 h2 (I.e _ _ h3) a3 a4).is fun r => by (rw [ev]) <;> rfl
    · cases h
  | stru i => simp only [chkE] at h; cases h
  | lc own t it c x =>
    simp only [chkE] at h
    split at h
    · obtain ⟨h1, h2⟩ := and2 h
      obtain ⟨h1, h3⟩ := and2 h1
      obtain ⟨h3, h4⟩ := and2 h3
      obtain ⟨h5, h6⟩ := and2 h2
      obtain ⟨h5, h7⟩ := and2 h5
      obtain ⟨h6, h8⟩ := and2 h6
      exact (snd_lc n ih C h1 h3 h4 h5 h7 h6 h8).ef
    · cases h
end
end Pd

set_option Elab.async false
set_option linter.all false
set_option maxRecDepth 100000
set_option maxHeartbeats 8000000
namespace Pd
open PySem PySem.Spec PyProof.Rows L2
section
variable {Tw : String → Option Bool} {cl : Cl} {k : Nat} {N : List Str} {ok : Str → Bool} {sc : Scope} {X : Cx} {O : List Addr}
theorem t_gen {e : Expr} {ir : Ir} (h1 : tE e = true) (h2 : EV X O e (ev cl ir)) (h3 : ∀ r, evT cl ir r = gT (ev cl ir) r) : EVT X O e (evT cl ir) := (t_truth (tE_ok h1) h2).is h3
theorem snd_t (n : Nat) (ih : ∀ (X : Cx) (ok : Str → Bool) (sc : Scope), Cg Tw cl k N ok sc X → Snd Tw cl N O n sc X) (C : Cg Tw cl k N ok sc X) (e : Expr) (ir : Ir) (h : chkT Tw N (n + 1) sc e ir = true) : EVT X O e (evT cl ir) := by
  have I := ih X ok sc C
  have gen : ∀ {ir : Ir}, (tE e && chkE Tw N n sc e ir) = true → (∀ r, evT cl ir r = gT (ev cl ir) r) → EVT X O e (evT cl ir) := fun {ir} h q => t_gen (and2 h).1 (I.e _ _ (and2 h).2) q
  cases ir with
  | and x y =>
    simp only [chkT] at h
    split at h
    · obtain ⟨h1, h2⟩ := and2 h
      exact EVT.is (w_and (I.t _ _ h1) (I.tb _ _ _ _ h2)).pt fun r => by (rw [evT]) <;> rfl
    · cases h
  | or x y =>
    simp only [chkT] at h
    split at h
    · obtain ⟨h1, h2⟩ := and2 h
      exact EVT.is (w_or (I.t _ _ h1) (I.tb _ _ _ _ h2)).pt fun r => by (rw [evT]) <;> rfl
    · cases h
  | not x =>
    simp only [chkT] at h
    split at h
    · exact (t_not (I.t _ _ h)).is fun r => by (rw [evT]) <;> rfl
    · cases h
  | ite c x y => simp only [chkT] at h; cases h
  | stru i =>
    simp only [chkT] at h
    split at h
    · obtain ⟨a1, a2, a3, a4⟩ := nm_is C h
      exact (t_scr i a1 a2 a3 a4).is fun r => by (simp only [evT, ev]) <;> rfl
    · cases h
  | cmp o x y =>
    simp only [chkT] at h
    split at h
    · obtain ⟨h1, h2⟩ := and2 h
      obtain ⟨h2, h3⟩ := and2 h2
      obtain ⟨h3, h4⟩ := and2 h3
      rw [of_decide_eq_true h1]
      exact (t_cmp C.hu o h2 (I.e _ _ h3) (I.e _ _ h4)).is fun r => by (simp only [evT, ev]) <;> rfl
    · cases h
  | ch2 o o' x y z =>
    simp only [chkT] at h
    split at h
    · obtain ⟨h1, h2⟩ := and2 h
      obtain ⟨h2, h3⟩ := and2 h2
      obtain ⟨h3, h4⟩ := and2 h3
      obtain ⟨h4, h5⟩ := and2 h4
      obtain ⟨h5, h6⟩ := and2 h5
      rw [of_decide_eq_true h1, of_decide_eq_true h2]
      exact (t_ch C.hu o o' h3 (I.e _ _ h4) (I.e _ _ h5) (I.e _ _ h6)).is fun r => by (simp only [evT, ev]) <;> rfl
    · cases h
  | int i => exact gen (by simpa only [chkT] using h) fun r => by (rw [evT]) <;> first | rfl | (intros; contradiction)
  | bl i => exact gen (by simpa only [chkT] using h) fun r => by (rw [evT]) <;> first | rfl | (intros; contradiction)
  | non => exact gen (by simpa only [chkT] using h) fun r => by (rw [evT]) <;> first | rfl | (intros; contradiction)
  | str s => exact gen (by simpa only [chkT] using h) fun r => by (rw [evT]) <;> first | rfl | (intros; contradiction)
  | nm i => exact gen (by simpa only [chkT] using h) fun r => by (rw [evT]) <;> first | rfl | (intros; contradiction)
  | bin o x y => exact gen (by simpa only [chkT] using h) fun r => by (rw [evT]) <;> first | rfl | (intros; contradiction)
  | neg x => exact gen (by simpa only [chkT] using h) fun r => by (rw [evT]) <;> first | rfl | (intros; contradiction)
  | tup es => exact gen (by simpa only [chkT] using h) fun r => by (rw [evT]) <;> first | rfl | (intros; contradiction)
  | lst es => exact gen (by simpa only [chkT] using h) fun r => by (rw [evT]) <;> first | rfl | (intros; contradiction)
  | ix x y => exact gen (by simpa only [chkT] using h) fun r => by (rw [evT]) <;> first | rfl | (intros; contradiction)
  | cut x lo hi => exact gen (by simpa only [chkT] using h) fun r => by (rw [evT]) <;> first | rfl | (intros; contradiction)
  | rev x => exact gen (by simpa only [chkT] using h) fun r => by (rw [evT]) <;> first | rfl | (intros; contradiction)
  | call f es => exact gen (by simpa only [chkT] using h) fun r => by (rw [evT]) <;> first | rfl | (intros; contradiction)
  | callT f i j es => exact gen (by simpa only [chkT] using h) fun r => by (rw [evT]) <;> first | rfl | (intros; contradiction)
  | bi b x => exact gen (by simpa only [chkT] using h) fun r => by (rw [evT]) <;> first | rfl | (intros; contradiction)
  | bi2 b x y => exact gen (by simpa only [chkT] using h) fun r => by (rw [evT]) <;> first | rfl | (intros; contradiction)
  | isi x t => exact gen (by simpa only [chkT] using h) fun r => by (rw [evT]) <;> first | rfl | (intros; contradiction)
  | pop i a => exact gen (by simpa only [chkT] using h) fun r => by (rw [evT]) <;> first | rfl | (intros; contradiction)
  | slen i => exact gen (by simpa only [chkT] using h) fun r => by (rw [evT]) <;> first | rfl | (intros; contradiction)
  | six i y => exact gen (by simpa only [chkT] using h) fun r => by (rw [evT]) <;> first | rfl | (intros; contradiction)
  | lc own t it c x => exact gen (by simpa only [chkT] using h) fun r => by (rw [evT]) <;> first | rfl | (intros; contradiction)
theorem snd_all : ∀ (n : Nat) (X : Cx) (ok : Str → Bool) (sc : Scope), Cg Tw cl k N ok sc X → Snd Tw cl N O n sc X
  | 0, X, ok, sc, C => by
    refine ⟨fun e ir h => ?_, fun op l ir p h => ?_, fun e ir h => ?_, fun op l ir p h => ?_, fun l es h => ?_, fun e o h => ?_, fun e o h => ?_, fun tg e it h => ?_⟩
    · rw [chkE] at h; cases h
    · rw [chkB] at h; cases h
    · rw [chkT] at h; cases h
    · rw [chkTB] at h; cases h
    · rw [chkL] at h; cases h
    · rw [chkO] at h; cases h
    · rw [chkC] at h; cases h
    · rw [chkI] at h; cases h
  | n + 1, X, ok, sc, C => by
    have ih := snd_all n
    have I := ih X ok sc C
    refine ⟨snd_e n ih C, fun op l ir p h => ?_, snd_t n ih C, fun op l ir p h => ?_, fun l es h => ?_, fun e o h => ?_, fun e o h => ?_, fun tg e it h => ?_⟩
    · simp only [chkB] at h
      split at h
      · cases h
      · exact pe_one (I.e _ _ h)
      · split at h
        · split at h
          · obtain ⟨h1, h2⟩ := and2 h
            exact (v_and (I.e _ _ h1) (I.b _ _ _ _ h2)).is fun r => by (rw [ev]) <;> rfl
          · cases h
        · split at h
          · obtain ⟨h1, h2⟩ := and2 h
            exact (v_or (I.e _ _ h1) (I.b _ _ _ _ h2)).is fun r => by (rw [ev]) <;> rfl
          · cases h
    · simp only [chkTB] at h
      split at h
      · cases h
      · cases op with
        | And => exact pw_and1 (I.t _ _ h)
        | Or => exact pw_or1 (I.t _ _ h)
      · split at h
        · split at h
          · obtain ⟨h1, h2⟩ := and2 h
            exact (w_and (I.t _ _ h1) (I.tb _ _ _ _ h2)).is fun r => by (rw [evT]) <;> rfl
          · cases h
        · split at h
          · obtain ⟨h1, h2⟩ := and2 h
            exact (w_or (I.t _ _ h1) (I.tb _ _ _ _ h2)).is fun r => by (rw [evT]) <;> rfl
          · cases h
    · cases es with
      | nil =>
        simp only [chkL] at h
        have h := List.isEmpty_iff.mp h
        subst h
        exact a_nil.is fun r => by (rw [evs]) <;> rfl
      | cons x xs =>
        simp only [chkL] at h
        split at h
        · obtain ⟨h1, h2⟩ := and2 h
          obtain ⟨h2, h3⟩ := and2 h2
          exact (a_cons h1 (I.e _ _ h2) (I.l _ _ h3)).is fun r => by (rw [evs]) <;> rfl
        · cases h
    · cases o with
      | no =>
        simp only [chkO] at h
        split at h
        · exact o_no.is fun r => by (rw [evo]) <;> rfl
        · cases h
      | yes x =>
        simp only [chkO] at h
        split at h
        · exact (o_yes (I.e _ _ h)).is fun r => by (rw [evo]) <;> rfl
        · cases h
    · cases o with
      | no =>
        simp only [chkC] at h
        have h := List.isEmpty_iff.mp h
        subst h
        exact ⟨fun pins s σ H Q I ⟨W, G, ρ, r, x, sv, em, k⟩ => pts_nil.run pins s σ H Q I (by
          rw [evC] at em
          cases em
          exact k G H ρ sv (Go.refl _ _ _))⟩
      | yes x =>
        simp only [chkC] at h
        split at h
        · have q := pts_one (I.t _ _ h)
          have e : evC cl (.yes x) = evT cl x := funext fun r => by (rw [evC]) <;> rfl
          rw [e]
          exact q
        · cases h
    · cases it with
      | e x =>
        simp only [chkI] at h
        exact (i_e (I.e _ _ h)).is fun r => by (rw [evI]) <;> rfl
      | r1 x =>
        simp only [chkI] at h
        split at h
        · obtain ⟨h1, h2⟩ := and2 h
          obtain ⟨h2, h3⟩ := and2 h2
          obtain ⟨e1, hg⟩ := gl_is C h1
          subst e1
          exact (i_r1 hg (bltIn C) h2 (I.e _ _ h3)).is fun r => by (rw [evI]) <;> rfl
        · cases h
      | r2 x y =>
        simp only [chkI] at h
        split at h
        · obtain ⟨h1, h2⟩ := and2 h
          obtain ⟨h2, h3⟩ := and2 h2
          obtain ⟨o1, o2⟩ := and2 h2
          obtain ⟨c1, c2⟩ := and2 h3
          obtain ⟨e1, hg⟩ := gl_is C h1
          subst e1
          exact (i_r2 hg (bltIn C) o1 o2 (I.e _ _ c1) (I.e _ _ c2)).is fun r => by (rw [evI]) <;> rfl
        · cases h
      | rd x y =>
        simp only [chkI] at h
        split at h
        · obtain ⟨h1, h2⟩ := and2 h
          obtain ⟨h2, h3⟩ := and2 h2
          obtain ⟨o1, o2⟩ := and2 h2
          obtain ⟨c1, c2⟩ := and2 h3
          obtain ⟨e1, hg⟩ := gl_is C h1
          subst e1
          exact (i_rd hg (bltIn C) o1 o2 (I.e _ _ c1) (I.e _ _ c2)).is fun r => by (rw [evI]) <;> rfl
        · cases h
      | zip x y =>
        simp only [chkI] at h
        split at h
        · split at h
          · obtain ⟨h1, h2⟩ := and2 h
            obtain ⟨h2, h3⟩ := and2 h2
            obtain ⟨o1, o2⟩ := and2 h2
            obtain ⟨c1, c2⟩ := and2 h3
            obtain ⟨e1, hg⟩ := gl_is C h1
            subst e1
            exact (i_zip hg (bltIn C) o1 o2 (I.e _ _ c1) (I.e _ _ c2)).is fun r => by (rw [evI]) <;> rfl
          · cases h
        · cases h
      | enum x =>
        simp only [chkI] at h
        split at h
        · split at h
          · obtain ⟨h1, h2⟩ := and2 h
            obtain ⟨h2, h3⟩ := and2 h2
            obtain ⟨e1, hg⟩ := gl_is C h1
            subst e1
            exact (i_enum hg (bltIn C) h2 (I.e _ _ h3)).is fun r => by (rw [evI]) <;> rfl
          · cases h
        · cases h
      | scr i =>
        simp only [chkI] at h
        split at h
        · obtain ⟨a1, a2, a3, a4⟩ := nm_is C h
          exact (i_scr i a1 a2 a3 a4).is fun r => by (rw [evI]) <;> rfl
        · cases h
end
end Pd

set_option Elab.async false
set_option linter.all false
set_option maxRecDepth 100000
set_option maxHeartbeats 8000000
namespace Pd
open PySem PySem.Spec PyProof.Rows L2
def isComp : Expr → Bool
  | .ListComp _ _ _ _ => true
  | .SetComp _ _ _ _ => true
  | .DictComp _ _ _ _ _ => true
  | _ => false
theorem sw_none {e : Expr} {t : Option Expr} {l : Nat} {env : PySem.Env} (h : isComp e = false) : swapsWith e t l env = pure false := by
  cases e <;> first | rfl | cases h
def isName : Expr → Bool
  | .Name _ _ => true
  | _ => false
theorem sw_tup {e tg : Expr} {l : Nat} {env : PySem.Env} (h : isName tg = false) : swapsWith e (some tg) l env = pure false := by
  unfold swapsWith
  cases e <;> first | rfl | (cases tg <;> first | rfl | cases h)
theorem sw_tupS {e tg : Expr} {l : Nat} {env : PySem.Env} (h : isName tg = false) : swapsWithSole [tg] e l env = pure false := sw_tup h
def loneN (sc : Scope) (line : Nat) : Expr → Option Str
  | .Name id pos => if (match sc.names.lookup id with | some .local => true | _ => false) && pos.line == line then some id else none
  | _ => none
def isStar : Expr → Bool
  | .Starred _ _ => true
  | _ => false
def swK (sc : Scope) (ts vs : List Expr) : Option (Option (List Str)) :=
  if (!(ts.length == 2 || ts.length == 3) || vs.length != ts.length) = true then some none else
  if (vs.any isStar) = true then some none else
  let line := (ts.head?.map (·.pos.line)).getD 0
  let names := ts.filterMap (loneN sc line)
  if (names.length != ts.length || names.eraseDups.length != names.length) = true then some none else
  if (vs.all (foldedForSure 8)) = true then some none else
  if (vs.all (constantsAlone 8)) = true then none else some (some names)
theorem swK_core {sc : Scope} {ts vs : List Expr} {o : Option (List Str)} (f : Expr → Bool) (g : Expr → Option Str) (hf : f = isStar) (hg : g = loneN sc ((ts.head?.map (·.pos.line)).getD 0)) (h : swK sc ts vs = some o) :
    (if (!(ts.length == 2 || ts.length == 3) || vs.length != ts.length) = true then (pure none : Sem (Option (List Str))) else if (vs.any f) = true then pure none else
      if ((ts.filterMap g).length != ts.length || (ts.filterMap g).eraseDups.length != (ts.filterMap g).length) = true then pure none else
      if (vs.all (foldedForSure 8)) = true then pure none else if (vs.all (constantsAlone 8)) = true then unsupported "assign.tuple-of-constant-expressions:order-of-the-stores" else pure (some (ts.filterMap g))) = pure o := by
  subst hf hg
  unfold swK at h
  dsimp only at h
  split at h
  · rename_i c; rw [if_pos c]; cases h; rfl
  · rename_i c; rw [if_neg c]
    split at h
    · rename_i c; rw [if_pos c]; cases h; rfl
    · rename_i c; rw [if_neg c]
      split at h
      · rename_i c; rw [if_pos c]; cases h; rfl
      · rename_i c; rw [if_neg c]
        split at h
        · rename_i c; rw [if_pos c]; cases h; rfl
        · rename_i c; rw [if_neg c]
          split at h
          · cases h
          · rename_i c; rw [if_neg c]; cases h; rfl
theorem swK_ok {sc : Scope} {env : PySem.Env} (hsc : env.scope = sc) (hk : sc.kind = .function) {ts vs : List Expr} {kt kv : Nat} {pt pv : Pos} {o : Option (List Str)} (h : swK sc ts vs = some o) : swappedStores [.Tuple ts kt pt] (.Tuple vs kv pv) env = pure o := by
  have hb : env.blockKind = .function := by unfold Env.blockKind; rw [hsc, hk]; rfl
  unfold swappedStores
  simp only [hb, bne_self_eq_false, Bool.or_false]
  refine swK_core (sc := sc) _ _ (by funext x; cases x <;> rfl) ?_ h
  · skip
    funext x
    cases x with
    | Name id pos =>
      show (if (env.scope.names.lookup id == some NameKind.local && _) = true then some id else none) = (if _ then some id else none)
      rw [hsc]
      have : (sc.names.lookup id == some NameKind.local) = (match sc.names.lookup id with | some .local => true | _ => false) := by
        cases sc.names.lookup id with
        | none => rfl
        | some k => cases k <;> rfl
      rw [this]
    | _ => rfl
theorem sw_comp {elt : Expr} {gs : List Comprehension} {scope sc : Scope} {pos py : Pos} {y : Str} {l : Nat} {env : PySem.Env} (hsc : env.scope = sc) (hk : sc.kind = .function) :
    swapsWith (.ListComp elt gs scope pos) (some (.Name y py)) l env = pure (isLoc sc y && (py.line == pos.line && !(scope.names.any fun (n, k) => n == y && (k == .local || k == .cell)))) := by
  have hb : env.blockKind = .function := by unfold Env.blockKind; rw [hsc, hk]; rfl
  have hky : (env.kindOf y == some NameKind.local) = isLoc sc y := by
    show (env.scope.names.lookup y == some NameKind.local) = _
    rw [hsc]
    unfold isLoc
    cases sc.names.lookup y with
    | none => rfl
    | some k => cases k <;> rfl
  unfold swapsWith
  simp only [hb, hky, Expr.pos, BEq.rfl, Bool.true_and, Bool.and_assoc]
def swS (sc : Scope) : Expr → Expr → Bool
  | .Tuple ts _ _, .Tuple vs _ _ => (match swK sc ts vs with
    | some none => true
    | _ => false)
  | .Tuple _ _ _, _ => true
  | _, _ => false
theorem swS_ok {sc : Scope} {env : PySem.Env} (hsc : env.scope = sc) (hk : sc.kind = .function) {tg v : Expr} (h : swS sc tg v = true) : swappedStores [tg] v env = pure none := by
  cases tg with
  | Tuple ts kt pt =>
    cases v with
    | Tuple vs kv pv =>
      have h : (match swK sc ts vs with
        | some none => true
        | _ => false) = true := h
      split at h
      · exact swK_ok hsc hk (by assumption)
      · cases h
    | _ => rfl
  | _ => cases h
section
variable (Tw : String → Option Bool) (N : List Str)
mutual
def chkS : Nat → Scope → Stmt → Is → Bool
  | 0, _, _, _ => false
  | n + 1, sc, st, s => match s with
    | .set i e => (match st with
      | .Assign [.Name x _] v _ => (nmB N i x && locB sc x) && chkE Tw N 200 sc v e
      | _ => false)
    | .unp t e => (match st with
      | .Assign [tg] v _ => ((!isName tg) && okT1 tg) && ((chkG N (fun _ => true) sc t tg && chkE Tw N 200 sc v e) && swS sc tg v)
      | _ => false)
    | .par i j a b => (match st with
      | .Assign [.Tuple [.Name x px, .Name y py] _ _] (.Tuple [v, w] _ _) _ => ((nmB N i x && nmB N j y) && ((!(i == j)) && (locB sc x && locB sc y))) && (((okE v && okE w) && (chkE Tw N 200 sc v a && chkE Tw N 200 sc w b)) && (match swK sc [.Name x px, .Name y py] [v, w] with
        | some (some [x', y']) => (isLoc sc x && isLoc sc y) && (stB x x' && stB y y')
        | some none => true
        | _ => false))
      | _ => false)
    | .app i e => (match st with
      | .Expr (.Call (.Attribute (.Name x _) m apos) [a] [] p) _ => (nmOk N sc i x && stB m "append") && ((apos.endLine == p.line) && (okE a && chkE Tw N 200 sc a e))
      | _ => false)
    | .ext i e => (match st with
      | .Expr (.Call (.Attribute (.Name x _) m apos) [a] [] p) _ => (nmOk N sc i x && stB m "extend") && ((apos.endLine == p.line) && (okE a && chkE Tw N 200 sc a e))
      | _ => false)
    | .put i k e => (match st with
      | .Assign [.Subscript (.Name x _) e1 _] v _ => nmOk N sc i x && (okE e1 && (chkE Tw N 200 sc v e && chkE Tw N 200 sc e1 k))
      | _ => false)
    | .drop e => (match st with
      | .Expr v _ => (!isComp v) && chkE Tw N 200 sc v e
      | _ => false)
    | .ret e => (match st with
      | .Return (some v) _ => chkE Tw N 200 sc v e
      | _ => false)
    | .ifs c a b => (match st with
      | .If t ba bb _ => chkT Tw N 200 sc t c && (chkSs n sc ba a && chkSs n sc bb b)
      | _ => false)
    | .for_ t it b => (match st with
      | .For tg i body [] _ => (chkG N (fun _ => true) sc t tg && okE i) && (chkI Tw N 200 sc tg i it && chkSs n sc body b)
      | _ => false)
    | .wh c b => (match st with
      | .While t body [] _ => chkT Tw N 200 sc t c && chkSs n sc body b
      | _ => false)
    | .skip => (match st with
      | .Expr (.Constant (.str _) _ _) _ => true
      | _ => false)
def chkSs : Nat → Scope → List Stmt → Iss → Bool
  | 0, _, _, _ => false
  | n + 1, sc, l, ss => match ss with
    | .nil => l.isEmpty
    | .cons a r => (match l with
      | st :: rest => chkS n sc st a && chkSs n sc rest r
      | [] => false)
end
end
section
variable {Tw : String → Option Bool} {cl : Cl} {k : Nat} {N : List Str} {sc : Scope} {X : Cx} {O : List Addr}
theorem ESt.is {st : Stmt} {m m' : AE → Option Out} (h : ESt X O st m) (q : ∀ r, m' r = m r) : ESt X O st m' := (funext q : m' = m) ▸ h
theorem ESs.is {st : List Stmt} {m m' : AE → Option Out} (h : ESs X O st m) (q : ∀ r, m' r = m r) : ESs X O st m' := (funext q : m' = m) ▸ h
theorem isLoc_is {x : Str} (h : isLoc sc x = true) : sc.names.lookup x = some .local := by
  unfold isLoc at h
  split at h
  · assumption
  · cases h
theorem nmD {x : Str} (C : Cg Tw cl k N (fun _ => true) sc X) : X.fn x = true ∨ X.env.scope.names.lookup x = some .local := C.fn x rfl
theorem chkS_lc {n : Nat} {e : Ir} {elt : Expr} {gs : List Comprehension} {scope : Scope} {p : Pos} (C : Cg Tw cl k N (fun _ => true) sc X) (h : chkE Tw N (n + 1) sc (.ListComp elt gs scope p) e = true) : LcV X O (.ListComp elt gs scope p) (ev cl e) := by
  cases e with
  | lc own t it c x =>
    simp only [chkE] at h
    split at h
    · rename_i q
      cases q
      obtain ⟨h1, h2⟩ := and2 h
      obtain ⟨h1, h3⟩ := and2 h1
      obtain ⟨h3, h4⟩ := and2 h3
      obtain ⟨h5, h6⟩ := and2 h2
      obtain ⟨h5, h7⟩ := and2 h5
      obtain ⟨h6, h8⟩ := and2 h6
      exact snd_lc n (fun X ok sc C => snd_all n X ok sc C) C h1 h3 h4 h5 h7 h6 h8
    · cases h
  | bi2 b x y => cases b <;> simp [chkE] at h
  | _ => simp [chkE] at h
theorem isComp_lc {n : Nat} {e : Expr} {ir : Ir} (h : chkE Tw N (n + 1) sc e ir = true) (hc : isComp e = true) : ∃ elt gs scope p, e = .ListComp elt gs scope p := by
  cases e with
  | ListComp elt gs scope p => exact ⟨_, _, _, _, rfl⟩
  | SetComp _ _ _ _ => cases ir with
    | bi2 b x y => cases b <;> simp [chkE] at h
    | _ => simp [chkE] at h
  | DictComp _ _ _ _ _ => cases ir with
    | bi2 b x y => cases b <;> simp [chkE] at h
    | _ => simp [chkE] at h
  | _ => cases hc
theorem snd_s : ∀ (n : Nat), Cg Tw cl k N (fun _ => true) sc X → (∀ st s, chkS Tw N n sc st s = true → ESt X O st (exS cl s)) ∧ (∀ l ss, chkSs Tw N n sc l ss = true → ESs X O l (exSs cl ss))
  | 0, C => by
    refine ⟨fun st s h => ?_, fun l ss h => ?_⟩
    · rw [chkS] at h; cases h
    · rw [chkSs] at h; cases h
  | n + 1, C => by
    obtain ⟨ihs, ihl⟩ := snd_s n C
    have I : Snd Tw cl N O 200 sc X := snd_all 200 X (fun _ => true) sc C
    have hp : PassesOwn (model X.prog X.w) X.A X.env X.xe := by rw [C.xe]; exact PassesOwn.never
    have hN : X.N.Nodup := C.n ▸ C.nd
    refine ⟨fun st s h => ?_, fun l ss h => ?_⟩
    · cases s with
      | set i e =>
        simp only [chkS] at h
        split at h
        · rename_i x px v pos
          obtain ⟨h1, h2⟩ := and2 h
          obtain ⟨h1, h3⟩ := and2 h1
          by_cases hc : isComp v = true
          · obtain ⟨elt, gs, scope, p, rfl⟩ := isComp_lc h2 hc
            have L : LcV X O (.ListComp elt gs scope p) (ev cl e) := chkS_lc C h2
            have q := sw_comp (elt := elt) (gs := gs) (scope := scope) (pos := p) (py := px) (y := x) (l := pos.line) C.sc_ C.kind
            cases b : (isLoc sc x && (px.line == p.line && !(scope.names.any fun (n, k) => n == x && (k == .local || k == .cell)))) with
            | true =>
              rw [b] at q
              have hl : X.env.scope.names.lookup x = some .local := by rw [C.sc_]; exact isLoc_is (and2 b).1
              exact (s_setA (L.as (nmB_is C h1) hl q)).is fun r => by (rw [exS]) <;> rfl
            | false =>
              rw [b] at q
              exact (s_set hN (nmB_is C h1) (loc_is C h3) (nmD C) L.ef q).is fun r => by (rw [exS]) <;> rfl
          · exact (s_set hN (nmB_is C h1) (loc_is C h3) (nmD C) (I.e _ _ h2) (sw_none (by simpa using hc))).is fun r => by (rw [exS]) <;> rfl
        · cases h
      | unp t e =>
        simp only [chkS] at h
        split at h
        · obtain ⟨h1, h2⟩ := and2 h
          obtain ⟨h1, h3⟩ := and2 h1
          obtain ⟨h2, h4⟩ := and2 h2
          obtain ⟨h2, h5⟩ := and2 h2
          exact (s_unp (I.e _ _ h5) (chkG_ok C _ _ h2) h3 (sw_tupS (by simpa using h1)) (swS_ok C.sc_ C.kind h4)).is fun r => by (rw [exS]) <;> rfl
        · cases h
      | par i j a b =>
        simp only [chkS] at h
        split at h
        · obtain ⟨h1, h2⟩ := and2 h
          obtain ⟨n1, h3⟩ := and2 h1
          obtain ⟨n1, n2⟩ := and2 n1
          obtain ⟨h3, h4⟩ := and2 h3
          obtain ⟨l1, l2⟩ := and2 h4
          obtain ⟨h2, h5⟩ := and2 h2
          obtain ⟨o1, c1⟩ := and2 h2
          obtain ⟨o1, o2⟩ := and2 o1
          obtain ⟨c1, c2⟩ := and2 c1
          split at h5
          · rename_i q
            obtain ⟨ll, h5⟩ := and2 h5
            obtain ⟨m1, m2⟩ := and2 ll
            obtain ⟨e1, e2⟩ := and2 h5
            have e1 := of_decide_eq_true e1
            have e2 := of_decide_eq_true e2
            subst e1 e2
            have hl1 := isLoc_is m1
            have hl2 := isLoc_is m2
            rw [← C.sc_] at hl1 hl2
            exact (s_par C.calm hN (nmB_is C n1) (nmB_is C n2) (by simpa using h3) hl1 hl2 o1 o2 (I.e _ _ c1) (I.e _ _ c2) (swK_ok C.sc_ C.kind q) (sw_tupS rfl)).is fun r => by (rw [exS]) <;> rfl
          · rename_i q
            exact (s_parT C.calm hN (nmB_is C n1) (nmB_is C n2) (loc_is C l1) (loc_is C l2) (nmD C) (nmD C) o1 o2 (I.e _ _ c1) (I.e _ _ c2) (swK_ok C.sc_ C.kind q) (sw_tupS rfl)).is fun r => by (rw [exS]) <;> rfl
          · cases h5
        · cases h
      | app i e =>
        simp only [chkS] at h
        split at h
        · obtain ⟨h1, h2⟩ := and2 h
          obtain ⟨h1, h3⟩ := and2 h1
          obtain ⟨h2, h4⟩ := and2 h2
          obtain ⟨h4, h5⟩ := and2 h4
          obtain ⟨a1, a2, a3, a4⟩ := nm_is C h1
          have em := of_decide_eq_true h3
          subst em
          exact (s_app i a1 a2 h4 h2 (I.e _ _ h5) a3 a4).is fun r => by (rw [exS]) <;> rfl
        · cases h
      | ext i e =>
        simp only [chkS] at h
        split at h
        · obtain ⟨h1, h2⟩ := and2 h
          obtain ⟨h1, h3⟩ := and2 h1
          obtain ⟨h2, h4⟩ := and2 h2
          obtain ⟨h4, h5⟩ := and2 h4
          obtain ⟨a1, a2, a3, a4⟩ := nm_is C h1
          have em := of_decide_eq_true h3
          subst em
          exact (s_ext i a1 a2 h4 h2 (I.e _ _ h5) a3 a4).is fun r => by (rw [exS]) <;> rfl
        · cases h
      | put i kk e =>
        simp only [chkS] at h
        split at h
        · obtain ⟨h1, h2⟩ := and2 h
          obtain ⟨h2, h3⟩ := and2 h2
          obtain ⟨h3, h4⟩ := and2 h3
          obtain ⟨a1, a2, a3, a4⟩ := nm_is C h1
          exact (s_put i a1 a2 h2 (I.e _ _ h3) (I.e _ _ h4) a3 a4 (sw_tupS rfl) rfl).is fun r => by (rw [exS]) <;> rfl
        · cases h
      | drop e =>
        simp only [chkS] at h
        split at h
        · obtain ⟨h1, h2⟩ := and2 h
          exact (s_drop (I.e _ _ h2) (sw_none (by simpa using h1))).is fun r => by (rw [exS]) <;> rfl
        · cases h
      | ret e =>
        simp only [chkS] at h
        split at h
        · exact (s_ret (I.e _ _ h)).is fun r => by (rw [exS]) <;> rfl
        · cases h
      | ifs c a b =>
        simp only [chkS] at h
        split at h
        · obtain ⟨h1, h2⟩ := and2 h
          obtain ⟨h2, h3⟩ := and2 h2
          exact (s_if (I.t _ _ h1) (ihl _ _ h2) (ihl _ _ h3)).is fun r => by (rw [exS]) <;> rfl
        · cases h
      | for_ t it b =>
        simp only [chkS] at h
        split at h
        · obtain ⟨h1, h2⟩ := and2 h
          obtain ⟨h1, h3⟩ := and2 h1
          obtain ⟨h2, h4⟩ := and2 h2
          exact (s_for hp C.calm (I.i _ _ _ h2) (chkG_ok C _ _ h1) (ihl _ _ h4) h3).is fun r => by (rw [exS]) <;> rfl
        · cases h
      | wh c b =>
        simp only [chkS] at h
        split at h
        · obtain ⟨h1, h2⟩ := and2 h
          exact (s_while hp (I.t _ _ h1) (ihl _ _ h2)).is fun r => by (rw [exS]) <;> rfl
        · cases h
      | skip =>
        simp only [chkS] at h
        split at h
        · exact s_doc.is fun r => by (rw [exS]) <;> rfl
        · cases h
    · cases ss with
      | nil =>
        simp only [chkSs] at h
        have h := List.isEmpty_iff.mp h
        subst h
        exact ss_nil.is fun r => by (rw [exSs]) <;> rfl
      | cons a r =>
        simp only [chkSs] at h
        split at h
        · obtain ⟨h1, h2⟩ := and2 h
          exact (ss_cons (ihs _ _ h1) (ihl _ _ h2)).is fun r => by (rw [exSs]) <;> rfl
        · cases h
end
end Pd

set_option Elab.async false
set_option linter.all false
set_option maxRecDepth 100000
set_option maxHeartbeats 8000000
namespace Pd
open PySem PySem.Spec PyProof.Rows L2
structure Df where
  name : Str
  N : List Str
  np : Nat
  params : Arguments
  scope : Scope
  body : List Stmt
def Df.ps (d : Df) : List Str := d.N.take d.np
def isFree : NameKind → Bool
  | .free => true
  | _ => false
def scB (N ps : List Str) (sc : Scope) : Bool := (match sc.kind with
    | .function => true
    | _ => false) && (!sc.isCoroutine && (!sc.isGenerator && (decide N.Nodup && (decide (N.take ps.length = ps) && (ps.all (fun x => locB sc x) && sc.names.all fun y => !isFree y.2)))))
theorem scB_ok {N ps : List Str} {sc : Scope} (h : scB N ps sc = true) : FnScope N ps sc := by
  obtain ⟨h1, h⟩ := and2 h
  obtain ⟨h2, h⟩ := and2 h
  obtain ⟨h3, h⟩ := and2 h
  obtain ⟨h4, h⟩ := and2 h
  obtain ⟨h5, h⟩ := and2 h
  obtain ⟨h6, h7⟩ := and2 h
  refine ⟨?_, by simpa using h2, by simpa using h3, of_decide_eq_true h4, of_decide_eq_true h5, fun x hx => ?_, fun y hy e => ?_⟩
  · split at h1
    · assumption
    · cases h1
  · have := List.all_eq_true.mp h6 x hx
    unfold locB at this
    split at this
    · exact .inl (by assumption)
    · exact .inr (by assumption)
    · cases this
  · have := List.all_eq_true.mp h7 y hy
    rw [e] at this
    cases this
def dfB (Tw : String → Option Bool) (d : Df) (fn : Fn) : Bool :=
  scB d.N d.ps d.scope && (decide (fn.n = d.N.length) && (decide (d.ps.length = d.np) && (decide ((if fn.tw = true then fn.np + 2 else fn.np) = d.np) && chkSs Tw d.N 300 d.scope d.body fn.body)))
section
variable {P : Program} {w : World} {K : PySem.W.Frag} {mg : Str → Option Value} {base : Heap} {Φ : Tab} {k : Nat}
theorem er_start (O : List Addr) (n : Nat) (ds : List D) : (ds.map Sl.val ++ List.replicate n Sl.no).map (er O) = ds.map As.val ++ List.replicate n As.no := by
  rw [List.map_append, List.map_map, List.map_replicate]
  rfl
theorem spX_len {tw : Bool} {n : Nat} {F : List Int → List D → List D → Option (Rf × List D)} (h : ∀ ns t ds r, F ns t ds = some r → (if tw = true then ds.length + 2 else ds.length) = n) (vs : List V) (H : Hp) (Q : VK) (E : XK) (q : spX K tw F vs H Q E) : vs.length = n := by
  cases tw with
  | true =>
    obtain ⟨G, sa, b, ns, ts, vts, ws, ds, r, rfl, _, _, _, _, _, q, e, _⟩ := q
    have := h _ _ _ _ e
    rw [List.length_cons, List.length_cons, DqA.len q]
    simpa using this
  | false =>
    obtain ⟨G, ds, r, _, q, e, _⟩ := q
    have e : (F [] [] ds).map (·.1) = some r := e
    cases e2 : F [] [] ds with
    | none => rw [e2] at e; cases e
    | some z =>
      have := h _ _ _ _ e2
      rw [DqA.len q]
      simpa using this
theorem call_len {f : String} {fn : Fn} (hf : Φ f = some fn) : ∀ (k : Nat) ns t ds r, call Φ k f ns t ds = some r → ds.length = fn.np
  | 0, _, _, _, _, h => by cases h
  | k + 1, ns, t, ds, r, h => by
    rw [call, hf] at h
    have h : (if ds.length = fn.np ∧ (fn.tw = true ∨ t = []) then (exSs (call Φ k) fn.body (start0 fn ns t ds)).bind (endF fn t) else none) = some r := h
    split at h
    · rename_i z; exact z.1
    · cases h
theorem RvR.non {H0 G H : Hp} : RvR H0 G H .non (.v .none) := Dq.non
theorem df_ok {d : Df} {fn : Fn} {f : String} {qual : Str} {fa : Addr} {fd : FuncData} (hf : Φ f = some fn) (hb : dfB (fun f => (Φ f).map (·.tw)) d fn = true) (F : FunD K d.name qual d.params d.body d.scope [] [] fa fd) (hnf : ∀ b ∈ bltL, mg b = none)
    (cal : ∀ (X : Cx), X.prog = P → X.w = w → X.K = K → X.mg = mg → X.base = base → ∀ f t, (Φ f).map (·.tw) = some t → CalX X k (Str.ofString f) t (call Φ k f)) :
    FnOk P w K mg base CX0 (k + 1) fa fd d.ps (spX K fn.tw (call Φ (k + 1) f)) := by
  obtain ⟨h1, h⟩ := and2 hb
  obtain ⟨h2, h⟩ := and2 h
  obtain ⟨h3, h⟩ := and2 h
  obtain ⟨h4, h5⟩ := and2 h
  have S := scB_ok h1
  have e2 := of_decide_eq_true h2
  have e3 := of_decide_eq_true h3
  have e4 := of_decide_eq_true h4
  have hlen := fun ns t ds r => call_len (Φ := Φ) hf (k + 1) ns t ds r
  refine F.ok S (spX_len fun ns t ds r hr => ?_) fun cdv A outer s H vs Q E hr hsp => ?_
  · rw [hlen ns t ds r hr, e3]; exact e4
  have C : ∀ (O : List Addr), Cg (fun f => (Φ f).map (·.tw)) (call Φ k) k d.N (fun _ => true) d.scope (cxOf CX0 P w K mg base d.N qual d.scope fa cdv A outer s H E).nox := fun O =>
    ⟨rfl, S.nd, rfl, S.kind, rfl, hr, fun x _ => .inl rfl, rfl, hnf, cal _ rfl rfl rfl rfl rfl⟩
  have body := fun (O : List Addr) => ((snd_s (O := O) 300 (C O)).2 _ _ h5)
  cases htw : fn.tw with
  | false =>
    rw [htw] at hsp e4
    have e4 : fn.np = d.np := e4
    obtain ⟨G, ds, r, gs, q, e, kk⟩ := hsp
    have e : (call Φ (k + 1) f [] [] ds).map (·.1) = some r := e
    cases ecl : call Φ (k + 1) f [] [] ds with
    | none => rw [ecl] at e; cases e
    | some z =>
      rw [ecl] at e
      cases e
      rw [call, hf] at ecl
      have ecl : (if ds.length = fn.np ∧ (fn.tw = true ∨ ([] : List D) = []) then (exSs (call Φ k) fn.body (start0 fn [] [] ds)).bind (endF fn []) else none) = some z := ecl
      split at ecl
      case isFalse => cases ecl
      rename_i hnp
      obtain ⟨out, eo, ecl⟩ := bindS ecl
      have ow : owns (startE d.N.length ds) = [] := owns_start _ ds
      have st : start0 fn [] [] ds = (startE d.N.length ds).map (er []) := by
        unfold start0 startE
        rw [htw, if_neg Bool.false_ne_true, er_start, e2]
      have sv : Sv K [] ⟨G, H, []⟩ (start d.N vs) G H (startE d.N.length ds) (start0 fn [] [] ds) := by
        refine ⟨rfl, (fun a h => nomatch h), ?_, st.symm⟩
        refine ⟨Same.refl _, gs, fun _ _ e _ => e, fun _ h => h, fun _ h z => absurd z h, fun c h => ?_, ?_, ?_, fun c h => ?_⟩
        · rw [ow] at h; cases h
        · show Rho K G H (vs.map some ++ List.replicate (d.N.length - vs.length) none) (ds.map Sl.val ++ List.replicate (d.N.length - ds.length) .no)
          rw [DqA.len q]
          exact rho_start q
        · rw [ow]; exact List.nodup_nil
        · rw [ow] at h; cases h
      have fin : ∀ {v : V} {σ' : L2.St} {G' H' : Hp} {ρ' : Env} {r' : AE}, Sv K [] ⟨G, H, []⟩ σ' G' H' ρ' r' → RvR H G' H' v z.1 → Q v H' := fun {v σ' G' H' ρ' r'} s hv =>
        kk v G' H' s.at_.gg s.at_.gh (fun b o e => s.at_.hh b o e (fun z => nomatch z)) s.at_.fr hv
      refine ⟨_, (body []).nox, ⟨G, H, []⟩, G, _, _, out, sv, eo, ?_⟩
      cases out with
      | nx r' =>
        obtain ⟨t', _, ecl⟩ := bindS ecl
        cases ecl
        exact fun σ' G' H' ρ' s' _ => fin s' RvR.non
      | rt x r' =>
        obtain ⟨t', _, ecl⟩ := bindS ecl
        cases ecl
        exact fun v σ' G' H' ρ' s' _ hv => fin s' hv
  | true =>
    rw [htw] at hsp e4
    have e4 : fn.np + 2 = d.np := e4
    obtain ⟨G, sa, b, ns, ts, vts, ws, ds, z, rfl, gs, hsa, hb1, hb2, qt, q, ecl, kk⟩ := hsp
    rw [call, hf] at ecl
    have ecl : (if ds.length = fn.np ∧ (fn.tw = true ∨ ts = []) then (exSs (call Φ k) fn.body (start0 fn ns ts ds)).bind (endF fn ts) else none) = some z := ecl
    split at ecl
    case isFalse => cases ecl
    rename_i hnp
    obtain ⟨out, eo, ecl⟩ := bindS ecl
    have ow : owns (startT d.N.length ns b ts ds) = [b] := by
      show b :: owns _ = _
      rw [owns_start]
    have st : start0 fn ns ts ds = (startT d.N.length ns b ts ds).map (er [b]) := by
      unfold start0 startT
      rw [htw, if_pos rfl, List.map_cons, List.map_cons, er_start, e2]
      show _ = As.scr ns :: (if b ∈ [b] then As.twn ts else .own ts) :: _
      rw [if_pos List.mem_cons_self]
    have sv : Sv K [b] ⟨G, H, [b]⟩ (start d.N (.ref sa :: .ref b :: ws)) G H (startT d.N.length ns b ts ds) (start0 fn ns ts ds) := by
      refine ⟨rfl, fun a h => ?_, ?_, st.symm⟩
      · rw [List.mem_singleton.mp h]; show H b ≠ none; rw [hb1]; simp
      refine ⟨Same.refl _, gs, fun _ _ e _ => e, fun _ h => h, fun _ h z => absurd z h, fun c h => ?_, ?_, ?_, fun c h => ?_⟩
      · rw [ow] at h; exact .inl h
      · show Rho K G H (some (.ref sa) :: some (.ref b) :: (ws.map some ++ List.replicate (d.N.length - (ws.length + 2)) none)) _
        rw [DqA.len q]
        have : d.N.length - (ds.length + 2) = d.N.length - 2 - ds.length := by omega
        rw [this]
        exact .scr hsa (.own hb1 qt (rho_start q))
      · rw [ow]; simp
      · rw [ow] at h; rw [List.mem_singleton.mp h]; exact hb2
    have fin : ∀ {v : V} {σ' : L2.St} {G' H' : Hp} {ρ' : Env} {r' : AE}, Sv K [b] ⟨G, H, [b]⟩ σ' G' H' ρ' r' → town fn ts r' = some z.2 → RvR H G' H' v z.1 → Q v H' := fun {v σ' G' H' ρ' r'} s ht hv => by
      unfold town at ht
      rw [htw, if_pos rfl] at ht
      split at ht
      · rename_i t' q'
        cases ht
        obtain ⟨c, k3, k4⟩ := s.own q' (ds := z.2) rfl
        have hc : c = b := by
          by_cases hc : c ∈ [b]
          · exact List.mem_singleton.mp hc
          · rw [if_neg hc] at k4; cases k4
        subst hc
        obtain ⟨_, g2, vts', v1, v2⟩ := s.at_.getO k3
        exact kk v G' H' vts' s.at_.gh ⟨s.at_.gg, fun c' o n e => s.at_.hh c' o e fun z => n (List.mem_singleton.mp z), s.at_.dm, s.at_.fr⟩ v1 g2 v2 hv
      · cases ht
    refine ⟨_, (body [b]).nox, ⟨G, H, [b]⟩, G, _, _, out, sv, eo, ?_⟩
    cases out with
    | nx r' =>
      obtain ⟨t', ht, ecl⟩ := bindS ecl
      cases ecl
      exact fun σ' G' H' ρ' s' _ => fin s' ht RvR.non
    | rt x r' =>
      obtain ⟨t', ht, ecl⟩ := bindS ecl
      cases ecl
      exact fun v σ' G' H' ρ' s' _ hv => fin s' ht hv
structure DfOk (P : Program) (w : World) (K : PySem.W.Frag) (mg : Str → Option Value) (base : Heap) (Φ : Tab) (f : String) (fn : Fn) : Prop where
  ex : ∃ (d : Df) (qual : Str) (fa : Addr) (fd : FuncData), dfB (fun f => (Φ f).map (·.tw)) d fn = true ∧ FunD K d.name qual d.params d.body d.scope [] [] fa fd ∧ mg (Str.ofString f) = some (.ref fa) ∧ Binds K fd d.ps []
theorem tab_ok (hnf : ∀ b ∈ bltL, mg b = none) (H : ∀ f fn, Φ f = some fn → DfOk P w K mg base Φ f fn) : ∀ (k : Nat) (X : Cx), X.prog = P → X.w = w → X.K = K → X.mg = mg → X.base = base → ∀ f t, (Φ f).map (·.tw) = some t → CalX X k (Str.ofString f) t (call Φ k f)
  | 0, X, e1, e2, e3, e4, e5, f, t, hf => by
    cases hq : Φ f with
    | none => rw [hq] at hf; cases hf
    | some fn =>
      obtain ⟨d, qual, fa, fd, hb, F, hm, hB⟩ := (H f fn hq).ex
      subst e3 e4
      refine ⟨fa, fd, d.ps, hm, F.kp, hB, ?_⟩
      have no : ∀ {vs : List V} {H : Hp} {Q : VK} {E : XK}, spX X.K t (call Φ 0 f) vs H Q E → False := fun {vs H Q E} h => by
        cases t with
        | true => obtain ⟨G, sa, b, ns, ts, vts, ws, ds, r, _, _, _, _, _, _, _, e, _⟩ := h; cases e
        | false => obtain ⟨G, ds, r, _, _, e, _⟩ := h; cases e
      exact ⟨fun vs H Q E h => (no h).elim, fun A outer s H args us vs Q E hr e0 hbd r h => (no h).elim⟩
  | k + 1, X, e1, e2, e3, e4, e5, f, t, hf => by
    cases hq : Φ f with
    | none => rw [hq] at hf; cases hf
    | some fn =>
      rw [hq] at hf
      have ht : fn.tw = t := Option.some.inj hf
      subst ht
      obtain ⟨d, qual, fa, fd, hb, F, hm, hB⟩ := (H f fn hq).ex
      have ih := tab_ok hnf H k
      subst e1 e2 e3 e4 e5
      exact ⟨fa, fd, d.ps, hm, F.kp, hB, df_ok hq hb F hnf ih⟩
theorem law_ok {d : Df} {body : Iss} {qual : Str} {fa : Addr} {fd : FuncData} {s0 : Str} (hS : scB d.N [s0] d.scope = true) (hc : chkSs (fun f => (Φ f).map (·.tw)) d.N 300 d.scope d.body body = true) (F : FunD K d.name qual d.params d.body d.scope [] [] fa fd) (hnf : ∀ b ∈ bltL, mg b = none)
    (H : ∀ f fn, Φ f = some fn → DfOk P w K mg base Φ f fn) (yes : ∀ ns : List Int, ns.length ≤ 63 → ∃ r', exSs (call Φ k) body (.scr ns :: List.replicate (d.N.length - 1) .no) = some (.rt (.v (.bool true)) r')) :
    FnOk P w K mg base CX0 (k + 1) fa fd [s0] (spLaw K) := by
  have S := scB_ok hS
  refine F.ok S (fun vs H Q E h => ?_) fun cdv A outer s H0 vs Q E hr h => ?_
  · obtain ⟨sa, ns, rfl, _⟩ := h; rfl
  obtain ⟨sa, ns, rfl, hsa, hl, kk⟩ := h
  have C : Cg (fun f => (Φ f).map (·.tw)) (call Φ k) k d.N (fun _ => true) d.scope (cxOf CX0 P w K mg base d.N qual d.scope fa cdv A outer s H0 E).nox :=
    ⟨rfl, S.nd, rfl, S.kind, rfl, hr, fun x _ => .inl rfl, rfl, hnf, tab_ok hnf H k _ rfl rfl rfl rfl rfl⟩
  obtain ⟨r', eo⟩ := yes ns hl
  have ow : owns (startL d.N.length ns) = [] := owns_start _ []
  have sv : Sv K [] ⟨H0, H0, []⟩ (start d.N [.ref sa]) H0 H0 (startL d.N.length ns) (.scr ns :: List.replicate (d.N.length - 1) .no) := by
    refine ⟨rfl, (fun a h => nomatch h), ⟨Same.refl _, Same.refl _, fun _ _ e _ => e, fun _ h => h, fun _ h z => absurd z h, fun c h => ?_, ?_, ?_, fun c h => ?_⟩, ?_⟩
    · rw [ow] at h; cases h
    · exact .scr hsa (rho_start (vs := []) (ds := []) .nil)
    · rw [ow]; exact List.nodup_nil
    · rw [ow] at h; cases h
    · unfold startL
      rw [List.map_cons, List.map_replicate]
      rfl
  refine ⟨_, ((snd_s (O := []) 300 C).2 _ _ hc).nox, ⟨H0, H0, []⟩, H0, _, _, _, sv, eo, fun v σ' G' H' ρ' s' _ hv => ?_⟩
  have hv : Dq G' v (.bool true) := hv
  cases hv
  exact kk H'
end
end Pd

set_option Elab.async false
set_option linter.all false
set_option maxRecDepth 100000
set_option maxHeartbeats 8000000
namespace Pd
open PySem PySem.Spec PyProof.Rows L2
structure Ent where
  f : String
  d : Df
  fn : Fn
def Ent.dd (e : Ent) : He.DefD := ⟨(Str.ofString e.f, none), Str.ofString e.f, Str.ofString e.f, e.d.params, e.d.body, e.d.scope, [], []⟩
def fnL (ents : List Ent) : List He.DefD := ents.map Ent.dd
def faL (ents : List Ent) : List He.Fa := ents.map (fun e => .glo (Str.ofString e.f)) ++ bltL.map .free
def BindsS (d : Df) : Prop := ∀ (kV doc pm : Value) (an : Option Addr) (cdv ct : Value) (us : List Value), us.length = d.ps.length → bindArgs (PySem.W.fnOf d.name d.name d.params d.body d.scope .none kV doc pm an cdv ct) ⟨us, []⟩ = pure (d.ps.zip us)
theorem lookup_mem2 {α : Type} {f : String} {x : α} : ∀ {l : List (String × α)}, l.lookup f = some x → ∃ i : Nat, l[i]? = some (f, x)
  | [], h => by cases h
  | (g, y) :: r, h => by
    rw [List.lookup_cons] at h
    split at h
    · rename_i e
      cases h
      have : f = g := by simpa using e
      subst this
      exact ⟨0, rfl⟩
    · obtain ⟨i, hi⟩ := lookup_mem2 h
      exact ⟨i + 1, by simpa using hi⟩
def entT (ents : List Ent) : Tab := fun f => (ents.map fun e => (e.f, e.fn)).lookup f
structure EntOk (Tw : String → Option Bool) (e : Ent) : Prop where
  nm : e.d.name = Str.ofString e.f
  ck : dfB Tw e.d e.fn = true
  bd : BindsS e.d
section
variable {P : Program} {w : World} {K : PySem.W.Frag} {mg : Str → Option Value} {base h : Heap}
theorem app_get {α : Type} {l m : List α} {i : Nat} {x : α} (h : l[i]? = some x) : (l ++ m)[i]? = some x := by
  rw [List.getElem?_append_left (List.getElem?_eq_some_iff.mp h).1]; exact h
theorem facts_tab {ents : List Ent} {fa2 : List He.Fa} {fn2 : List He.DefD} (X : K.In h) (G : h.Ns mainGlobals mg) (c : He.SaysD (faL ents ++ fa2) (fnL ents ++ fn2) K) (hok : ∀ e ∈ ents, EntOk (fun f => (entT ents f).map (·.tw)) e) : (∀ b ∈ bltL, mg b = none) ∧ ∀ base f fn, entT ents f = some fn → DfOk P w K mg base (entT ents) f fn := by
  refine ⟨fun b hb => ?_, fun base f fn hf => ?_⟩
  · obtain ⟨i, hi⟩ := List.mem_iff_getElem?.mp (show He.Fa.free b ∈ faL ents from List.mem_append_right _ (List.mem_map.mpr ⟨b, hb, rfl⟩))
    exact He.free_ok X G (c.fact i (app_get hi))
  · obtain ⟨i, hi⟩ := lookup_mem2 hf
    rw [List.getElem?_map] at hi
    cases he : ents[i]? with
    | none => rw [he] at hi; cases hi
    | some e =>
      rw [he] at hi
      have hi : (e.f, e.fn) = (f, fn) := Option.some.inj hi
      cases hi
      have ok := hok e (List.mem_of_getElem? he)
      obtain ⟨fd, F⟩ := c.def_ i (d := e.dd) (app_get (by unfold fnL; rw [List.getElem?_map, he]; rfl))
      have g := He.glo_ok X G (c.fact i (f := .glo (Str.ofString e.f)) (app_get (by
        unfold faL
        rw [List.getElem?_append_left (by rw [List.length_map]; exact (List.getElem?_eq_some_iff.mp he).1), List.getElem?_map, he]; rfl)))
      have F' : FunD K (Str.ofString e.f) (Str.ofString e.f) e.d.params e.d.body e.d.scope [] [] (He.fAd K (Str.ofString e.f, none)) fd := F
      have bd := ok.bd
      unfold BindsS at bd
      rw [ok.nm] at bd
      exact ⟨e.d, Str.ofString e.f, _, fd, ok.ck, by rw [ok.nm]; exact F', g, F'.bindsN bd⟩
theorem facts_law {ents : List Ent} {dl : Df} {body : Iss} {fa : Addr} {k : Nat} (X : K.In h) (G : h.Ns mainGlobals mg) (c : He.SaysD (faL ents ++ [.glo "law"]) (fnL ents ++ [⟨("law", none), "law", "law", dl.params, dl.body, dl.scope, [], []⟩]) K) (hok : ∀ e ∈ ents, EntOk (fun f => (entT ents f).map (·.tw)) e)
    (nm : dl.name = "law") (hS : scB dl.N ["_law_script"] dl.scope = true) (hc : chkSs (fun f => (entT ents f).map (·.tw)) dl.N 300 dl.scope dl.body body = true) (bd : ∀ (kV doc pm : Value) (an : Option Addr) (cdv ct : Value) (us : List Value), us.length = 1 → bindArgs (PySem.W.fnOf "law" "law" dl.params dl.body dl.scope .none kV doc pm an cdv ct) ⟨us, []⟩ = pure ((["_law_script"] : List Str).zip us))
    (hfa : mg ("law" : Str) = some (.ref fa)) (yes : ∀ ns : List Int, ns.length ≤ 63 → ∃ r', exSs (call (entT ents) k) body (.scr ns :: List.replicate (dl.N.length - 1) .no) = some (.rt (.v (.bool true)) r')) :
    ∃ fd : FuncData, (∀ (s : Shared) (v : Value), BindsTo s fd ⟨[v], []⟩ [("_law_script", v)]) ∧ ∀ base : Heap, K.In base → base.Ns mainGlobals mg → FnOk P w K mg base CX0 (k + 1) fa fd ["_law_script"] (spLaw K) := by
  obtain ⟨hnf, htab⟩ := facts_tab (P := P) (w := w) X G c hok
  have l1 : (faL ents ++ [He.Fa.glo "law"])[(faL ents).length]? = some (.glo "law") := by rw [List.getElem?_append_right (Nat.le_refl _), Nat.sub_self]; rfl
  have l2 : (fnL ents ++ [(⟨("law", none), "law", "law", dl.params, dl.body, dl.scope, [], []⟩ : He.DefD)])[(fnL ents).length]? = some ⟨("law", none), "law", "law", dl.params, dl.body, dl.scope, [], []⟩ := by rw [List.getElem?_append_right (Nat.le_refl _), Nat.sub_self]; rfl
  obtain ⟨fd, F⟩ := c.def_ _ l2
  have g := He.glo_ok X G (c.fact _ l1)
  have e := hfa.symm.trans g
  cases e
  have F' : FunD K "law" "law" dl.params dl.body dl.scope [] [] (He.fAd K ("law", none)) fd := F
  have b := FunD.bindsA (ps := ["_law_script"]) F' bd
  refine ⟨fd, fun s v => b s [v] rfl, fun base _ _ => ?_⟩
  exact law_ok hS hc (by rw [nm]; exact F') hnf (htab base) yes
end
theorem bs_ok {d : Df} {n : Nat} (hl : d.ps.length = n) (h : ∀ (kV doc pm : Value) (an : Option Addr) (cdv ct : Value) (us : List Value), us.length = n → bindArgs (PySem.W.fnOf d.name d.name d.params d.body d.scope .none kV doc pm an cdv ct) ⟨us, []⟩ = pure (d.ps.zip us)) : BindsS d := fun kV doc pm an cdv ct us hu => h kV doc pm an cdv ct us (hu.trans hl)
end Pd

set_option Elab.async false
set_option linter.all false
set_option maxRecDepth 100000
namespace Pd
def i_divisor : Fn := ⟨false, 2, 2, (.cons (.wh (.nm 1)
  (.cons (.par 0 1 (.nm 1) (.bin .mod (.nm 0) (.nm 1)))
  .nil))
  (.cons (.ret (.nm 0))
  .nil))⟩
class H_divisor (Φ : Tab) : Prop where
  eq : Φ "divisor" = some i_divisor
def i_lowest : Fn := ⟨false, 2, 3, (.cons (.set 2 (.call "divisor" (.cons (.nm 0) (.cons (.nm 1) .nil))))
  (.cons (.ret (.tup (.cons (.bin .div (.nm 0) (.nm 2)) (.cons (.bin .div (.nm 1) (.nm 2)) .nil))))
  .nil))⟩
class H_lowest (Φ : Tab) : Prop where
  eq : Φ "lowest" = some i_lowest
def i_share_of : Fn := ⟨false, 1, 1, (.cons (.ret (.call "lowest" (.cons (.ix (.nm 0) (.int 1)) (.cons (.bin .add (.ix (.nm 0) (.int 0)) (.ix (.nm 0) (.int 1))) .nil))))
  .nil)⟩
class H_share_of (Φ : Tab) : Prop where
  eq : Φ "share_of" = some i_share_of
def i_l_same : Fn := ⟨false, 2, 4, (.cons (.ifs (.cmp .is (.nm 1) .non) (.cons (.ret (.cmp .is (.nm 0) .non))
  .nil)
  .nil)
  (.cons (.ifs (.isi (.nm 1) .bool) (.cons (.ret (.and (.isi (.nm 0) .bool) (.cmp .eq (.nm 0) (.nm 1))))
  .nil)
  .nil)
  (.cons (.ifs (.isi (.nm 1) .tuple) (.cons (.ifs (.or (.not (.isi (.nm 0) .tuple)) (.cmp .ne (.bi .len (.nm 0)) (.bi .len (.nm 1)))) (.cons (.ret (.bl false))
  .nil)
  .nil)
  (.cons (.ret (.bi .all (.lc [2, 3] (.t2 (.n 2) (.n 3)) (.zip (.nm 0) (.nm 1)) .no (.call "_law_same" (.cons (.nm 2) (.cons (.nm 3) .nil))))))
  .nil))
  .nil)
  (.cons (.ifs (.isi (.nm 1) .str) (.cons (.ret (.and (.isi (.nm 0) .str) (.cmp .eq (.nm 0) (.nm 1))))
  .nil)
  .nil)
  (.cons (.ret (.and (.isi (.nm 0) .int) (.and (.not (.isi (.nm 0) .bool)) (.cmp .eq (.nm 0) (.nm 1)))))
  .nil)))))⟩
class H_l_same (Φ : Tab) : Prop where
  eq : Φ "_law_same" = some i_l_same
def i_l_draw : Fn := ⟨true, 1, 8, (.cons (.ifs (.not (.nm 1)) (.cons (.app 1 (.bi .max (.bin .add (.lc [3] (.n 3) (.scr 0) .no (.bi .abs (.nm 3))) (.lst (.cons (.int 0) .nil)))))
  .nil)
  .nil)
  (.cons (.app 1 (.int 0))
  (.cons (.set 4 (.bi .len (.nm 1)))
  (.cons (.set 3 (.ite (.stru 0) (.six 0 (.bin .mod (.nm 4) (.slen 0))) (.int 0)))
  (.cons (.set 5 (.bin .mod (.ix (.nm 1) (.int 0)) (.int 65536)))
  (.cons (.put 1 (.int 0) (.bin .div (.ix (.nm 1) (.int 0)) (.int 65536)))
  (.cons (.set 6 (.bin .mod (.bin .add (.bin .add (.nm 3) (.bin .mul (.int 40503) (.nm 5))) (.bin .mul (.int 104729) (.nm 4))) (.int 4294967291)))
  (.cons (.set 6 (.bin .mod (.bin .mul (.bin .mod (.bin .mul (.nm 6) (.nm 6)) (.int 4294967279)) (.int 48271)) (.int 4294967291)))
  (.cons (.set 7 (.bin .mod (.bin .mul (.bin .mod (.bin .mul (.nm 6) (.nm 6)) (.int 4294967279)) (.int 69621)) (.int 4294967291)))
  (.cons (.ret (.bin .mod (.bin .add (.bin .mul (.bin .div (.nm 6) (.int 64)) (.int 67108864)) (.bin .div (.nm 7) (.int 64))) (.nm 2)))
  .nil))))))))))⟩
class H_l_draw (Φ : Tab) : Prop where
  eq : Φ "_law_draw" = some i_l_draw
def i_l_pick : Fn := ⟨true, 1, 3, (.cons (.ret (.ix (.nm 2) (.callT "_law_draw" 0 1 (.cons (.bi .len (.nm 2)) .nil))))
  .nil)⟩
class H_l_pick (Φ : Tab) : Prop where
  eq : Φ "_law_pick" = some i_l_pick
def i_l_low : Fn := ⟨false, 2, 4, (.cons (.par 2 3 (.nm 0) (.nm 1))
  (.cons (.wh (.cmp .ne (.nm 3) (.int 0))
  (.cons (.par 2 3 (.nm 3) (.bin .mod (.nm 2) (.nm 3)))
  .nil))
  (.cons (.ret (.tup (.cons (.bin .div (.nm 0) (.nm 2)) (.cons (.bin .div (.nm 1) (.nm 2)) .nil))))
  .nil)))⟩
class H_l_low (Φ : Tab) : Prop where
  eq : Φ "_law_low" = some i_l_low
def i_l_drawn_price : Fn := ⟨true, 0, 4, (.cons (.ifs (.cmp .eq (.callT "_law_draw" 0 1 (.cons (.int 3) .nil)) (.int 0)) (.cons (.set 2 (.lst (.cons (.tup (.cons (.int 1) (.cons (.int 1) .nil))) (.cons (.tup (.cons (.int 5) (.cons (.int 2) .nil))) (.cons (.tup (.cons (.int 1) (.cons (.int 4) .nil))) (.cons (.tup (.cons (.int 10) (.cons (.int 11) .nil))) (.cons (.tup (.cons (.int 1000) (.cons (.int 1) .nil))) (.cons (.tup (.cons (.int 1) (.cons (.int 1000) .nil))) (.cons (.tup (.cons (.int 100) (.cons (.int 7) .nil))) (.cons (.tup (.cons (.int 1000) (.cons (.int 999) .nil))) (.cons (.tup (.cons (.int 333) (.cons (.int 1000) .nil))) (.cons (.tup (.cons (.int 7) (.cons (.int 2) .nil))) .nil))))))))))))
  (.cons (.ret (.callT "_law_pick" 0 1 (.cons (.nm 2) .nil)))
  .nil))
  .nil)
  (.cons (.set 3 (.callT "_law_pick" 0 1 (.cons (.lst (.cons (.int 3) (.cons (.int 8) (.cons (.int 30) .nil)))) .nil)))
  (.cons (.ret (.call "_law_low" (.cons (.bin .add (.int 1) (.callT "_law_draw" 0 1 (.cons (.nm 3) .nil))) (.cons (.bin .add (.int 1) (.callT "_law_draw" 0 1 (.cons (.nm 3) .nil))) .nil))))
  .nil)))⟩
class H_l_drawn_price (Φ : Tab) : Prop where
  eq : Φ "_law_drawn_price" = some i_l_drawn_price
def i_is_less : Fn := ⟨false, 2, 2, (.cons (.ret (.cmp .lt (.bin .mul (.ix (.nm 0) (.int 0)) (.ix (.nm 1) (.int 1))) (.bin .mul (.ix (.nm 1) (.int 0)) (.ix (.nm 0) (.int 1)))))
  .nil)⟩
class H_is_less (Φ : Tab) : Prop where
  eq : Φ "is_less" = some i_is_less
def i_is_longer : Fn := ⟨false, 2, 2, (.cons (.ret (.call "is_less" (.cons (.nm 1) (.cons (.nm 0) .nil))))
  .nil)⟩
class H_is_longer (Φ : Tab) : Prop where
  eq : Φ "is_longer" = some i_is_longer
def i_plus : Fn := ⟨false, 2, 2, (.cons (.ret (.call "lowest" (.cons (.bin .add (.bin .mul (.ix (.nm 0) (.int 0)) (.ix (.nm 1) (.int 1))) (.bin .mul (.ix (.nm 1) (.int 0)) (.ix (.nm 0) (.int 1)))) (.cons (.bin .mul (.ix (.nm 0) (.int 1)) (.ix (.nm 1) (.int 1))) .nil))))
  .nil)⟩
class H_plus (Φ : Tab) : Prop where
  eq : Φ "plus" = some i_plus
def i_over_by : Fn := ⟨false, 2, 2, (.cons (.ret (.call "lowest" (.cons (.bin .mul (.ix (.nm 0) (.int 0)) (.ix (.nm 1) (.int 1))) (.cons (.bin .mul (.ix (.nm 0) (.int 1)) (.ix (.nm 1) (.int 0))) .nil))))
  .nil)⟩
class H_over_by (Φ : Tab) : Prop where
  eq : Φ "over_by" = some i_over_by
def i_total_of : Fn := ⟨false, 1, 3, (.cons (.set 1 (.tup (.cons (.int 0) (.cons (.int 1) .nil))))
  (.cons (.for_ (.n 2) (.e (.nm 0))
  (.cons (.set 1 (.call "plus" (.cons (.nm 1) (.cons (.nm 2) .nil))))
  .nil))
  (.cons (.ret (.nm 1))
  .nil)))⟩
class H_total_of (Φ : Tab) : Prop where
  eq : Φ "total_of" = some i_total_of
def i_l_summed : Fn := ⟨false, 1, 4, (.cons (.unp (.t2 (.n 1) (.n 2)) (.tup (.cons (.int 0) (.cons (.int 1) .nil))))
  (.cons (.for_ (.n 3) (.e (.nm 0))
  (.cons (.par 1 2 (.bin .add (.bin .mul (.nm 1) (.ix (.nm 3) (.int 1))) (.bin .mul (.ix (.nm 3) (.int 0)) (.nm 2))) (.bin .mul (.nm 2) (.ix (.nm 3) (.int 1))))
  .nil))
  (.cons (.ret (.call "_law_low" (.cons (.nm 1) (.cons (.nm 2) .nil))))
  .nil)))⟩
class H_l_summed (Φ : Tab) : Prop where
  eq : Φ "_law_summed" = some i_l_summed
def i_l_drawn_event : Fn := ⟨true, 1, 6, (.cons (.set 3 (.bin .add (.int 2) (.callT "_law_draw" 0 1 (.cons (.bin .sub (.nm 2) (.int 1)) .nil))))
  (.cons (.set 4 (.bi .tup (.lc [5] (.n 5) (.r1 (.nm 3)) .no (.callT "_law_drawn_price" 0 1 .nil))))
  (.cons (.ret (.tup (.cons (.nm 4) (.cons (.bin .add (.int 1) (.callT "_law_draw" 0 1 (.cons (.bi2 .min2 (.int 4) (.bin .sub (.nm 3) (.int 1))) .nil))) (.cons (.bin .add (.int 1) (.callT "_law_draw" 0 1 (.cons (.int 5) .nil))) .nil)))))
  .nil)))⟩
class H_l_drawn_event (Φ : Tab) : Prop where
  eq : Φ "_law_drawn_event" = some i_l_drawn_event
def i_times : Fn := ⟨false, 2, 2, (.cons (.ret (.call "lowest" (.cons (.bin .mul (.ix (.nm 0) (.int 0)) (.ix (.nm 1) (.int 0))) (.cons (.bin .mul (.ix (.nm 0) (.int 1)) (.ix (.nm 1) (.int 1))) .nil))))
  .nil)⟩
class H_times (Φ : Tab) : Prop where
  eq : Φ "times" = some i_times
def i_best_prices : Fn := ⟨false, 1, 5, (.cons (.set 1 (.lst .nil))
  (.cons (.for_ (.n 2) (.r1 (.bi .len (.ix (.ix (.nm 0) (.int 0)) (.int 0))))
  (.cons (.set 3 (.int 0))
  (.cons (.for_ (.n 4) (.r2 (.int 1) (.bi .len (.nm 0)))
  (.cons (.ifs (.call "is_longer" (.cons (.ix (.ix (.ix (.nm 0) (.nm 4)) (.int 0)) (.nm 2)) (.cons (.ix (.ix (.ix (.nm 0) (.nm 3)) (.int 0)) (.nm 2)) .nil))) (.cons (.set 3 (.nm 4))
  .nil)
  .nil)
  .nil))
  (.cons (.app 1 (.tup (.cons (.ix (.ix (.ix (.nm 0) (.nm 3)) (.int 0)) (.nm 2)) (.cons (.nm 3) .nil))))
  .nil))))
  (.cons (.ret (.bi .tup (.nm 1)))
  .nil)))⟩
class H_best_prices (Φ : Tab) : Prop where
  eq : Φ "best_prices" = some i_best_prices
def i_best_round : Fn := ⟨false, 1, 3, (.cons (.ret (.call "total_of" (.cons (.lc [1, 2] (.t2 (.n 1) (.n 2)) (.e (.call "best_prices" (.cons (.nm 0) .nil))) .no (.call "share_of" (.cons (.nm 1) .nil))) .nil)))
  .nil)⟩
class H_best_round (Φ : Tab) : Prop where
  eq : Φ "best_round" = some i_best_round
def i_l_product : Fn := ⟨false, 1, 4, (.cons (.unp (.t2 (.n 1) (.n 2)) (.tup (.cons (.int 1) (.cons (.int 1) .nil))))
  (.cons (.for_ (.n 3) (.e (.nm 0))
  (.cons (.par 1 2 (.bin .mul (.nm 1) (.ix (.nm 3) (.int 0))) (.bin .mul (.nm 2) (.ix (.nm 3) (.int 1))))
  .nil))
  (.cons (.ret (.call "_law_low" (.cons (.nm 1) (.cons (.nm 2) .nil))))
  .nil)))⟩
class H_l_product (Φ : Tab) : Prop where
  eq : Φ "_law_product" = some i_l_product
def i_l_mixed : Fn := ⟨true, 1, 5, (.cons (.par 3 4 (.bi .lst (.nm 2)) (.lst .nil))
  (.cons (.wh (.nm 3)
  (.cons (.app 4 (.pop 3 (.yes (.callT "_law_draw" 0 1 (.cons (.bi .len (.nm 3)) .nil)))))
  .nil))
  (.cons (.ret (.nm 4))
  .nil)))⟩
class H_l_mixed (Φ : Tab) : Prop where
  eq : Φ "_law_mixed" = some i_l_mixed
def i_l_drawn_result : Fn := ⟨true, 1, 8, (.cons (.set 3 (.callT "_law_mixed" 0 1 (.cons (.bi2 .lrg (.int 0) (.bi .len (.ix (.nm 2) (.int 0)))) .nil)))
  (.cons (.set 4 (.callT "_law_pick" 0 1 (.cons (.lst (.cons (.int 0) (.cons (.int 0) (.cons (.int 0) (.cons (.int 1) (.cons (.int 1) (.cons (.int 2) (.cons (.bi .len (.nm 3)) .nil)))))))) .nil)))
  (.cons (.par 5 3 (.bi .sorted (.cut (.nm 3) .no (.yes (.nm 4)))) (.cut (.nm 3) (.yes (.nm 4)) .no))
  (.cons (.set 3 (.cut (.nm 3) .no (.yes (.callT "_law_pick" 0 1 (.cons (.lst (.cons (.bi .len (.nm 3)) (.cons (.bi .len (.nm 3)) (.cons (.int 1) (.cons (.int 2) (.cons (.callT "_law_draw" 0 1 (.cons (.bin .add (.bi .len (.nm 3)) (.int 1)) .nil)) .nil)))))) .nil)))))
  (.cons (.set 6 (.lst .nil))
  (.cons (.wh (.nm 3)
  (.cons (.set 7 (.callT "_law_pick" 0 1 (.cons (.lst (.cons (.int 1) (.cons (.int 1) (.cons (.int 1) (.cons (.int 2) (.cons (.int 3) .nil)))))) .nil)))
  (.cons (.app 6 (.bi .tup (.bi .sorted (.cut (.nm 3) .no (.yes (.nm 7))))))
  (.cons (.set 3 (.cut (.nm 3) (.yes (.nm 7)) .no))
  .nil))))
  (.cons (.ret (.tup (.cons (.bi .tup (.nm 5)) (.cons (.bi .tup (.nm 6)) .nil))))
  .nil)))))))⟩
class H_l_drawn_result (Φ : Tab) : Prop where
  eq : Φ "_law_drawn_result" = some i_l_drawn_result
def i_win_share : Fn := ⟨false, 2, 3, (.cons (.set 2 (.ix (.nm 0) (.int 1)))
  (.cons (.ifs (.or (.not (.nm 2)) (.cmp .notin (.nm 1) (.ix (.nm 2) (.int 0)))) (.cons (.ret (.tup (.cons (.int 0) (.cons (.int 1) .nil))))
  .nil)
  .nil)
  (.cons (.ret (.tup (.cons (.int 1) (.cons (.bi .len (.ix (.nm 2) (.int 0))) .nil))))
  .nil)))⟩
class H_win_share (Φ : Tab) : Prop where
  eq : Φ "win_share" = some i_win_share
def i_place_share : Fn := ⟨false, 3, 5, (.cons (.set 3 (.int 0))
  (.cons (.for_ (.n 4) (.e (.ix (.nm 1) (.int 1)))
  (.cons (.ifs (.cmp .in_ (.nm 2) (.nm 4)) (.cons (.ret (.call "lowest" (.cons (.bi2 .max2 (.int 0) (.bi2 .min2 (.bin .sub (.ix (.nm 0) (.int 1)) (.nm 3)) (.bi .len (.nm 4)))) (.cons (.bi .len (.nm 4)) .nil))))
  .nil)
  .nil)
  (.cons (.set 3 (.bin .add (.nm 3) (.bi .len (.nm 4))))
  .nil)))
  (.cons (.ret (.tup (.cons (.int 0) (.cons (.int 1) .nil))))
  .nil)))⟩
class H_place_share (Φ : Tab) : Prop where
  eq : Φ "place_share" = some i_place_share
def i_l_first_share : Fn := ⟨false, 2, 3, (.cons (.set 2 (.bi .lst (.cut (.ix (.nm 0) (.int 1)) .no (.yes (.int 1)))))
  (.cons (.ret (.ite (.and (.nm 2) (.cmp .in_ (.nm 1) (.ix (.nm 2) (.int 0)))) (.tup (.cons (.int 1) (.cons (.bi .len (.ix (.nm 2) (.int 0))) .nil))) (.tup (.cons (.int 0) (.cons (.int 1) .nil)))))
  .nil))⟩
class H_l_first_share (Φ : Tab) : Prop where
  eq : Φ "_law_first_share" = some i_l_first_share
def i_l_paid_share : Fn := ⟨false, 3, 7, (.cons (.set 3 (.int 0))
  (.cons (.for_ (.n 4) (.e (.ix (.nm 1) (.int 1)))
  (.cons (.set 5 (.lc [6] (.n 6) (.r2 (.nm 3) (.bin .add (.nm 3) (.bi .len (.nm 4)))) (.yes (.cmp .lt (.nm 6) (.ix (.nm 0) (.int 1)))) (.nm 6)))
  (.cons (.ifs (.cmp .in_ (.nm 2) (.nm 4)) (.cons (.ret (.call "_law_low" (.cons (.bi .len (.nm 5)) (.cons (.bi .len (.nm 4)) .nil))))
  .nil)
  .nil)
  (.cons (.set 3 (.bin .add (.nm 3) (.bi .len (.nm 4))))
  .nil))))
  (.cons (.ret (.tup (.cons (.int 0) (.cons (.int 1) .nil))))
  .nil)))⟩
class H_l_paid_share (Φ : Tab) : Prop where
  eq : Φ "_law_paid_share" = some i_l_paid_share
def i_l_drawn_card : Fn := ⟨true, 2, 5, (.cons (.ret (.bi .tup (.lc [4] (.n 4) (.r1 (.bin .add (.int 1) (.callT "_law_draw" 0 1 (.cons (.nm 2) .nil)))) .no (.callT "_law_drawn_event" 0 1 (.cons (.nm 3) .nil)))))
  .nil)⟩
class H_l_drawn_card (Φ : Tab) : Prop where
  eq : Φ "_law_drawn_card" = some i_l_drawn_card
def i_l_drawn_slip : Fn := ⟨true, 2, 13, (.cons (.set 4 (.bin .add (.int 1) (.callT "_law_draw" 0 1 (.cons (.bi2 .min2 (.nm 3) (.bi .len (.nm 2))) .nil))))
  (.cons (.set 5 (.bi .sorted (.cut (.callT "_law_mixed" 0 1 (.cons (.bi2 .lrg (.int 0) (.bi .len (.nm 2))) .nil)) .no (.yes (.nm 4)))))
  (.cons (.set 6 (.lst .nil))
  (.cons (.for_ (.n 7) (.e (.nm 5))
  (.cons (.set 8 (.callT "_law_draw" 0 1 (.cons (.bi .len (.ix (.ix (.nm 2) (.nm 7)) (.int 0))) .nil)))
  (.cons (.set 9 (.ix (.ix (.ix (.nm 2) (.nm 7)) (.int 0)) (.nm 8)))
  (.cons (.ifs (.cmp .eq (.callT "_law_draw" 0 1 (.cons (.int 4) .nil)) (.int 0)) (.cons (.set 9 (.callT "_law_drawn_price" 0 1 .nil))
  .nil)
  .nil)
  (.cons (.app 6 (.tup (.cons (.nm 7) (.cons (.nm 8) (.cons (.nm 9) .nil)))))
  .nil)))))
  (.cons (.set 10 (.lc [11] (.n 11) (.r2 (.int 1) (.bin .add (.bi .len (.nm 6)) (.int 1))) (.yes (.cmp .eq (.callT "_law_draw" 0 1 (.cons (.int 2) .nil)) (.int 0))) (.nm 11)))
  (.cons (.set 12 (.callT "_law_pick" 0 1 (.cons (.lst (.cons (.int 1) (.cons (.int 2) (.cons (.int 7) (.cons (.int 100) (.cons (.int 250) (.cons (.int 1000000) .nil))))))) .nil)))
  (.cons (.ret (.tup (.cons (.bi .tup (.nm 6)) (.cons (.bi .tup (.or (.nm 10) (.lst (.cons (.bi .len (.nm 6)) .nil)))) (.cons (.nm 12) (.cons (.cmp .eq (.callT "_law_draw" 0 1 (.cons (.int 2) .nil)) (.int 0)) .nil))))))
  .nil)))))))⟩
class H_l_drawn_slip (Φ : Tab) : Prop where
  eq : Φ "_law_drawn_slip" = some i_l_drawn_slip
def i_how_many : Fn := ⟨false, 2, 4, (.cons (.set 2 (.int 1))
  (.cons (.for_ (.n 3) (.r1 (.nm 1))
  (.cons (.set 2 (.bin .div (.bin .mul (.nm 2) (.bin .sub (.nm 0) (.nm 3))) (.bin .add (.nm 3) (.int 1))))
  .nil))
  (.cons (.ret (.nm 2))
  .nil)))⟩
class H_how_many (Φ : Tab) : Prop where
  eq : Φ "how_many" = some i_how_many
def i_times_of : Fn := ⟨false, 1, 1, (.cons (.ret (.ite (.ix (.nm 0) (.int 3)) (.int 2) (.int 1)))
  .nil)⟩
class H_times_of (Φ : Tab) : Prop where
  eq : Φ "times_of" = some i_times_of
def i_line_count : Fn := ⟨false, 1, 2, (.cons (.ret (.bin .mul (.call "times_of" (.cons (.nm 0) .nil)) (.bi .sum (.lc [1] (.n 1) (.e (.ix (.nm 0) (.int 1))) .no (.call "how_many" (.cons (.bi .len (.ix (.nm 0) (.int 0))) (.cons (.nm 1) .nil)))))))
  .nil)⟩
class H_line_count (Φ : Tab) : Prop where
  eq : Φ "line_count" = some i_line_count
def i_back_of : Fn := ⟨false, 1, 1, (.cons (.ret (.call "lowest" (.cons (.bin .add (.ix (.nm 0) (.int 0)) (.ix (.nm 0) (.int 1))) (.cons (.ix (.nm 0) (.int 1)) .nil))))
  .nil)⟩
class H_back_of (Φ : Tab) : Prop where
  eq : Φ "back_of" = some i_back_of
def i_place_back : Fn := ⟨false, 2, 2, (.cons (.ret (.call "lowest" (.cons (.bin .add (.bin .mul (.ix (.nm 0) (.int 1)) (.nm 1)) (.ix (.nm 0) (.int 0))) (.cons (.bin .mul (.ix (.nm 0) (.int 1)) (.nm 1)) .nil))))
  .nil)⟩
class H_place_back (Φ : Tab) : Prop where
  eq : Φ "place_back" = some i_place_back
def i_factor : Fn := ⟨false, 4, 8, (.cons (.unp (.t3 (.n 4) (.n 5) (.n 6)) (.nm 1))
  (.cons (.set 7 (.ix (.nm 2) (.nm 4)))
  (.cons (.ifs (.cmp .is (.nm 7) .non) (.cons (.ret .non)
  .nil)
  .nil)
  (.cons (.ifs (.cmp .in_ (.nm 5) (.ix (.nm 7) (.int 0))) (.cons (.ret (.tup (.cons (.int 1) (.cons (.int 1) .nil))))
  .nil)
  .nil)
  (.cons (.ifs (.nm 3) (.cons (.ret (.call "times" (.cons (.call "place_share" (.cons (.ix (.nm 0) (.nm 4)) (.cons (.nm 7) (.cons (.nm 5) .nil)))) (.cons (.call "place_back" (.cons (.nm 6) (.cons (.ix (.ix (.nm 0) (.nm 4)) (.int 2)) .nil))) .nil))))
  .nil)
  .nil)
  (.cons (.ret (.call "times" (.cons (.call "win_share" (.cons (.nm 7) (.cons (.nm 5) .nil))) (.cons (.call "back_of" (.cons (.nm 6) .nil)) .nil))))
  .nil))))))⟩
class H_factor (Φ : Tab) : Prop where
  eq : Φ "factor" = some i_factor
def i_l_drawn_results : Fn := ⟨true, 2, 7, (.cons (.set 4 (.lst .nil))
  (.cons (.for_ (.n 5) (.e (.nm 2))
  (.cons (.set 6 (.cmp .ge (.callT "_law_draw" 0 1 (.cons (.int 4) .nil)) (.nm 3)))
  (.cons (.app 4 (.ite (.nm 6) (.callT "_law_drawn_result" 0 1 (.cons (.nm 5) .nil)) .non))
  .nil)))
  (.cons (.ret (.bi .tup (.nm 4)))
  .nil)))⟩
class H_l_drawn_results (Φ : Tab) : Prop where
  eq : Φ "_law_drawn_results" = some i_l_drawn_results
def i_l_leg_factor : Fn := ⟨false, 4, 10, (.cons (.unp (.t3 (.n 4) (.n 5) (.t2 (.n 6) (.n 7))) (.nm 1))
  (.cons (.set 8 (.ix (.nm 2) (.nm 4)))
  (.cons (.ifs (.or (.cmp .is (.nm 8) .non) (.cmp .in_ (.nm 5) (.ix (.nm 8) (.int 0)))) (.cons (.ret (.ite (.cmp .is (.nm 8) .non) .non (.tup (.cons (.int 1) (.cons (.int 1) .nil)))))
  .nil)
  .nil)
  (.cons (.ifs (.nm 3) (.cons (.set 9 (.ix (.ix (.nm 0) (.nm 4)) (.int 2)))
  (.cons (.ret (.call "_law_product" (.cons (.lst (.cons (.call "_law_paid_share" (.cons (.ix (.nm 0) (.nm 4)) (.cons (.nm 8) (.cons (.nm 5) .nil)))) (.cons (.tup (.cons (.bin .add (.bin .mul (.nm 7) (.nm 9)) (.nm 6)) (.cons (.bin .mul (.nm 7) (.nm 9)) .nil))) .nil))) .nil)))
  .nil))
  .nil)
  (.cons (.ret (.call "_law_product" (.cons (.lst (.cons (.call "_law_first_share" (.cons (.nm 8) (.cons (.nm 5) .nil))) (.cons (.tup (.cons (.bin .add (.nm 6) (.nm 7)) (.cons (.nm 7) .nil))) .nil))) .nil)))
  .nil)))))⟩
class H_l_leg_factor (Φ : Tab) : Prop where
  eq : Φ "_law_leg_factor" = some i_l_leg_factor
def i_sides : Fn := ⟨false, 1, 1, (.cons (.ret (.ite (.ix (.nm 0) (.int 3)) (.tup (.cons (.bl false) (.cons (.bl true) .nil))) (.tup (.cons (.bl false) .nil))))
  .nil)⟩
class H_sides (Φ : Tab) : Prop where
  eq : Φ "sides" = some i_sides
def i_together : Fn := ⟨false, 2, 7, (.cons (.set 2 (.bin .add (.lst (.cons (.tup (.cons (.int 1) (.cons (.int 1) .nil))) .nil)) (.bin .mul (.lst (.cons (.tup (.cons (.int 0) (.cons (.int 1) .nil))) .nil)) (.bi .len (.nm 1)))))
  (.cons (.for_ (.t2 (.n 3) (.n 4)) (.enum (.nm 1))
  (.cons (.for_ (.n 5) (.rd (.bin .add (.nm 3) (.int 1)) (.int 0))
  (.cons (.put 2 (.nm 5) (.call "plus" (.cons (.ix (.nm 2) (.nm 5)) (.cons (.call "times" (.cons (.ix (.nm 2) (.bin .sub (.nm 5) (.int 1))) (.cons (.nm 4) .nil))) .nil))))
  .nil))
  .nil))
  (.cons (.set 6 (.tup (.cons (.int 0) (.cons (.int 1) .nil))))
  (.cons (.for_ (.n 5) (.e (.ix (.nm 0) (.int 1)))
  (.cons (.set 6 (.call "plus" (.cons (.nm 6) (.cons (.ix (.nm 2) (.nm 5)) .nil))))
  .nil))
  (.cons (.ret (.call "times" (.cons (.nm 6) (.cons (.tup (.cons (.ix (.nm 0) (.int 2)) (.cons (.int 1) .nil))) .nil))))
  .nil)))))⟩
class H_together (Φ : Tab) : Prop where
  eq : Φ "together" = some i_together
def i_counted : Fn := ⟨false, 2, 8, (.cons (.set 2 (.lc [3] (.n 3) (.e (.nm 1)) (.yes (.cmp .ne (.nm 3) (.tup (.cons (.int 0) (.cons (.int 1) .nil))))) (.nm 3)))
  (.cons (.set 4 (.lc [3] (.n 3) (.e (.nm 2)) (.yes (.cmp .isnot (.nm 3) .non)) (.nm 3)))
  (.cons (.set 5 (.bi .sum (.lc [6] (.n 6) (.e (.ix (.nm 0) (.int 1))) .no (.call "how_many" (.cons (.bi .len (.nm 2)) (.cons (.nm 6) .nil))))))
  (.cons (.set 7 (.bi .sum (.lc [6] (.n 6) (.e (.ix (.nm 0) (.int 1))) .no (.call "how_many" (.cons (.bi .len (.nm 4)) (.cons (.nm 6) .nil))))))
  (.cons (.ret (.tup (.cons (.bin .sub (.bi .sum (.lc [6] (.n 6) (.e (.ix (.nm 0) (.int 1))) .no (.call "how_many" (.cons (.bi .len (.nm 1)) (.cons (.nm 6) .nil))))) (.nm 5)) (.cons (.bin .sub (.nm 5) (.nm 7)) (.cons (.nm 7) .nil)))))
  .nil)))))⟩
class H_counted (Φ : Tab) : Prop where
  eq : Φ "counted" = some i_counted
def i_standing : Fn := ⟨false, 3, 9, (.cons (.set 3 (.tup (.cons (.int 0) (.cons (.int 0) (.cons (.int 0) .nil)))))
  (.cons (.for_ (.n 4) (.e (.call "sides" (.cons (.nm 1) .nil)))
  (.cons (.set 5 (.call "counted" (.cons (.nm 1) (.cons (.lc [6] (.n 6) (.e (.ix (.nm 1) (.int 0))) .no (.call "factor" (.cons (.nm 0) (.cons (.nm 6) (.cons (.nm 2) (.cons (.nm 4) .nil)))))) .nil))))
  (.cons (.set 3 (.bi .tup (.lc [7, 8] (.t2 (.n 7) (.n 8)) (.zip (.nm 3) (.nm 5)) .no (.bin .add (.nm 7) (.nm 8)))))
  .nil)))
  (.cons (.ret (.nm 3))
  .nil)))⟩
class H_standing (Φ : Tab) : Prop where
  eq : Φ "standing" = some i_standing
def i_with_open : Fn := ⟨false, 4, 10, (.cons (.set 4 (.tup (.cons (.int 0) (.cons (.int 1) .nil))))
  (.cons (.for_ (.n 5) (.e (.call "sides" (.cons (.nm 1) .nil)))
  (.cons (.set 6 (.lst .nil))
  (.cons (.for_ (.n 7) (.e (.ix (.nm 1) (.int 0)))
  (.cons (.set 8 (.call "factor" (.cons (.nm 0) (.cons (.nm 7) (.cons (.nm 2) (.cons (.nm 5) .nil))))))
  (.cons (.ifs (.cmp .is (.nm 8) .non) (.cons (.set 9 (.ite (.nm 5) (.call "place_back" (.cons (.ix (.nm 7) (.int 2)) (.cons (.ix (.ix (.nm 0) (.ix (.nm 7) (.int 0))) (.int 2)) .nil))) (.call "back_of" (.cons (.ix (.nm 7) (.int 2)) .nil))))
  (.cons (.set 8 (.ite (.nm 3) (.nm 9) (.tup (.cons (.int 0) (.cons (.int 1) .nil)))))
  .nil))
  .nil)
  (.cons (.app 6 (.nm 8))
  .nil))))
  (.cons (.set 4 (.call "plus" (.cons (.nm 4) (.cons (.call "together" (.cons (.nm 1) (.cons (.nm 6) .nil))) .nil))))
  .nil))))
  (.cons (.ret (.nm 4))
  .nil)))⟩
class H_with_open (Φ : Tab) : Prop where
  eq : Φ "with_open" = some i_with_open
def i_brings : Fn := ⟨false, 3, 3, (.cons (.ifs (.cmp .gt (.ix (.call "standing" (.cons (.nm 0) (.cons (.nm 1) (.cons (.nm 2) .nil)))) (.int 1)) (.int 0)) (.cons (.ret .non)
  .nil)
  .nil)
  (.cons (.ret (.call "with_open" (.cons (.nm 0) (.cons (.nm 1) (.cons (.nm 2) (.cons (.bl false) .nil))))))
  .nil))⟩
class H_brings (Φ : Tab) : Prop where
  eq : Φ "brings" = some i_brings
def i_rounded : Fn := ⟨false, 1, 1, (.cons (.ret (.bin .div (.ix (.nm 0) (.int 0)) (.ix (.nm 0) (.int 1))))
  .nil)⟩
class H_rounded (Φ : Tab) : Prop where
  eq : Φ "rounded" = some i_rounded
def i_returned : Fn := ⟨false, 3, 4, (.cons (.set 3 (.call "brings" (.cons (.nm 0) (.cons (.nm 1) (.cons (.nm 2) .nil)))))
  (.cons (.ret (.ite (.cmp .is (.nm 3) .non) .non (.call "rounded" (.cons (.nm 3) .nil))))
  .nil))⟩
class H_returned (Φ : Tab) : Prop where
  eq : Φ "returned" = some i_returned
def i_staked : Fn := ⟨false, 2, 4, (.cons (.ret (.bi .sum (.lc [2, 3] (.t2 (.n 2) (.n 3)) (.enum (.ix (.nm 0) (.int 0))) (.yes (.cmp .notin (.nm 2) (.ix (.nm 1) (.int 0)))) (.nm 3))))
  .nil)⟩
class H_staked (Φ : Tab) : Prop where
  eq : Φ "staked" = some i_staked
def i_given_back : Fn := ⟨false, 2, 2, (.cons (.ret (.bin .sub (.bi .sum (.ix (.nm 0) (.int 0))) (.call "staked" (.cons (.nm 0) (.cons (.nm 1) .nil)))))
  .nil)⟩
class H_given_back (Φ : Tab) : Prop where
  eq : Φ "given_back" = some i_given_back
def i_cut_of : Fn := ⟨false, 2, 2, (.cons (.ret (.bin .div (.bin .add (.bin .mul (.call "staked" (.cons (.nm 0) (.cons (.nm 1) .nil))) (.ix (.nm 0) (.int 1))) (.int 99)) (.int 100)))
  .nil)⟩
class H_cut_of (Φ : Tab) : Prop where
  eq : Φ "cut_of" = some i_cut_of
def i_net_of : Fn := ⟨false, 2, 2, (.cons (.ret (.bin .add (.bin .sub (.call "staked" (.cons (.nm 0) (.cons (.nm 1) .nil))) (.call "cut_of" (.cons (.nm 0) (.cons (.nm 1) .nil)))) (.ix (.nm 0) (.int 2))))
  .nil)⟩
class H_net_of (Φ : Tab) : Prop where
  eq : Φ "net_of" = some i_net_of
def i_first_ones : Fn := ⟨false, 2, 3, (.cons (.ifs (.not (.ix (.nm 1) (.int 1))) (.cons (.ret (.lst .nil))
  .nil)
  .nil)
  (.cons (.ret (.lc [2] (.n 2) (.e (.ix (.ix (.nm 1) (.int 1)) (.int 0))) (.yes (.cmp .gt (.ix (.ix (.nm 0) (.int 0)) (.nm 2)) (.int 0))) (.nm 2)))
  .nil))⟩
class H_first_ones (Φ : Tab) : Prop where
  eq : Φ "first_ones" = some i_first_ones
def i_dividends : Fn := ⟨false, 2, 6, (.cons (.set 2 (.lst .nil))
  (.cons (.set 3 (.call "first_ones" (.cons (.nm 0) (.cons (.nm 1) .nil))))
  (.cons (.for_ (.t2 (.n 4) (.n 5)) (.enum (.ix (.nm 0) (.int 0)))
  (.cons (.ifs (.cmp .in_ (.nm 4) (.ix (.nm 1) (.int 0))) (.cons (.app 2 (.int 100))
  .nil)
  (.cons (.ifs (.cmp .in_ (.nm 4) (.nm 3)) (.cons (.app 2 (.bin .div (.bin .mul (.bin .div (.call "net_of" (.cons (.nm 0) (.cons (.nm 1) .nil))) (.bi .len (.nm 3))) (.int 100)) (.nm 5)))
  .nil)
  (.cons (.app 2 (.int 0))
  .nil))
  .nil))
  .nil))
  (.cons (.ret (.bi .tup (.nm 2)))
  .nil))))⟩
class H_dividends (Φ : Tab) : Prop where
  eq : Φ "dividends" = some i_dividends
def i_paid_out : Fn := ⟨false, 2, 4, (.cons (.set 2 (.call "dividends" (.cons (.nm 0) (.cons (.nm 1) .nil))))
  (.cons (.ret (.bi .sum (.lc [3] (.n 3) (.e (.call "first_ones" (.cons (.nm 0) (.cons (.nm 1) .nil)))) .no (.bin .div (.bin .mul (.ix (.ix (.nm 0) (.int 0)) (.nm 3)) (.ix (.nm 2) (.nm 3))) (.int 100)))))
  .nil))⟩
class H_paid_out (Φ : Tab) : Prop where
  eq : Φ "paid_out" = some i_paid_out
def i_carried_on : Fn := ⟨false, 2, 2, (.cons (.ret (.bin .sub (.call "net_of" (.cons (.nm 0) (.cons (.nm 1) .nil))) (.call "paid_out" (.cons (.nm 0) (.cons (.nm 1) .nil)))))
  .nil)⟩
class H_carried_on (Φ : Tab) : Prop where
  eq : Φ "carried_on" = some i_carried_on
def i_l_drawn_pool : Fn := ⟨true, 1, 6, (.cons (.set 3 (.lc [4] (.n 4) (.r1 (.nm 2)) .no (.callT "_law_pick" 0 1 (.cons (.lst (.cons (.int 0) (.cons (.int 1) (.cons (.int 7) (.cons (.int 100) (.cons (.int 333) (.cons (.callT "_law_draw" 0 1 (.cons (.int 5000) .nil)) .nil))))))) .nil))))
  (.cons (.set 5 (.callT "_law_pick" 0 1 (.cons (.lst (.cons (.int 0) (.cons (.int 1) (.cons (.int 10) (.cons (.int 15) (.cons (.int 50) (.cons (.callT "_law_draw" 0 1 (.cons (.int 51) .nil)) .nil))))))) .nil)))
  (.cons (.ret (.tup (.cons (.bi .tup (.nm 3)) (.cons (.nm 5) (.cons (.callT "_law_pick" 0 1 (.cons (.lst (.cons (.int 0) (.cons (.int 0) (.cons (.int 1) (.cons (.int 99) (.cons (.int 5000) .nil)))))) .nil)) .nil)))))
  .nil)))⟩
class H_l_drawn_pool (Φ : Tab) : Prop where
  eq : Φ "_law_drawn_pool" = some i_l_drawn_pool
def i_l_pool_holds : Fn := ⟨false, 2, 11, (.cons (.unp (.t3 (.n 2) (.n 3) (.n 4)) (.nm 0))
  (.cons (.set 5 (.tup (.cons (.call "given_back" (.cons (.nm 0) (.cons (.nm 1) .nil))) (.cons (.call "cut_of" (.cons (.nm 0) (.cons (.nm 1) .nil))) (.cons (.call "paid_out" (.cons (.nm 0) (.cons (.nm 1) .nil))) (.cons (.call "carried_on" (.cons (.nm 0) (.cons (.nm 1) .nil))) .nil))))))
  (.cons (.ifs (.or (.cmp .ne (.bi .sum (.nm 5)) (.bin .add (.bi .sum (.nm 2)) (.nm 4))) (.cmp .lt (.bi .min (.nm 5)) (.int 0))) (.cons (.ret (.bl false))
  .nil)
  .nil)
  (.cons (.par 6 7 (.call "dividends" (.cons (.nm 0) (.cons (.nm 1) .nil))) (.lst .nil))
  (.cons (.ifs (.cmp .ne (.ix (.nm 5) (.int 0)) (.bi .sum (.lc [8] (.n 8) (.e (.ix (.nm 1) (.int 0))) .no (.bin .div (.bin .mul (.ix (.nm 2) (.nm 8)) (.ix (.nm 6) (.nm 8))) (.int 100))))) (.cons (.ret (.bl false))
  .nil)
  .nil)
  (.cons (.for_ (.t2 (.n 8) (.n 9)) (.enum (.nm 2))
  (.cons (.ifs (.and (.cmp .ne (.call "win_share" (.cons (.nm 1) (.cons (.nm 8) .nil))) (.tup (.cons (.int 0) (.cons (.int 1) .nil)))) (.cmp .gt (.nm 9) (.int 0))) (.cons (.app 7 (.nm 8))
  .nil)
  (.cons (.ifs (.cmp .ne (.ix (.nm 6) (.nm 8)) (.bin .mul (.int 100) (.bi .int (.cmp .in_ (.nm 8) (.ix (.nm 1) (.int 0)))))) (.cons (.ret (.bl false))
  .nil)
  .nil)
  .nil))
  .nil))
  (.cons (.ifs (.cmp .ne (.ix (.nm 5) (.int 2)) (.bi .sum (.lc [8] (.n 8) (.e (.nm 7)) .no (.bin .div (.bin .mul (.ix (.nm 2) (.nm 8)) (.ix (.nm 6) (.nm 8))) (.int 100))))) (.cons (.ret (.bl false))
  .nil)
  .nil)
  (.cons (.set 10 (.bin .add (.ix (.nm 5) (.int 2)) (.ix (.nm 5) (.int 3))))
  (.cons (.ifs (.lc [8] (.n 8) (.e (.nm 7)) (.yes (.cmp .gt (.bin .mul (.ix (.nm 2) (.nm 8)) (.ix (.nm 6) (.nm 8))) (.bin .mul (.int 100) (.bin .div (.nm 10) (.bi .len (.nm 7)))))) (.nm 8)) (.cons (.ret (.bl false))
  .nil)
  .nil)
  (.cons (.ifs (.not (.nm 7)) (.cons (.ret (.cmp .eq (.ix (.nm 5) (.int 2)) (.int 0)))
  .nil)
  .nil)
  (.cons (.ret (.cmp .lt (.ix (.nm 5) (.int 3)) (.bin .add (.bi .len (.nm 7)) (.bi .sum (.lc [8] (.n 8) (.e (.nm 7)) .no (.bin .add (.bin .div (.ix (.nm 2) (.nm 8)) (.int 100)) (.int 2)))))))
  .nil)))))))))))⟩
class H_l_pool_holds (Φ : Tab) : Prop where
  eq : Φ "_law_pool_holds" = some i_l_pool_holds
end Pd

set_option Elab.async false
set_option linter.all false
set_option maxRecDepth 100000
set_option maxHeartbeats 4000000
namespace Pd
open PySem
section
variable (cl : Cl)
def kCons1 (es : Irs) (m : Option (Rf × AE)) : Option (List Rf × AE) := m.bind fun x => (evs cl es x.2).bind fun y => some (settle x.1 :: y.1, y.2)
def kCons2 (x : Rf) (m : Option (List Rf × AE)) : Option (List Rf × AE) := m.bind fun y => some (settle x :: y.1, y.2)
def kRes (r : AE) (m : Option Rf) : Option (Rf × AE) := m.bind fun z => some (z, r)
def kBin1 (op : Bop) (b : Ir) (m : Option (Rf × AE)) : Option (Rf × AE) := m.bind fun x => (ev cl b x.2).bind fun y => (dr y.2 (settle x.1)).bind fun d => (dr y.2 y.1).bind fun e => (bop op d e).bind fun z => some (z, y.2)
def kBin2 (op : Bop) (x : Rf) (m : Option (Rf × AE)) : Option (Rf × AE) := m.bind fun y => (dr y.2 (settle x)).bind fun d => (dr y.2 y.1).bind fun e => (bop op d e).bind fun z => some (z, y.2)
def kBop (op : Bop) (r : AE) (m m' : Option D) : Option (Rf × AE) := m.bind fun d => m'.bind fun e => (bop op d e).bind fun z => some (z, r)
def kNeg (m : Option (Rf × AE)) : Option (Rf × AE) := m.bind fun x => (dr x.2 x.1).bind fun d => (dNeg d).bind fun z => some (.v z, x.2)
def kNeg2 (r : AE) (m : Option D) : Option (Rf × AE) := m.bind fun d => (dNeg d).bind fun z => some (.v z, r)
def kCmp1 (op : Cop) (b : Ir) (m : Option (Rf × AE)) : Option (Rf × AE) := m.bind fun x => (ev cl b x.2).bind fun y => (dr y.2 (settle x.1)).bind fun d => (dr y.2 y.1).bind fun e => (cop op d e).bind fun z => some (.v (.bool z), y.2)
def kCmp2 (op : Cop) (x : Rf) (m : Option (Rf × AE)) : Option (Rf × AE) := m.bind fun y => (dr y.2 (settle x)).bind fun d => (dr y.2 y.1).bind fun e => (cop op d e).bind fun z => some (.v (.bool z), y.2)
def kBl (r : AE) (m : Option Bool) : Option (Rf × AE) := m.bind fun z => some (.v (.bool z), r)
def kCop (op : Cop) (r : AE) (m m' : Option D) : Option (Rf × AE) := m.bind fun d => m'.bind fun e => (cop op d e).bind fun z => some (.v (.bool z), r)
def kCh1 (o1 o2 : Cop) (b c : Ir) (m : Option (Rf × AE)) : Option (Rf × AE) := m.bind fun x => (ev cl b x.2).bind fun y => (dr y.2 (settle x.1)).bind fun d => (dr y.2 y.1).bind fun e => (cop o1 d e).bind fun z =>
    if z = true then (ev cl c y.2).bind fun w => (dr w.2 (settle y.1)).bind fun e' => (dr w.2 w.1).bind fun u => (cop o2 e' u).bind fun z2 => some (.v (.bool z2), w.2) else some (.v (.bool false), y.2)
def kCh2 (o1 o2 : Cop) (x : Rf) (c : Ir) (m : Option (Rf × AE)) : Option (Rf × AE) := m.bind fun y => (dr y.2 (settle x)).bind fun d => (dr y.2 y.1).bind fun e => (cop o1 d e).bind fun z =>
    if z = true then (ev cl c y.2).bind fun w => (dr w.2 (settle y.1)).bind fun e' => (dr w.2 w.1).bind fun u => (cop o2 e' u).bind fun z2 => some (.v (.bool z2), w.2) else some (.v (.bool false), y.2)
def kCh3 (o1 o2 : Cop) (y : Rf) (c : Ir) (r : AE) (m m' : Option D) : Option (Rf × AE) := m.bind fun d => m'.bind fun e => (cop o1 d e).bind fun z =>
    if z = true then (ev cl c r).bind fun w => (dr w.2 (settle y)).bind fun e' => (dr w.2 w.1).bind fun u => (cop o2 e' u).bind fun z2 => some (.v (.bool z2), w.2) else some (.v (.bool false), r)
def kCh4 (o2 : Cop) (y : Rf) (c : Ir) (r : AE) (m : Option Bool) : Option (Rf × AE) := m.bind fun z =>
    if z = true then (ev cl c r).bind fun w => (dr w.2 (settle y)).bind fun e' => (dr w.2 w.1).bind fun u => (cop o2 e' u).bind fun z2 => some (.v (.bool z2), w.2) else some (.v (.bool false), r)
def kAnd1 (b : Ir) (m : Option (Rf × AE)) : Option (Rf × AE) := m.bind fun x => (dr x.2 x.1).bind fun d => (dTruth d).bind fun t => if t = true then ev cl b x.2 else some (settle x.1, x.2)
def kAnd2 (b : Ir) (x : Rf) (r : AE) (m : Option Bool) : Option (Rf × AE) := m.bind fun t => if t = true then ev cl b r else some (settle x, r)
def kOr1 (b : Ir) (m : Option (Rf × AE)) : Option (Rf × AE) := m.bind fun x => (dr x.2 x.1).bind fun d => (dTruth d).bind fun t => if t = true then some (settle x.1, x.2) else ev cl b x.2
def kOr2 (b : Ir) (x : Rf) (r : AE) (m : Option Bool) : Option (Rf × AE) := m.bind fun t => if t = true then some (settle x, r) else ev cl b r
def tru (m : Option D) : Option Bool := m.bind dTruth
def kNot (m : Option (Rf × AE)) : Option (Rf × AE) := m.bind fun x => (dr x.2 x.1).bind fun d => (dTruth d).bind fun t => some (.v (.bool !t), x.2)
def kNot2 (r : AE) (m : Option Bool) : Option (Rf × AE) := m.bind fun t => some (.v (.bool !t), r)
def kIte (a b : Ir) (m : Option (Bool × AE)) : Option (Rf × AE) := m.bind fun t => if t.1 = true then ev cl a t.2 else ev cl b t.2
def kTup (m : Option (List Rf × AE)) : Option (Rf × AE) := m.bind fun x => (fzs x.2 x.1).bind fun y => some (.v (.tuple y.1), y.2)
def kTup2 (m : Option (List D × AE)) : Option (Rf × AE) := m.bind fun y => some (.v (.tuple y.1), y.2)
def kLst (m : Option (List Rf × AE)) : Option (Rf × AE) := m.bind fun x => (fzs x.2 x.1).bind fun y => some (.f y.1, y.2)
def kLst2 (m : Option (List D × AE)) : Option (Rf × AE) := m.bind fun y => some (.f y.1, y.2)
def kIx1 (b : Ir) (m : Option (Rf × AE)) : Option (Rf × AE) := m.bind fun x => (ev cl b x.2).bind fun y => (dr y.2 (settle x.1)).bind fun d => (dr y.2 y.1).bind fun e => (dIx d e).bind fun z => some (.v z, y.2)
def kIx2 (x : Rf) (m : Option (Rf × AE)) : Option (Rf × AE) := m.bind fun y => (dr y.2 (settle x)).bind fun d => (dr y.2 y.1).bind fun e => (dIx d e).bind fun z => some (.v z, y.2)
def kV (r : AE) (m : Option D) : Option (Rf × AE) := m.bind fun z => some (.v z, r)
def kIx3 (r : AE) (m m' : Option D) : Option (Rf × AE) := m.bind fun d => m'.bind fun e => (dIx d e).bind fun z => some (.v z, r)
def kCut1 (lo hi : Iro) (m : Option (Rf × AE)) : Option (Rf × AE) := m.bind fun x => (evo cl lo x.2).bind fun l => (evo cl hi l.2).bind fun u => (dr u.2 (settle x.1)).bind fun d => (dCutR l.1 u.1 d).bind fun z => some (z, u.2)
def kCut2 (x : Rf) (hi : Iro) (m : Option (Option Int × AE)) : Option (Rf × AE) := m.bind fun l => (evo cl hi l.2).bind fun u => (dr u.2 (settle x)).bind fun d => (dCutR l.1 u.1 d).bind fun z => some (z, u.2)
def kCut3 (x : Rf) (l : Option Int) (m : Option (Option Int × AE)) : Option (Rf × AE) := m.bind fun u => (dr u.2 (settle x)).bind fun d => (dCutR l u.1 d).bind fun z => some (z, u.2)
def kCut4 (l u : Option Int) (r : AE) (m : Option D) : Option (Rf × AE) := m.bind fun d => (dCutR l u d).bind fun z => some (z, r)
def kOpt (m : Option (Rf × AE)) : Option (Option Int × AE) := m.bind fun x => (dr x.2 x.1).bind fun d => (dPart d).bind fun p => some (p, x.2)
def kOpt2 (r : AE) (m : Option D) : Option (Option Int × AE) := m.bind fun d => (dPart d).bind fun p => some (p, r)
def kCall (f : String) (m : Option (List Rf × AE)) : Option (Rf × AE) := m.bind fun x => (fzs x.2 x.1).bind fun y => (cl f [] [] y.1).bind fun z => some (z.1, y.2)
def kCall2 (f : String) (m : Option (List D × AE)) : Option (Rf × AE) := m.bind fun y => (cl f [] [] y.1).bind fun z => some (z.1, y.2)
def kRet (r : AE) (m : Option (Rf × List D)) : Option (Rf × AE) := m.bind fun z => some (z.1, r)
def kCT (f : String) (i j : Nat) (m : Option (List Rf × AE)) : Option (Rf × AE) := m.bind fun x => (fzs x.2 x.1).bind fun y => match y.2[i]?, y.2[j]? with
    | some (.scr ns), some a => (isO a).bind fun t => (cl f ns t y.1).bind fun z => some (z.1, y.2.set j (upO a z.2))
    | _, _ => none
def kCT2 (f : String) (i j : Nat) (m : Option (List D × AE)) : Option (Rf × AE) := m.bind fun y => match y.2[i]?, y.2[j]? with
    | some (.scr ns), some a => (isO a).bind fun t => (cl f ns t y.1).bind fun z => some (z.1, y.2.set j (upO a z.2))
    | _, _ => none
def kCT3 (f : String) (ds : List D) (r : AE) (j : Nat) (m m' : Option As) : Option (Rf × AE) := match m, m' with
    | some (.scr ns), some a => (isO a).bind fun t => (cl f ns t ds).bind fun z => some (z.1, r.set j (upO a z.2))
    | _, _ => none
def kRetT (r : AE) (j : Nat) (a : As) (m : Option (Rf × List D)) : Option (Rf × AE) := m.bind fun z => some (z.1, r.set j (upO a z.2))
def kBi (b : Bi) (m : Option (Rf × AE)) : Option (Rf × AE) := m.bind fun x => (dr x.2 x.1).bind fun d => (bi1 b d).bind fun z => some (z, x.2)
def kBi2 (b : Bi) (r : AE) (m : Option D) : Option (Rf × AE) := m.bind fun d => (bi1 b d).bind fun z => some (z, r)
def kTwo1 (b : Bi2) (c : Ir) (m : Option (Rf × AE)) : Option (Rf × AE) := m.bind fun x => (ev cl c x.2).bind fun y => (dr y.2 (settle x.1)).bind fun d => (dr y.2 y.1).bind fun e => (bi2f b d e).bind fun z => some (z, y.2)
def kTwo2 (b : Bi2) (x : Rf) (m : Option (Rf × AE)) : Option (Rf × AE) := m.bind fun y => (dr y.2 (settle x)).bind fun d => (dr y.2 y.1).bind fun e => (bi2f b d e).bind fun z => some (z, y.2)
def kTwo3 (b : Bi2) (r : AE) (m m' : Option D) : Option (Rf × AE) := m.bind fun d => m'.bind fun e => (bi2f b d e).bind fun z => some (z, r)
def kIsi (t : Ty) (m : Option (Rf × AE)) : Option (Rf × AE) := m.bind fun x => (dr x.2 x.1).bind fun d => some (.v (.bool (isT (tyS t) d)), x.2)
def kIsi2 (t : Ty) (r : AE) (m : Option D) : Option (Rf × AE) := m.bind fun d => some (.v (.bool (isT (tyS t) d)), r)
def kPop (i : Nat) (m : Option (Option Int × AE)) : Option (Rf × AE) := m.bind fun k => (k.2[i]?).bind fun s => (isO s).bind fun ds => (popD ds k.1).bind fun y => some (.v y.1, k.2.set i (upO s y.2))
def kPop2 (i : Nat) (k : Option Int) (r : AE) (m : Option As) : Option (Rf × AE) := m.bind fun s => (isO s).bind fun ds => (popD ds k).bind fun y => some (.v y.1, r.set i (upO s y.2))
def kPop3 (i : Nat) (s : As) (r : AE) (m : Option (D × List D)) : Option (Rf × AE) := m.bind fun y => some (.v y.1, r.set i (upO s y.2))
def kSix (i : Nat) (m : Option (Rf × AE)) : Option (Rf × AE) := m.bind fun x => (dr x.2 x.1).bind fun k => match x.2[i]? with
    | some (.scr ns) => (dIx (scrD ns) k).bind fun z => some (.v z, x.2)
    | _ => none
def kSix2 (r : AE) (m : Option D) (m' : Option As) : Option (Rf × AE) := m.bind fun k => match m' with
    | some (.scr ns) => (dIx (scrD ns) k).bind fun z => some (.v z, r)
    | _ => none
def lcS (own : List Nat) (tg : Tg) (c : Iro) (e : Ir) (xs : List D) (r : AE) : Option (List D × AE) := compA own (asg tg) (evC cl c) (fun r => (ev cl e r).bind fun x => fz x.2 x.1) xs r
def kLc (own : List Nat) (tg : Tg) (c : Iro) (e : Ir) (m : Option (List D × AE)) : Option (Rf × AE) := m.bind fun xs => if xs.1.length ≤ lineN ∧ own.all (fun i => plainS (xs.2.getD i .no)) = true
    then (lcS cl own tg c e xs.1 xs.2).bind fun ys => some (.f ys.1, ys.2) else none
def kF (m : Option (List D × AE)) : Option (Rf × AE) := m.bind fun ys => some (.f ys.1, ys.2)
def kTA (b : Ir) (m : Option (Bool × AE)) : Option (Bool × AE) := m.bind fun t => if t.1 = true then evT cl b t.2 else some (false, t.2)
def kTO (b : Ir) (m : Option (Bool × AE)) : Option (Bool × AE) := m.bind fun t => if t.1 = true then some (true, t.2) else evT cl b t.2
def kTN (m : Option (Bool × AE)) : Option (Bool × AE) := m.bind fun t => some (!t.1, t.2)
def kTr (m : Option (Rf × AE)) : Option (Bool × AE) := m.bind fun x => (dr x.2 x.1).bind fun d => (dTruth d).bind fun t => some (t, x.2)
def kTr2 (r : AE) (m : Option Bool) : Option (Bool × AE) := m.bind fun t => some (t, r)
def kFz (m : Option (Rf × AE)) : Option (D × AE) := m.bind fun x => fz x.2 x.1
def kIt (m : Option (D × AE)) : Option (List D × AE) := m.bind fun y => (dItems y.1).bind fun l => some (l, y.2)
def kIt2 (r : AE) (m : Option (List D)) : Option (List D × AE) := m.bind fun l => some (l, r)
def kEn (m : Option (D × AE)) : Option (List D × AE) := m.bind fun y => (dEnum y.1).bind fun l => some (l, y.2)
def kR1 (m : Option (Rf × AE)) : Option (List D × AE) := m.bind fun x => (dr x.2 x.1).bind fun d => (dRange (.int 0) d).bind fun l => some (l, x.2)
def kR12 (r : AE) (m : Option D) : Option (List D × AE) := m.bind fun d => (dRange (.int 0) d).bind fun l => some (l, r)
def kR2 (f : D → D → Option (List D)) (b : Ir) (m : Option (Rf × AE)) : Option (List D × AE) := m.bind fun x => (ev cl b x.2).bind fun y => (dr y.2 (settle x.1)).bind fun d => (dr y.2 y.1).bind fun e => (f d e).bind fun l => some (l, y.2)
def kR22 (f : D → D → Option (List D)) (x : Rf) (m : Option (Rf × AE)) : Option (List D × AE) := m.bind fun y => (dr y.2 (settle x)).bind fun d => (dr y.2 y.1).bind fun e => (f d e).bind fun l => some (l, y.2)
def kR23 (f : D → D → Option (List D)) (r : AE) (m m' : Option D) : Option (List D × AE) := m.bind fun d => m'.bind fun e => (f d e).bind fun l => some (l, r)
def kZ1 (b : Ir) (m : Option (D × AE)) : Option (List D × AE) := m.bind fun x' => (ev cl b x'.2).bind fun y => (fz y.2 y.1).bind fun y' => (dZip x'.1 y'.1).bind fun l => some (l, y'.2)
def kZ2 (x : D) (m : Option (D × AE)) : Option (List D × AE) := m.bind fun y' => (dZip x y'.1).bind fun l => some (l, y'.2)
end
section
variable {cl : Cl} {r r' : AE} {rf : Rf}
@[simp] theorem evs_cons (a : Ir) (es : Irs) : evs cl (.cons a es) r = kCons1 cl es (ev cl a r) := by rw [evs]; rfl
@[simp] theorem evs_nil : evs cl .nil r = some ([], r) := by rw [evs]
@[simp] theorem kCons1_s (es : Irs) : kCons1 cl es (some (rf, r)) = kCons2 rf (evs cl es r) := rfl
@[simp] theorem kCons2_s (l : List Rf) : kCons2 rf (some (l, r)) = some (settle rf :: l, r) := rfl
@[simp] theorem ev_int (i : Int) : ev cl (.int i) r = some (.v (.int i), r) := by rw [ev]
@[simp] theorem ev_bl (i : Bool) : ev cl (.bl i) r = some (.v (.bool i), r) := by rw [ev]
@[simp] theorem ev_non : ev cl .non r = some (.v .none, r) := by rw [ev]
@[simp] theorem ev_str (s : String) : ev cl (.str s) r = some (.v (.str (Str.ofString s)), r) := by rw [ev]
def kNm (i : Nat) (r : AE) : Option As → Option (Rf × AE)
    | some (.val d) => some (.v d, r)
    | some (.own _) => some (.s i, r)
    | some (.twn _) => some (.s i, r)
    | _ => none
@[simp] theorem ev_nm (i : Nat) : ev cl (.nm i) r = kNm i r r[i]? := by (rw [ev]) <;> rfl
@[simp] theorem kNm_v (i : Nat) (d : D) : kNm i r (some (.val d)) = some (.v d, r) := rfl
@[simp] theorem kNm_o (i : Nat) (ds : List D) : kNm i r (some (.own ds)) = some (.s i, r) := rfl
@[simp] theorem kNm_t (i : Nat) (ds : List D) : kNm i r (some (.twn ds)) = some (.s i, r) := rfl
@[simp] theorem ev_bin (op : Bop) (a b : Ir) : ev cl (.bin op a b) r = kBin1 cl op b (ev cl a r) := by rw [ev]; rfl
@[simp] theorem kBin1_s (op : Bop) (b : Ir) : kBin1 cl op b (some (rf, r)) = kBin2 op rf (ev cl b r) := rfl
@[simp] theorem kBin2_s (op : Bop) (x : Rf) : kBin2 op x (some (rf, r)) = kBop op r (dr r (settle x)) (dr r rf) := rfl
@[simp] theorem kBop_s (op : Bop) (d e : D) : kBop op r (some d) (some e) = kRes r (bop op d e) := rfl
@[simp] theorem kRes_s : kRes r (some rf) = some (rf, r) := rfl
@[simp] theorem ev_neg (a : Ir) : ev cl (.neg a) r = kNeg (ev cl a r) := by rw [ev]; rfl
@[simp] theorem kNeg_s : kNeg (some (rf, r)) = kNeg2 r (dr r rf) := rfl
@[simp] theorem kNeg2_s (i : Int) : kNeg2 r (some (.int i)) = some (.v (.int (-i)), r) := rfl
@[simp] theorem ev_cmp (op : Cop) (a b : Ir) : ev cl (.cmp op a b) r = kCmp1 cl op b (ev cl a r) := by rw [ev]; rfl
@[simp] theorem kCmp1_s (op : Cop) (b : Ir) : kCmp1 cl op b (some (rf, r)) = kCmp2 op rf (ev cl b r) := rfl
@[simp] theorem kCmp2_s (op : Cop) (x : Rf) : kCmp2 op x (some (rf, r)) = kCop op r (dr r (settle x)) (dr r rf) := rfl
@[simp] theorem kCop_s (op : Cop) (d e : D) : kCop op r (some d) (some e) = kBl r (cop op d e) := rfl
@[simp] theorem kBl_s (b : Bool) : kBl r (some b) = some (.v (.bool b), r) := rfl
@[simp] theorem ev_ch2 (o1 o2 : Cop) (a b c : Ir) : ev cl (.ch2 o1 o2 a b c) r = kCh1 cl o1 o2 b c (ev cl a r) := by rw [ev]; rfl
@[simp] theorem kCh1_s (o1 o2 : Cop) (b c : Ir) : kCh1 cl o1 o2 b c (some (rf, r)) = kCh2 cl o1 o2 rf c (ev cl b r) := rfl
@[simp] theorem kCh2_s (o1 o2 : Cop) (x : Rf) (c : Ir) : kCh2 cl o1 o2 x c (some (rf, r)) = kCh3 cl o1 o2 rf c r (dr r (settle x)) (dr r rf) := rfl
@[simp] theorem kCh3_s (o1 o2 : Cop) (y : Rf) (c : Ir) (d e : D) : kCh3 cl o1 o2 y c r (some d) (some e) = kCh4 cl o2 y c r (cop o1 d e) := rfl
@[simp] theorem kCh4_t (o2 : Cop) (y : Rf) (c : Ir) : kCh4 cl o2 y c r (some true) = kCmp2 o2 (settle y) (ev cl c r) := by
  show (ev cl c r).bind _ = (ev cl c r).bind _
  cases y <;> rfl
@[simp] theorem kCh4_f (o2 : Cop) (y : Rf) (c : Ir) : kCh4 cl o2 y c r (some false) = some (.v (.bool false), r) := rfl
@[simp] theorem ev_and (a b : Ir) : ev cl (.and a b) r = kAnd1 cl b (ev cl a r) := by rw [ev]; rfl
@[simp] theorem kAnd1_s (b : Ir) : kAnd1 cl b (some (rf, r)) = kAnd2 cl b rf r (tru (dr r rf)) := by
  show (dr r rf).bind _ = ((dr r rf).bind dTruth).bind _
  cases dr r rf <;> rfl
@[simp] theorem tru_s (d : D) : tru (some d) = dTruth d := rfl
@[simp] theorem kAnd2_t (b : Ir) : kAnd2 cl b rf r (some true) = ev cl b r := rfl
@[simp] theorem kAnd2_f (b : Ir) : kAnd2 cl b rf r (some false) = some (settle rf, r) := rfl
@[simp] theorem ev_or (a b : Ir) : ev cl (.or a b) r = kOr1 cl b (ev cl a r) := by rw [ev]; rfl
@[simp] theorem kOr1_s (b : Ir) : kOr1 cl b (some (rf, r)) = kOr2 cl b rf r (tru (dr r rf)) := by
  show (dr r rf).bind _ = ((dr r rf).bind dTruth).bind _
  cases dr r rf <;> rfl
@[simp] theorem kOr2_t (b : Ir) : kOr2 cl b rf r (some true) = some (settle rf, r) := rfl
@[simp] theorem kOr2_f (b : Ir) : kOr2 cl b rf r (some false) = ev cl b r := rfl
@[simp] theorem ev_not (a : Ir) : ev cl (.not a) r = kNot (ev cl a r) := by rw [ev]; rfl
@[simp] theorem kNot_s : kNot (some (rf, r)) = kNot2 r (tru (dr r rf)) := by
  show (dr r rf).bind _ = ((dr r rf).bind dTruth).bind _
  cases dr r rf <;> rfl
@[simp] theorem kNot2_s (b : Bool) : kNot2 r (some b) = some (.v (.bool !b), r) := rfl
@[simp] theorem ev_ite (c a b : Ir) : ev cl (.ite c a b) r = kIte cl a b (evT cl c r) := by rw [ev]; rfl
theorem kIte_t (a b : Ir) : kIte cl a b (some (true, r)) = ev cl a r := rfl
theorem kIte_f (a b : Ir) : kIte cl a b (some (false, r)) = ev cl b r := rfl
@[simp] theorem ev_tup (es : Irs) : ev cl (.tup es) r = kTup (evs cl es r) := by rw [ev]; rfl
@[simp] theorem kTup_s (l : List Rf) : kTup (some (l, r)) = kTup2 (fzs r l) := rfl
@[simp] theorem kTup2_s (l : List D) : kTup2 (some (l, r)) = some (.v (.tuple l), r) := rfl
@[simp] theorem ev_lst (es : Irs) : ev cl (.lst es) r = kLst (evs cl es r) := by rw [ev]; rfl
@[simp] theorem kLst_s (l : List Rf) : kLst (some (l, r)) = kLst2 (fzs r l) := rfl
@[simp] theorem kLst2_s (l : List D) : kLst2 (some (l, r)) = some (.f l, r) := rfl
@[simp] theorem fzs_nil : fzs r [] = some ([], r) := rfl
def kFs1 (l : List Rf) (m : Option (D × AE)) : Option (List D × AE) := m.bind fun y => (fzs y.2 l).bind fun ys => some (y.1 :: ys.1, ys.2)
def kFs2 (d : D) (m : Option (List D × AE)) : Option (List D × AE) := m.bind fun ys => some (d :: ys.1, ys.2)
@[simp] theorem fzs_cons (l : List Rf) : fzs r (rf :: l) = kFs1 l (fz r rf) := rfl
@[simp] theorem kFs1_s (l : List Rf) (d : D) : kFs1 l (some (d, r)) = kFs2 d (fzs r l) := rfl
@[simp] theorem kFs2_s (l : List D) (d : D) : kFs2 d (some (l, r)) = some (d :: l, r) := rfl
@[simp] theorem fz_v (d : D) : fz r (.v d) = some (d, r) := rfl
@[simp] theorem fz_f (d : List D) : fz r (.f d) = some (.list d, r) := rfl
def kFzs (i : Nat) (r : AE) : Option As → Option (D × AE)
    | some (.own ds) => some (.list ds, r.set i (.val (.list ds)))
    | some (.val d) => some (d, r)
    | _ => none
@[simp] theorem fz_s (i : Nat) : fz r (.s i) = kFzs i r r[i]? := rfl
@[simp] theorem kFzs_o (i : Nat) (ds : List D) : kFzs i r (some (.own ds)) = some (.list ds, r.set i (.val (.list ds))) := rfl
@[simp] theorem kFzs_v (i : Nat) (d : D) : kFzs i r (some (.val d)) = some (d, r) := rfl
@[simp] theorem dr_v (d : D) : dr r (.v d) = some d := rfl
@[simp] theorem dr_f (d : List D) : dr r (.f d) = some (.list d) := rfl
def kDr : Option As → Option D
    | some (.own ds) => some (.list ds)
    | some (.twn ds) => some (.list ds)
    | some (.val d) => some d
    | _ => none
@[simp] theorem dr_s (i : Nat) : dr r (.s i) = kDr r[i]? := rfl
@[simp] theorem kDr_o (ds : List D) : kDr (some (.own ds)) = some (.list ds) := rfl
@[simp] theorem kDr_t (ds : List D) : kDr (some (.twn ds)) = some (.list ds) := rfl
@[simp] theorem kDr_v (d : D) : kDr (some (.val d)) = some d := rfl
@[simp] theorem settle_v (d : D) : settle (.v d) = .v d := rfl
@[simp] theorem settle_s (i : Nat) : settle (.s i) = .s i := rfl
@[simp] theorem settle_f (d : List D) : settle (.f d) = .v (.list d) := rfl
@[simp] theorem ev_ix (a b : Ir) : ev cl (.ix a b) r = kIx1 cl b (ev cl a r) := by rw [ev]; rfl
@[simp] theorem kIx1_s (b : Ir) : kIx1 cl b (some (rf, r)) = kIx2 rf (ev cl b r) := rfl
@[simp] theorem kIx2_s (x : Rf) : kIx2 x (some (rf, r)) = kIx3 r (dr r (settle x)) (dr r rf) := rfl
@[simp] theorem kIx3_s (d e : D) : kIx3 r (some d) (some e) = kV r (dIx d e) := rfl
@[simp] theorem kV_s (d : D) : kV r (some d) = some (.v d, r) := rfl
@[simp] theorem ev_cut (a : Ir) (lo hi : Iro) : ev cl (.cut a lo hi) r = kCut1 cl lo hi (ev cl a r) := by rw [ev]; rfl
@[simp] theorem kCut1_s (lo hi : Iro) : kCut1 cl lo hi (some (rf, r)) = kCut2 cl rf hi (evo cl lo r) := rfl
@[simp] theorem kCut2_s (hi : Iro) (l : Option Int) : kCut2 cl rf hi (some (l, r)) = kCut3 rf l (evo cl hi r) := rfl
@[simp] theorem kCut3_s (l u : Option Int) : kCut3 rf l (some (u, r)) = kCut4 l u r (dr r (settle rf)) := rfl
@[simp] theorem kCut4_s (l u : Option Int) (d : D) : kCut4 l u r (some d) = kRes r (dCutR l u d) := rfl
@[simp] theorem evo_no : evo cl .no r = some (none, r) := by rw [evo]
@[simp] theorem evo_yes (a : Ir) : evo cl (.yes a) r = kOpt (ev cl a r) := by rw [evo]; rfl
@[simp] theorem evp_no : evp cl .no r = some (none, r) := by rw [evp]
@[simp] theorem evp_yes (a : Ir) : evp cl (.yes a) r = kOpt (ev cl a r) := by rw [evp]; rfl
@[simp] theorem kOpt_s : kOpt (some (rf, r)) = kOpt2 r (dr r rf) := rfl
@[simp] theorem kOpt2_s (i : Int) : kOpt2 r (some (.int i)) = some (some i, r) := rfl
def kRev (m : Option (Rf × AE)) : Option (Rf × AE) := m.bind fun x => (dr x.2 x.1).bind fun d => (dRev d).bind fun z => some (z, x.2)
def kRev2 (r : AE) (m : Option D) : Option (Rf × AE) := m.bind fun d => (dRev d).bind fun z => some (z, r)
@[simp] theorem ev_rev (a : Ir) : ev cl (.rev a) r = kRev (ev cl a r) := by rw [ev]; rfl
@[simp] theorem kRev_s : kRev (some (rf, r)) = kRev2 r (dr r rf) := rfl
@[simp] theorem kRev2_t (ds : List D) : kRev2 r (some (.tuple ds)) = some (.v (.tuple ds.reverse), r) := rfl
@[simp] theorem kRev2_l (ds : List D) : kRev2 r (some (.list ds)) = some (.f ds.reverse, r) := rfl
@[simp] theorem ev_call (f : String) (es : Irs) : ev cl (.call f es) r = kCall cl f (evs cl es r) := by rw [ev]; rfl
@[simp] theorem kCall_s (f : String) (l : List Rf) : kCall cl f (some (l, r)) = kCall2 cl f (fzs r l) := rfl
@[simp] theorem kCall2_s (f : String) (l : List D) : kCall2 cl f (some (l, r)) = kRet r (cl f [] [] l) := rfl
@[simp] theorem kRet_s (t : List D) : kRet r (some (rf, t)) = some (rf, r) := rfl
@[simp] theorem ev_callT (f : String) (i j : Nat) (es : Irs) : ev cl (.callT f i j es) r = if okT r i = true ∧ okO r j = true then kCT cl f i j (evs cl es r) else none := by rw [ev]; rfl
@[simp] theorem kCT_s (f : String) (i j : Nat) (l : List Rf) : kCT cl f i j (some (l, r)) = kCT2 cl f i j (fzs r l) := rfl
@[simp] theorem kCT2_s (f : String) (i j : Nat) (l : List D) : kCT2 cl f i j (some (l, r)) = kCT3 cl f l r j r[i]? r[j]? := rfl
@[simp] theorem kCT3_t (f : String) (l : List D) (j : Nat) (ns : List Int) (t : List D) : kCT3 cl f l r j (some (.scr ns)) (some (.twn t)) = kRetT r j (.twn t) (cl f ns t l) := rfl
@[simp] theorem kCT3_o (f : String) (l : List D) (j : Nat) (ns : List Int) (t : List D) : kCT3 cl f l r j (some (.scr ns)) (some (.own t)) = kRetT r j (.own t) (cl f ns t l) := rfl
@[simp] theorem kRetT_t (j : Nat) (t t' : List D) : kRetT r j (.twn t) (some (rf, t')) = some (rf, r.set j (.twn t')) := rfl
@[simp] theorem kRetT_o (j : Nat) (t t' : List D) : kRetT r j (.own t) (some (rf, t')) = some (rf, r.set j (.own t')) := rfl
theorem okT_e (i : Nat) (ns : List Int) (h : r[i]? = some (.scr ns)) : okT r i = true := by unfold okT; rw [h]
theorem okO_o (i : Nat) (ns : List D) (h : r[i]? = some (.own ns)) : okO r i = true := by unfold okO; rw [h]
theorem okO_t (i : Nat) (ns : List D) (h : r[i]? = some (.twn ns)) : okO r i = true := by unfold okO; rw [h]
@[simp] theorem ev_bi (b : Bi) (a : Ir) : ev cl (.bi b a) r = kBi b (ev cl a r) := by rw [ev]; rfl
@[simp] theorem kBi_s (b : Bi) : kBi b (some (rf, r)) = kBi2 b r (dr r rf) := rfl
@[simp] theorem kBi2_s (b : Bi) (d : D) : kBi2 b r (some d) = kRes r (bi1 b d) := rfl
@[simp] theorem ev_bi2 (b : Bi2) (a c : Ir) : ev cl (.bi2 b a c) r = kTwo1 cl b c (ev cl a r) := by rw [ev]; rfl
@[simp] theorem kTwo1_s (b : Bi2) (c : Ir) : kTwo1 cl b c (some (rf, r)) = kTwo2 b rf (ev cl c r) := rfl
@[simp] theorem kTwo2_s (b : Bi2) (x : Rf) : kTwo2 b x (some (rf, r)) = kTwo3 b r (dr r (settle x)) (dr r rf) := rfl
@[simp] theorem kTwo3_s (b : Bi2) (d e : D) : kTwo3 b r (some d) (some e) = kRes r (bi2f b d e) := rfl
@[simp] theorem ev_isi (a : Ir) (t : Ty) : ev cl (.isi a t) r = kIsi t (ev cl a r) := by rw [ev]; rfl
@[simp] theorem kIsi_s (t : Ty) : kIsi t (some (rf, r)) = kIsi2 t r (dr r rf) := rfl
@[simp] theorem kIsi2_s (t : Ty) (d : D) : kIsi2 t r (some d) = some (.v (.bool (isT (tyS t) d)), r) := rfl
@[simp] theorem ev_pop (i : Nat) (a : Iro) : ev cl (.pop i a) r = if okO r i = true then kPop i (evp cl a r) else none := by rw [ev]; rfl
@[simp] theorem kPop_s (i : Nat) (k : Option Int) : kPop i (some (k, r)) = kPop2 i k r r[i]? := rfl
@[simp] theorem kPop2_o (i : Nat) (k : Option Int) (ds : List D) : kPop2 i k r (some (.own ds)) = kPop3 i (.own ds) r (popD ds k) := rfl
@[simp] theorem kPop3_o (i : Nat) (ds : List D) (y : D) (es : List D) : kPop3 i (.own ds) r (some (y, es)) = some (.v y, r.set i (.own es)) := rfl
def kSl (r : AE) : Option As → Option (Rf × AE)
    | some (.scr ns) => some (.v (.int ns.length), r)
    | _ => none
@[simp] theorem ev_slen (i : Nat) : ev cl (.slen i) r = kSl r r[i]? := by (rw [ev]) <;> rfl
@[simp] theorem kSl_s (ns : List Int) : kSl r (some (.scr ns)) = some (.v (.int ns.length), r) := rfl
@[simp] theorem ev_six (i : Nat) (a : Ir) : ev cl (.six i a) r = if okT r i = true then kSix i (ev cl a r) else none := by rw [ev]; rfl
@[simp] theorem kSix_s (i : Nat) : kSix i (some (rf, r)) = kSix2 r (dr r rf) r[i]? := by
  show (dr r rf).bind _ = (dr r rf).bind _
  cases dr r rf <;> rfl
@[simp] theorem kSix2_s (k : D) (ns : List Int) : kSix2 r (some k) (some (.scr ns)) = kV r (dIx (scrD ns) k) := rfl
def kSt (r : AE) : Option As → Option (Rf × AE)
    | some (.scr ns) => some (.v (.bool !ns.isEmpty), r)
    | _ => none
@[simp] theorem ev_stru (i : Nat) : ev cl (.stru i) r = kSt r r[i]? := by (rw [ev]) <;> rfl
@[simp] theorem kSt_s (ns : List Int) : kSt r (some (.scr ns)) = some (.v (.bool !ns.isEmpty), r) := rfl
@[simp] theorem ev_lc (own : List Nat) (tg : Tg) (it : Iri) (c : Iro) (e : Ir) : ev cl (.lc own tg it c e) r = kLc cl own tg c e (evI cl it r) := by rw [ev]; rfl
@[simp] theorem kLc_s (own : List Nat) (tg : Tg) (c : Iro) (e : Ir) (xs : List D) : kLc cl own tg c e (some (xs, r)) = if xs.length ≤ lineN ∧ own.all (fun i => plainS (r.getD i .no)) = true then kF (lcS cl own tg c e xs r) else none := rfl
@[simp] theorem kF_s (ys : List D) : kF (some (ys, r)) = some (.f ys, r) := rfl
@[simp] theorem evT_and (a b : Ir) : evT cl (.and a b) r = kTA cl b (evT cl a r) := by rw [evT]; rfl
@[simp] theorem kTA_t (b : Ir) : kTA cl b (some (true, r)) = evT cl b r := rfl
@[simp] theorem kTA_f (b : Ir) : kTA cl b (some (false, r)) = some (false, r) := rfl
@[simp] theorem evT_or (a b : Ir) : evT cl (.or a b) r = kTO cl b (evT cl a r) := by rw [evT]; rfl
@[simp] theorem kTO_t (b : Ir) : kTO cl b (some (true, r)) = some (true, r) := rfl
@[simp] theorem kTO_f (b : Ir) : kTO cl b (some (false, r)) = evT cl b r := rfl
@[simp] theorem evT_not (a : Ir) : evT cl (.not a) r = kTN (evT cl a r) := by rw [evT]; rfl
@[simp] theorem kTN_s (b : Bool) : kTN (some (b, r)) = some (!b, r) := rfl
@[simp] theorem kTr_s : kTr (some (rf, r)) = kTr2 r (tru (dr r rf)) := by
  show (dr r rf).bind _ = ((dr r rf).bind dTruth).bind _
  cases dr r rf <;> rfl
@[simp] theorem kTr2_s (b : Bool) : kTr2 r (some b) = some (b, r) := rfl
@[simp] theorem evT_cmp (op : Cop) (a b : Ir) : evT cl (.cmp op a b) r = kTr (ev cl (.cmp op a b) r) := by (rw [evT]) <;> first | rfl | (intros; contradiction)
@[simp] theorem evT_ch2 (o1 o2 : Cop) (a b c : Ir) : evT cl (.ch2 o1 o2 a b c) r = kTr (ev cl (.ch2 o1 o2 a b c) r) := by (rw [evT]) <;> first | rfl | (intros; contradiction)
@[simp] theorem evT_nm (i : Nat) : evT cl (.nm i) r = kTr (ev cl (.nm i) r) := by (rw [evT]) <;> first | rfl | (intros; contradiction)
@[simp] theorem evT_call (f : String) (es : Irs) : evT cl (.call f es) r = kTr (ev cl (.call f es) r) := by (rw [evT]) <;> first | rfl | (intros; contradiction)
@[simp] theorem evT_callT (f : String) (i j : Nat) (es : Irs) : evT cl (.callT f i j es) r = kTr (ev cl (.callT f i j es) r) := by (rw [evT]) <;> first | rfl | (intros; contradiction)
@[simp] theorem evT_ix (a b : Ir) : evT cl (.ix a b) r = kTr (ev cl (.ix a b) r) := by (rw [evT]) <;> first | rfl | (intros; contradiction)
@[simp] theorem evT_isi (a : Ir) (t : Ty) : evT cl (.isi a t) r = kTr (ev cl (.isi a t) r) := by (rw [evT]) <;> first | rfl | (intros; contradiction)
@[simp] theorem evT_bi (b : Bi) (a : Ir) : evT cl (.bi b a) r = kTr (ev cl (.bi b a) r) := by (rw [evT]) <;> first | rfl | (intros; contradiction)
@[simp] theorem evT_stru (i : Nat) : evT cl (.stru i) r = kTr (ev cl (.stru i) r) := by (rw [evT]) <;> first | rfl | (intros; contradiction)
@[simp] theorem evT_lc (own : List Nat) (tg : Tg) (it : Iri) (c : Iro) (e : Ir) : evT cl (.lc own tg it c e) r = kTr (ev cl (.lc own tg it c e) r) := by (rw [evT]) <;> first | rfl | (intros; contradiction)
@[simp] theorem evT_bin (op : Bop) (a b : Ir) : evT cl (.bin op a b) r = kTr (ev cl (.bin op a b) r) := by (rw [evT]) <;> first | rfl | (intros; contradiction)
@[simp] theorem evT_bl (i : Bool) : evT cl (.bl i) r = kTr (ev cl (.bl i) r) := by (rw [evT]) <;> first | rfl | (intros; contradiction)
@[simp] theorem evC_no : evC cl .no r = some (true, r) := by rw [evC]
@[simp] theorem evC_yes (a : Ir) : evC cl (.yes a) r = evT cl a r := by rw [evC]
@[simp] theorem kFz_s : kFz (some (rf, r)) = fz r rf := rfl
@[simp] theorem evI_e (a : Ir) : evI cl (.e a) r = kIt (kFz (ev cl a r)) := by
  rw [evI]
  show (ev cl a r).bind _ = ((ev cl a r).bind _).bind _
  cases ev cl a r <;> rfl
@[simp] theorem kIt_s (d : D) : kIt (some (d, r)) = kIt2 r (dItems d) := rfl
@[simp] theorem kIt2_s (l : List D) : kIt2 r (some l) = some (l, r) := rfl
@[simp] theorem evI_enum (a : Ir) : evI cl (.enum a) r = kEn (kFz (ev cl a r)) := by
  rw [evI]
  show (ev cl a r).bind _ = ((ev cl a r).bind _).bind _
  cases ev cl a r <;> rfl
@[simp] theorem kEn_s (d : D) : kEn (some (d, r)) = kIt2 r (dEnum d) := rfl
@[simp] theorem evI_r1 (a : Ir) : evI cl (.r1 a) r = kR1 (ev cl a r) := by rw [evI]; rfl
@[simp] theorem kR1_s : kR1 (some (rf, r)) = kR12 r (dr r rf) := rfl
@[simp] theorem kR12_s (d : D) : kR12 r (some d) = kIt2 r (dRange (.int 0) d) := rfl
@[simp] theorem evI_r2 (a b : Ir) : evI cl (.r2 a b) r = kR2 cl dRange b (ev cl a r) := by rw [evI]; rfl
@[simp] theorem evI_rd (a b : Ir) : evI cl (.rd a b) r = kR2 cl dRangeDn b (ev cl a r) := by rw [evI]; rfl
@[simp] theorem kR2_s (f : D → D → Option (List D)) (b : Ir) : kR2 cl f b (some (rf, r)) = kR22 f rf (ev cl b r) := rfl
@[simp] theorem kR22_s (f : D → D → Option (List D)) (x : Rf) : kR22 f x (some (rf, r)) = kR23 f r (dr r (settle x)) (dr r rf) := rfl
@[simp] theorem kR23_s (f : D → D → Option (List D)) (d e : D) : kR23 f r (some d) (some e) = kIt2 r (f d e) := rfl
@[simp] theorem evI_zip (a b : Ir) : evI cl (.zip a b) r = kZ1 cl b (kFz (ev cl a r)) := by
  rw [evI]
  show (ev cl a r).bind _ = ((ev cl a r).bind _).bind _
  cases ev cl a r <;> rfl
@[simp] theorem kZ1_s (b : Ir) (d : D) : kZ1 cl b (some (d, r)) = kZ2 d (kFz (ev cl b r)) := by
  show (ev cl b r).bind _ = ((ev cl b r).bind _).bind _
  cases ev cl b r <;> rfl
@[simp] theorem kZ2_s (d e : D) : kZ2 d (some (e, r)) = kIt2 r (dZip d e) := rfl
def kScr (r : AE) : Option As → Option (List D × AE)
    | some (.scr ns) => some (ns.map PyData.int, r)
    | _ => none
@[simp] theorem evI_scr (i : Nat) : evI cl (.scr i) r = kScr r r[i]? := by (rw [evI]) <;> rfl
@[simp] theorem kScr_s (ns : List Int) : kScr r (some (.scr ns)) = some (ns.map PyData.int, r) := rfl
end
section
variable (cl : Cl)
noncomputable def kSeq (b : Iss) (m : Option Out) : Option Out := m.bind fun o => match o with
    | .nx r' => exSs cl b r'
    | .rt x r' => some (.rt x r')
def kSet (i : Nat) (m : Option (Rf × AE)) : Option Out := m.bind fun x => if i < x.2.length then (setR x.2 i x.1).bind fun r' => some (.nx r') else none
def kSet2 (m : Option AE) : Option Out := m.bind fun r' => some (.nx r')
def kUnp (t : Tg) (m : Option (D × AE)) : Option Out := m.bind fun y => (asg t y.1 y.2).bind fun r' => some (.nx r')
def kPar1 (i j : Nat) (b : Ir) (m : Option (Rf × AE)) : Option Out := m.bind fun x => (ev cl b x.2).bind fun y => (nos y.2 x.1).bind fun x' => (nos x'.2 y.1).bind fun y' => if i ≠ j ∧ i < y'.2.length ∧ j < y'.2.length then
      (setR y'.2 i x'.1).bind fun r1 => (setR r1 j y'.1).bind fun r2 => some (.nx r2) else none
def kPar2 (i j : Nat) (x : Rf) (m : Option (Rf × AE)) : Option Out := m.bind fun y => (nos y.2 x).bind fun x' => (nos x'.2 y.1).bind fun y' => if i ≠ j ∧ i < y'.2.length ∧ j < y'.2.length then
      (setR y'.2 i x'.1).bind fun r1 => (setR r1 j y'.1).bind fun r2 => some (.nx r2) else none
def kPar3 (i j : Nat) (y : Rf) (m : Option (Rf × AE)) : Option Out := m.bind fun x' => (nos x'.2 y).bind fun y' => if i ≠ j ∧ i < y'.2.length ∧ j < y'.2.length then
      (setR y'.2 i x'.1).bind fun r1 => (setR r1 j y'.1).bind fun r2 => some (.nx r2) else none
def kPar4 (i j : Nat) (x : Rf) (m : Option (Rf × AE)) : Option Out := m.bind fun y' => if i ≠ j ∧ i < y'.2.length ∧ j < y'.2.length then
      (setR y'.2 i x).bind fun r1 => (setR r1 j y'.1).bind fun r2 => some (.nx r2) else none
def kPar5 (j : Nat) (y : Rf) (m : Option AE) : Option Out := m.bind fun r1 => (setR r1 j y).bind fun r2 => some (.nx r2)
def kApp (i : Nat) (m : Option (D × AE)) : Option Out := m.bind fun y => (y.2[i]?).bind fun s => (isO s).bind fun ds => (dApp ds y.1).bind fun ds' => some (.nx (y.2.set i (upO s ds')))
def kApp2 (i : Nat) (d : D) (r : AE) (m : Option As) : Option Out := m.bind fun s => (isO s).bind fun ds => (dApp ds d).bind fun ds' => some (.nx (r.set i (upO s ds')))
def kUp (i : Nat) (s : As) (r : AE) (m : Option (List D)) : Option Out := m.bind fun ds' => some (.nx (r.set i (upO s ds')))
def kExt (i : Nat) (m : Option (D × AE)) : Option Out := m.bind fun y => (y.2[i]?).bind fun s => (isO s).bind fun ds => (dExt ds y.1).bind fun ds' => some (.nx (y.2.set i (upO s ds')))
def kExt2 (i : Nat) (d : D) (r : AE) (m : Option As) : Option Out := m.bind fun s => (isO s).bind fun ds => (dExt ds d).bind fun ds' => some (.nx (r.set i (upO s ds')))
def kPut (i : Nat) (k : Ir) (m : Option (D × AE)) : Option Out := m.bind fun y => if okO y.2 i = true then (ev cl k y.2).bind fun z => (dr z.2 z.1).bind fun j => (z.2[i]?).bind fun s => (isO s).bind fun ds => (dPut ds j y.1).bind fun ds' => some (.nx (z.2.set i (upO s ds'))) else none
def kPut2 (i : Nat) (d : D) (m : Option (Rf × AE)) : Option Out := m.bind fun z => (dr z.2 z.1).bind fun j => (z.2[i]?).bind fun s => (isO s).bind fun ds => (dPut ds j d).bind fun ds' => some (.nx (z.2.set i (upO s ds')))
def kPut3 (i : Nat) (d : D) (r : AE) (m : Option D) (m' : Option As) : Option Out := m.bind fun j => m'.bind fun s => (isO s).bind fun ds => (dPut ds j d).bind fun ds' => some (.nx (r.set i (upO s ds')))
def kDrop (m : Option (Rf × AE)) : Option Out := m.bind fun x => some (.nx x.2)
def kRt (m : Option (Rf × AE)) : Option Out := m.bind fun x => retR x.2 x.1
noncomputable def kIf (a b : Iss) (m : Option (Bool × AE)) : Option Out := m.bind fun t => if t.1 = true then exSs cl a t.2 else exSs cl b t.2
noncomputable def forS (t : Tg) (b : Iss) (xs : List D) (r : AE) : Option Out := forA (asg t) (exSs cl b) xs r
noncomputable def kFor (t : Tg) (b : Iss) (m : Option (List D × AE)) : Option Out := m.bind fun xs => forS cl t b xs.1 xs.2
noncomputable def whS (c : Ir) (b : Iss) (r : AE) : Option Out := whA (evT cl c) (exSs cl b) r
end
section
variable {cl : Cl} {r r' : AE} {rf : Rf}
@[simp] theorem exSs_nil : exSs cl .nil r = some (.nx r) := by rw [exSs]
@[simp] theorem exSs_cons (a : Is) (b : Iss) : exSs cl (.cons a b) r = kSeq cl b (exS cl a r) := by rw [exSs]; rfl
@[simp] theorem kSeq_n (b : Iss) : kSeq cl b (some (.nx r)) = exSs cl b r := rfl
@[simp] theorem kSeq_r (b : Iss) : kSeq cl b (some (.rt rf r)) = some (.rt rf r) := rfl
@[simp] theorem exS_set (i : Nat) (e : Ir) : exS cl (.set i e) r = kSet i (ev cl e r) := by rw [exS]; rfl
@[simp] theorem kSet_s (i : Nat) : kSet i (some (rf, r)) = if i < r.length then kSet2 (setR r i rf) else none := rfl
@[simp] theorem kSet2_s : kSet2 (some r) = some (.nx r) := rfl
@[simp] theorem setR_v (i : Nat) (d : D) : setR r i (.v d) = some (r.set i (.val d)) := rfl
@[simp] theorem setR_f (i : Nat) (d : List D) : setR r i (.f d) = some (r.set i (.own d)) := rfl
def kSs (i : Nat) (m : Option (D × AE)) : Option AE := m.bind fun y => some (y.2.set i (.val y.1))
@[simp] theorem setR_s (i j : Nat) : setR r i (.s j) = kSs i (fz r (.s j)) := rfl
@[simp] theorem kSs_s (i : Nat) (d : D) : kSs i (some (d, r)) = some (r.set i (.val d)) := rfl
@[simp] theorem exS_unp (t : Tg) (e : Ir) : exS cl (.unp t e) r = kUnp t (kFz (ev cl e r)) := by
  rw [exS]
  show (ev cl e r).bind _ = ((ev cl e r).bind _).bind _
  cases ev cl e r <;> rfl
@[simp] theorem kUnp_s (t : Tg) (d : D) : kUnp t (some (d, r)) = kSet2 (asg t d r) := rfl
@[simp] theorem exS_par (i j : Nat) (a b : Ir) : exS cl (.par i j a b) r = kPar1 cl i j b (ev cl a r) := by rw [exS]; rfl
@[simp] theorem kPar1_s (i j : Nat) (b : Ir) : kPar1 cl i j b (some (rf, r)) = kPar2 i j rf (ev cl b r) := rfl
@[simp] theorem kPar2_s (i j : Nat) (x : Rf) : kPar2 i j x (some (rf, r)) = kPar3 i j rf (nos r x) := rfl
@[simp] theorem kPar3_s (i j : Nat) (y : Rf) : kPar3 i j y (some (rf, r)) = kPar4 i j rf (nos r y) := rfl
@[simp] theorem kPar4_s (i j : Nat) (x : Rf) : kPar4 i j x (some (rf, r)) = if i ≠ j ∧ i < r.length ∧ j < r.length then kPar5 j rf (setR r i x) else none := rfl
@[simp] theorem kPar5_s (j : Nat) : kPar5 j rf (some r) = kSet2 (setR r j rf) := rfl
@[simp] theorem nos_v (d : D) : nos r (.v d) = some (.v d, r) := rfl
@[simp] theorem nos_f (d : List D) : nos r (.f d) = some (.f d, r) := rfl
def kNs (m : Option (D × AE)) : Option (Rf × AE) := m.bind fun y => some (.v y.1, y.2)
@[simp] theorem nos_s (i : Nat) : nos r (.s i) = kNs (fz r (.s i)) := rfl
@[simp] theorem kNs_s (d : D) : kNs (some (d, r)) = some (.v d, r) := rfl
@[simp] theorem exS_app (i : Nat) (e : Ir) : exS cl (.app i e) r = if okO r i = true then kApp i (kFz (ev cl e r)) else none := by
  rw [exS]
  show (if _ then (ev cl e r).bind _ else none) = if _ then ((ev cl e r).bind _).bind _ else none
  cases ev cl e r <;> rfl
@[simp] theorem kApp_s (i : Nat) (d : D) : kApp i (some (d, r)) = kApp2 i d r r[i]? := rfl
@[simp] theorem kApp2_o (i : Nat) (d : D) (ds : List D) : kApp2 i d r (some (.own ds)) = kUp i (.own ds) r (dApp ds d) := rfl
@[simp] theorem kApp2_t (i : Nat) (d : D) (ds : List D) : kApp2 i d r (some (.twn ds)) = kUp i (.twn ds) r (dApp ds d) := rfl
@[simp] theorem kUp_o (i : Nat) (ds es : List D) : kUp i (.own ds) r (some es) = some (.nx (r.set i (.own es))) := rfl
@[simp] theorem kUp_t (i : Nat) (ds es : List D) : kUp i (.twn ds) r (some es) = some (.nx (r.set i (.twn es))) := rfl
@[simp] theorem exS_ext (i : Nat) (e : Ir) : exS cl (.ext i e) r = if okO r i = true then kExt i (kFz (ev cl e r)) else none := by
  rw [exS]
  show (if _ then (ev cl e r).bind _ else none) = if _ then ((ev cl e r).bind _).bind _ else none
  cases ev cl e r <;> rfl
@[simp] theorem kExt_s (i : Nat) (d : D) : kExt i (some (d, r)) = kExt2 i d r r[i]? := rfl
@[simp] theorem kExt2_o (i : Nat) (d : D) (ds : List D) : kExt2 i d r (some (.own ds)) = kUp i (.own ds) r (dExt ds d) := rfl
@[simp] theorem exS_put (i : Nat) (k e : Ir) : exS cl (.put i k e) r = kPut cl i k (kFz (ev cl e r)) := by
  rw [exS]
  show (ev cl e r).bind _ = ((ev cl e r).bind _).bind _
  cases ev cl e r <;> rfl
@[simp] theorem kPut_s (i : Nat) (k : Ir) (d : D) : kPut cl i k (some (d, r)) = if okO r i = true then kPut2 i d (ev cl k r) else none := rfl
@[simp] theorem kPut2_s (i : Nat) (d : D) : kPut2 i d (some (rf, r)) = kPut3 i d r (dr r rf) r[i]? := by
  show (dr r rf).bind _ = (dr r rf).bind _
  cases dr r rf <;> rfl
@[simp] theorem kPut3_o (i : Nat) (d j : D) (ds : List D) : kPut3 i d r (some j) (some (.own ds)) = kUp i (.own ds) r (dPut ds j d) := rfl
@[simp] theorem kPut3_t (i : Nat) (d j : D) (ds : List D) : kPut3 i d r (some j) (some (.twn ds)) = kUp i (.twn ds) r (dPut ds j d) := rfl
@[simp] theorem exS_drop (e : Ir) : exS cl (.drop e) r = kDrop (ev cl e r) := by rw [exS]; rfl
@[simp] theorem kDrop_s : kDrop (some (rf, r)) = some (.nx r) := rfl
@[simp] theorem exS_ret (e : Ir) : exS cl (.ret e) r = kRt (ev cl e r) := by rw [exS]; rfl
@[simp] theorem kRt_s : kRt (some (rf, r)) = retR r rf := rfl
@[simp] theorem retR_v (d : D) : retR r (.v d) = some (.rt (.v d) r) := rfl
@[simp] theorem retR_f (d : List D) : retR r (.f d) = some (.rt (.f d) r) := rfl
def kRs (i : Nat) (r : AE) : Option As → Option Out
    | some (.own ds) => some (.rt (.f ds) (r.set i .no))
    | some (.val d) => some (.rt (.v d) r)
    | _ => none
@[simp] theorem retR_s (i : Nat) : retR r (.s i) = kRs i r r[i]? := rfl
@[simp] theorem kRs_o (i : Nat) (ds : List D) : kRs i r (some (.own ds)) = some (.rt (.f ds) (r.set i .no)) := rfl
@[simp] theorem kRs_v (i : Nat) (d : D) : kRs i r (some (.val d)) = some (.rt (.v d) r) := rfl
@[simp] theorem exS_if (c : Ir) (a b : Iss) : exS cl (.ifs c a b) r = kIf cl a b (evT cl c r) := by rw [exS]; rfl
theorem kIf_t (a b : Iss) : kIf cl a b (some (true, r)) = exSs cl a r := rfl
theorem kIf_f (a b : Iss) : kIf cl a b (some (false, r)) = exSs cl b r := rfl
@[simp] theorem exS_for (t : Tg) (it : Iri) (b : Iss) : exS cl (.for_ t it b) r = kFor cl t b (evI cl it r) := by rw [exS]; rfl
@[simp] theorem kFor_s (t : Tg) (b : Iss) (xs : List D) : kFor cl t b (some (xs, r)) = forS cl t b xs r := rfl
@[simp] theorem exS_wh (c : Ir) (b : Iss) : exS cl (.wh c b) r = whS cl c b r := by rw [exS]; rfl
@[simp] theorem exS_skip : exS cl .skip r = some (.nx r) := by rw [exS]
end
def kTown (x : Rf) (m : Option (List D)) : Option (Rf × List D) := m.bind fun t => some (x, t)
def twn1 : Option As → Option (List D)
  | some (.twn t') => some t'
  | _ => none
def kEndP (m : Option Out) : Option (Rf × List D) := m.bind fun o => match o with
  | .nx _ => some (.v .none, [])
  | .rt x _ => some (x, [])
def kEndD (m : Option Out) : Option (Rf × List D) := m.bind fun o => match o with
  | .nx r => kTown (.v .none) (twn1 r[1]?)
  | .rt x r => kTown x (twn1 r[1]?)
@[simp] theorem kEndP_r (x : Rf) (r : AE) : kEndP (some (.rt x r)) = some (x, []) := rfl
@[simp] theorem kEndP_n (r : AE) : kEndP (some (.nx r)) = some (.v .none, []) := rfl
@[simp] theorem kEndD_r (x : Rf) (r : AE) : kEndD (some (.rt x r)) = kTown x (twn1 r[1]?) := rfl
@[simp] theorem kEndD_n (r : AE) : kEndD (some (.nx r)) = kTown (.v .none) (twn1 r[1]?) := rfl
@[simp] theorem kTown_s (x : Rf) (t : List D) : kTown x (some t) = some (x, t) := rfl
@[simp] theorem kTwn_s (t : List D) : twn1 (some (.twn t)) = some t := rfl
theorem call_p {Φ : Tab} {f : String} {fn : Fn} (h : Φ f = some fn) {k : Nat} {ds : List D} (hk : 1 ≤ k) (ht : fn.tw = false) (hl : ds.length = fn.np) : call Φ k f [] [] ds = kEndP (exSs (call Φ (k - 1)) fn.body (ds.map As.val ++ List.replicate (fn.n - ds.length) .no)) := by
  obtain ⟨j, rfl⟩ : ∃ j, k = j + 1 := ⟨k - 1, by omega⟩
  rw [call, h]
  show (if ds.length = fn.np ∧ (fn.tw = true ∨ ([] : List D) = []) then (exSs (call Φ j) fn.body (start0 fn [] [] ds)).bind (endF fn []) else none) = _
  rw [if_pos ⟨hl, .inr rfl⟩]
  unfold start0
  rw [ht]
  show (exSs (call Φ j) fn.body (ds.map As.val ++ List.replicate (fn.n - ds.length) .no)).bind _ = (exSs (call Φ j) fn.body (ds.map As.val ++ List.replicate (fn.n - ds.length) .no)).bind _
  congr 1
  funext o
  cases o <;> (unfold endF town; rw [ht]; rfl)
theorem call_d {Φ : Tab} {f : String} {fn : Fn} (h : Φ f = some fn) {k : Nat} {ns : List Int} {t ds : List D} (hk : 1 ≤ k) (ht : fn.tw = true) (hl : ds.length = fn.np) : call Φ k f ns t ds = kEndD (exSs (call Φ (k - 1)) fn.body (.scr ns :: .twn t :: (ds.map As.val ++ List.replicate (fn.n - 2 - ds.length) .no))) := by
  obtain ⟨j, rfl⟩ : ∃ j, k = j + 1 := ⟨k - 1, by omega⟩
  rw [call, h]
  show (if ds.length = fn.np ∧ (fn.tw = true ∨ t = []) then (exSs (call Φ j) fn.body (start0 fn ns t ds)).bind (endF fn t) else none) = _
  rw [if_pos ⟨hl, .inl ht⟩]
  unfold start0
  rw [ht]
  show (exSs (call Φ j) fn.body (.scr ns :: .twn t :: (ds.map As.val ++ List.replicate (fn.n - 2 - ds.length) .no))).bind _ = (exSs (call Φ j) fn.body (.scr ns :: .twn t :: (ds.map As.val ++ List.replicate (fn.n - 2 - ds.length) .no))).bind _
  congr 1
  funext o
  cases o with
  | nx r =>
    show (town fn t r).bind _ = kTown _ (twn1 r[1]?)
    unfold town
    rw [ht, if_pos rfl]
    cases r[1]? with
    | none => rfl
    | some a => cases a <;> rfl
  | rt x r =>
    show (town fn t r).bind _ = kTown _ (twn1 r[1]?)
    unfold town
    rw [ht, if_pos rfl]
    cases r[1]? with
    | none => rfl
    | some a => cases a <;> rfl
end Pd

set_option Elab.async false
set_option linter.all false
set_option maxRecDepth 100000
set_option maxHeartbeats 4000000
namespace Pd
open PySem
def Ok {α : Type} (m : Option α) (P : α → Prop) : Prop := ∃ x, m = some x ∧ P x
theorem Ok.mono {α : Type} {m : Option α} {P Q : α → Prop} (h : Ok m P) (k : ∀ x, P x → Q x) : Ok m Q := by
  obtain ⟨x, e, h⟩ := h
  exact ⟨x, e, k x h⟩
section
variable {cl : Cl} {r r1 r2 : AE} {rf : Rf} {o : Out}
@[simp] theorem kIf_c (a b : Iss) (c : Bool) : kIf cl a b (some (c, r)) = if c = true then exSs cl a r else exSs cl b r := by cases c <;> rfl
@[simp] theorem kIte_c (a b : Ir) (c : Bool) : kIte cl a b (some (c, r)) = if c = true then ev cl a r else ev cl b r := by cases c <;> rfl
theorem whN_mono {c : AE → Option (Bool × AE)} {b : AE → Option Out} : ∀ {n : Nat} {r : AE}, whN c b n r = some o → whN c b (n + 1) r = some o
  | 0, r, h => by cases h
  | n + 1, r, h => by
    obtain ⟨t, et, h⟩ := bindS h
    show (c r).bind _ = _
    rw [et]
    show (if t.1 = true then (b t.2).bind _ else _) = _
    by_cases q : t.1 = true
    · rw [if_pos q] at h ⊢
      obtain ⟨z, ez, h⟩ := bindS h
      rw [ez]
      cases z with
      | nx r2 => exact whN_mono (n := n) h
      | rt x r2 => exact h
    · rw [if_neg q] at h ⊢; exact h
theorem whN_le {c : AE → Option (Bool × AE)} {b : AE → Option Out} {n m : Nat} (hl : n ≤ m) (h : whN c b n r = some o) : whN c b m r = some o := by
  induction hl with
  | refl => exact h
  | step _ ih => exact whN_mono ih
theorem whA_of {c : AE → Option (Bool × AE)} {b : AE → Option Out} {n : Nat} (h : whN c b n r = some o) : whA c b r = some o := by
  have hx : ∃ n o, whN c b n r = some o := ⟨n, o, h⟩
  unfold whA
  rw [dif_pos hx]
  obtain ⟨o', h'⟩ := hx.choose_spec
  rcases Nat.le_total n hx.choose with l | l
  · rw [whN_le l h]
  · have := whN_le l h'
    rw [h] at this
    rw [h', this]
theorem wh_stop {c : Ir} {b : Iss} (h : evT cl c r = some (false, r1)) : whS cl c b r = some (.nx r1) := whA_of (n := 1) (by
  show (evT cl c r).bind _ = _
  rw [h]; rfl)
theorem wh_go {c : Ir} {b : Iss} (h : evT cl c r = some (true, r1)) (hb : exSs cl b r1 = some (.nx r2)) (hr : whS cl c b r2 = some o) : whS cl c b r = some o := by
  obtain ⟨n, hn⟩ := whA_is hr
  refine whA_of (n := n + 1) ?_
  show (evT cl c r).bind _ = _
  rw [h]
  show (exSs cl b r1).bind _ = _
  rw [hb]
  exact hn
theorem wh_out {c : Ir} {b : Iss} (h : evT cl c r = some (true, r1)) (hb : exSs cl b r1 = some (.rt rf r2)) : whS cl c b r = some (.rt rf r2) := whA_of (n := 1) (by
  show (evT cl c r).bind _ = _
  rw [h]
  show (exSs cl b r1).bind _ = _
  rw [hb]; rfl)
theorem wh_ok {c : Ir} {b : Iss} {P : Out → Prop} (I : Nat → AE → Prop) (step : ∀ n r, I n r → (∃ r1, evT cl c r = some (false, r1) ∧ P (.nx r1)) ∨ ∃ r1 o, evT cl c r = some (true, r1) ∧ exSs cl b r1 = some o ∧ (match o with
    | .nx r2 => ∃ m, m < n ∧ I m r2
    | .rt x r2 => P (.rt x r2))) : ∀ n r, I n r → Ok (whS cl c b r) P := by
  intro n
  induction n using Nat.strongRecOn with
  | ind n ih =>
    intro r hi
    rcases step n r hi with ⟨r1, et, h⟩ | ⟨r1, o, et, eo, h⟩
    · exact ⟨_, wh_stop et, h⟩
    · cases o with
      | nx r2 =>
        obtain ⟨m, hm, hi2⟩ := h
        obtain ⟨o2, e2, h2⟩ := ih m hm r2 hi2
        exact ⟨o2, wh_go et eo e2, h2⟩
      | rt x r2 => exact ⟨_, wh_out et eo, h⟩
noncomputable def kF1 (cl : Cl) (t : Tg) (b : Iss) (ds : List D) (m : Option AE) : Option Out := m.bind fun r1 => (exSs cl b r1).bind fun o => match o with
    | .nx r2 => forS cl t b ds r2
    | .rt x r2 => some (.rt x r2)
noncomputable def kF2 (cl : Cl) (t : Tg) (b : Iss) (ds : List D) (m : Option Out) : Option Out := m.bind fun o => match o with
    | .nx r2 => forS cl t b ds r2
    | .rt x r2 => some (.rt x r2)
theorem for_nil (t : Tg) (b : Iss) : forS cl t b [] r = some (.nx r) := rfl
theorem for_cons (t : Tg) (b : Iss) (d : D) (ds : List D) : forS cl t b (d :: ds) r = kF1 cl t b ds (asg t d r) := rfl
@[simp] theorem kF1_s (t : Tg) (b : Iss) (ds : List D) : kF1 cl t b ds (some r) = kF2 cl t b ds (exSs cl b r) := rfl
@[simp] theorem kF2_n (t : Tg) (b : Iss) (ds : List D) : kF2 cl t b ds (some (.nx r)) = forS cl t b ds r := rfl
@[simp] theorem kF2_r (t : Tg) (b : Iss) (ds : List D) : kF2 cl t b ds (some (.rt rf r)) = some (.rt rf r) := rfl
theorem for_ok {t : Tg} {b : Iss} {P : Out → Prop} (I : List D → AE → Prop) (step : ∀ d ds r, I (d :: ds) r → ∃ r1 o, asg t d r = some r1 ∧ exSs cl b r1 = some o ∧ (match o with
    | .nx r2 => I ds r2
    | .rt x r2 => P (.rt x r2))) (fin : ∀ r, I [] r → P (.nx r)) : ∀ xs r, I xs r → Ok (forS cl t b xs r) P := by
  intro xs
  induction xs with
  | nil => exact fun r h => ⟨_, rfl, fin r h⟩
  | cons d ds ih =>
    intro r h
    obtain ⟨r1, o, e1, e2, h⟩ := step d ds r h
    rw [for_cons, e1, kF1_s, e2]
    cases o with
    | nx r2 => exact ih r2 h
    | rt x r2 => exact ⟨_, rfl, h⟩
def kL1 (cl : Cl) (own : List Nat) (tg : Tg) (c : Iro) (e : Ir) (ds : List D) (r : AE) (m : Option AE) : Option (List D × AE) := m.bind fun r1 => (evC cl c r1).bind fun b => if b.1 = true
    then ((ev cl e b.2).bind fun x => fz x.2 x.1).bind fun y => (lcS cl own tg c e ds (backA own r y.2)).bind fun ys => some (y.1 :: ys.1, ys.2)
    else lcS cl own tg c e ds (backA own r b.2)
def kL2 (cl : Cl) (own : List Nat) (tg : Tg) (c : Iro) (e : Ir) (ds : List D) (r : AE) (m : Option (Bool × AE)) : Option (List D × AE) := m.bind fun b => if b.1 = true
    then ((ev cl e b.2).bind fun x => fz x.2 x.1).bind fun y => (lcS cl own tg c e ds (backA own r y.2)).bind fun ys => some (y.1 :: ys.1, ys.2)
    else lcS cl own tg c e ds (backA own r b.2)
def kL3 (cl : Cl) (own : List Nat) (tg : Tg) (c : Iro) (e : Ir) (ds : List D) (r : AE) (m : Option (D × AE)) : Option (List D × AE) := m.bind fun y => (lcS cl own tg c e ds (backA own r y.2)).bind fun ys => some (y.1 :: ys.1, ys.2)
def kL4 (d : D) (m : Option (List D × AE)) : Option (List D × AE) := m.bind fun ys => some (d :: ys.1, ys.2)
variable {own : List Nat} {tg : Tg} {c : Iro} {e : Ir}
theorem lc_nil : lcS cl own tg c e [] r = some ([], r) := rfl
theorem lc_cons (d : D) (ds : List D) : lcS cl own tg c e (d :: ds) r = kL1 cl own tg c e ds r (asg tg d (wipeA own r)) := rfl
@[simp] theorem kL1_s (ds : List D) : kL1 cl own tg c e ds r (some r1) = kL2 cl own tg c e ds r (evC cl c r1) := rfl
@[simp] theorem kL2_t (ds : List D) : kL2 cl own tg c e ds r (some (true, r1)) = kL3 cl own tg c e ds r (kFz (ev cl e r1)) := rfl
@[simp] theorem kL2_f (ds : List D) : kL2 cl own tg c e ds r (some (false, r1)) = lcS cl own tg c e ds (backA own r r1) := rfl
@[simp] theorem kL3_s (ds : List D) (d : D) : kL3 cl own tg c e ds r (some (d, r1)) = kL4 d (lcS cl own tg c e ds (backA own r r1)) := rfl
@[simp] theorem kL4_s (d : D) (ds : List D) : kL4 d (some (ds, r)) = some (d :: ds, r) := rfl
theorem lcS_map {α : Type} (emb : α → D) (out : α → D) : ∀ (xs : List α),
    (∀ x ∈ xs, ∃ r1 r2 r3, asg tg (emb x) (wipeA own r) = some r1 ∧ evC cl c r1 = some (true, r2) ∧ kFz (ev cl e r2) = some (out x, r3) ∧ backA own r r3 = r) → lcS cl own tg c e (xs.map emb) r = some (xs.map out, r)
  | [], _ => rfl
  | x :: xs, h => by
    obtain ⟨r1, r2, r3, h1, h2, h3, h4⟩ := h x List.mem_cons_self
    rw [List.map_cons, lc_cons, h1, kL1_s, h2, kL2_t, h3, kL3_s, h4, lcS_map emb out xs fun y hy => h y (List.mem_cons_of_mem _ hy)]
    rfl
theorem lcS_filter {α : Type} (emb : α → D) (out : α → D) (p : α → Bool) : ∀ (xs : List α),
    (∀ x ∈ xs, ∃ r1 r2, asg tg (emb x) (wipeA own r) = some r1 ∧ evC cl c r1 = some (p x, r2) ∧ (p x = true → ∃ r3, kFz (ev cl e r2) = some (out x, r3) ∧ backA own r r3 = r) ∧ (p x = false → backA own r r2 = r)) → lcS cl own tg c e (xs.map emb) r = some ((xs.filter p).map out, r)
  | [], _ => rfl
  | x :: xs, h => by
    obtain ⟨r1, r2, h1, h2, h3, h4⟩ := h x List.mem_cons_self
    have ih := lcS_filter emb out p xs fun y hy => h y (List.mem_cons_of_mem _ hy)
    rw [List.map_cons, lc_cons, h1, kL1_s, h2]
    cases q : p x with
    | true =>
      obtain ⟨r3, h5, h6⟩ := h3 q
      rw [kL2_t, h5, kL3_s, h6, ih, List.filter_cons_of_pos q]
      rfl
    | false =>
      rw [kL2_f, h4 q, ih, List.filter_cons_of_neg (by rw [q]; exact Bool.false_ne_true)]
theorem lcS_ok {P : List D → AE → Prop} (I : List D → List D → AE → Prop)
    (step : ∀ d ds acc r, I (d :: ds) acc r → ∃ r1 b r2, asg tg d (wipeA own r) = some r1 ∧ evC cl c r1 = some (b, r2) ∧ (b = true → ∃ y r3, kFz (ev cl e r2) = some (y, r3) ∧ I ds (acc ++ [y]) (backA own r r3)) ∧ (b = false → I ds acc (backA own r r2))) (fin : ∀ acc r, I [] acc r → P acc r) :
    ∀ xs acc r, I xs acc r → ∃ ys r', lcS cl own tg c e xs r = some (ys, r') ∧ P (acc ++ ys) r' := by
  intro xs
  induction xs with
  | nil => exact fun acc r h => ⟨[], r, rfl, by rw [List.append_nil]; exact fin acc r h⟩
  | cons d ds ih =>
    intro acc r h
    obtain ⟨r1, b, r2, e1, e2, h1, h2⟩ := step d ds acc r h
    rw [lc_cons, e1, kL1_s, e2]
    cases b with
    | true =>
      obtain ⟨y, r3, ey, h⟩ := h1 rfl
      obtain ⟨ys, r', es, h⟩ := ih _ _ h
      rw [kL2_t, ey, kL3_s, es, kL4_s]
      exact ⟨_, _, rfl, by rw [List.append_assoc] at h; exact h⟩
    | false =>
      rw [kL2_f]
      exact ih _ _ (h2 rfl)
end
@[simp] theorem bop_add (i j : Int) : bop .add (.int i) (.int j) = some (.v (.int (i + j))) := rfl
@[simp] theorem bop_sub (i j : Int) : bop .sub (.int i) (.int j) = some (.v (.int (i - j))) := rfl
@[simp] theorem bop_mod (i j : Int) : bop .mod (.int i) (.int j) = if 0 < j then some (.v (.int (i % j))) else none := by
  show (if 0 < j then some (PyData.int (i % j)) else none).map Rf.v = _
  split <;> rfl
@[simp] theorem bop_tup (xs ys : List D) : bop .add (.tuple xs) (.tuple ys) = if xs.length + ys.length ≤ lineN then some (.v (.tuple (xs ++ ys))) else none := by
  show (if xs.length + ys.length ≤ lineN then some (PyData.tuple (xs ++ ys)) else none).map Rf.v = _
  split <;> rfl
@[simp] theorem bop_lst (xs ys : List D) : bop .add (.list xs) (.list ys) = if xs.length + ys.length ≤ lineN then some (.f (xs ++ ys)) else none := by
  show (if xs.length + ys.length ≤ lineN then some (xs ++ ys) else none).map Rf.f = _
  split <;> rfl
@[simp] theorem bop_rep (xs : List D) (k : Int) : bop .mul (.list xs) (.int k) = if 0 ≤ k ∧ k ≤ 100000 ∧ xs.length ≤ 100 then some (.f (List.replicate k.toNat xs).flatten) else none := by
  show (if 0 ≤ k ∧ k ≤ 100000 ∧ xs.length ≤ 100 then some (List.replicate k.toNat xs).flatten else none).map Rf.f = _
  split <;> rfl
theorem log2_lt {x : Int} {n : Nat} (hn : 0 < n) (h : x.natAbs < 2 ^ n) : x.natAbs.log2 < n := by
  by_cases h0 : x.natAbs = 0
  · rw [h0]; simpa using hn
  · exact (Nat.log2_lt h0).mpr h
def Sz (n : Nat) (x : Int) : Prop := x.natAbs < 2 ^ n
theorem div_is {i j : Int} (hj : 0 < j) (h : Sz 13000 i ∨ Sz 9000 j) : bop .div (.int i) (.int j) = some (.v (.int (i / j))) := by
  show (if 0 < j ∧ (i.natAbs.log2 < 13000 ∨ j.natAbs.log2 < 9000) then some (PyData.int (i / j)) else none).map Rf.v = _
  rw [if_pos ⟨hj, h.imp (log2_lt (by decide)) (log2_lt (by decide))⟩]; rfl
theorem mul_is {i j : Int} (h : Sz 400000 i) (h2 : Sz 400000 j) : bop .mul (.int i) (.int j) = some (.v (.int (i * j))) := by
  show (if i.natAbs.log2 + j.natAbs.log2 < 1000000 then some (PyData.int (i * j)) else none).map Rf.v = _
  have a := log2_lt (by decide) h
  have b := log2_lt (by decide) h2
  rw [if_pos (by omega)]; rfl
theorem Sz.mono {n m : Nat} {x : Int} (h : Sz n x) (l : n ≤ m) : Sz m x := Nat.lt_of_lt_of_le h (Nat.pow_le_pow_right (by decide) l)
theorem Sz.mul {n m : Nat} {x y : Int} (h : Sz n x) (h2 : Sz m y) : Sz (n + m) (x * y) := by
  unfold Sz at *
  rw [Int.natAbs_mul, Nat.pow_add]
  exact Nat.mul_lt_mul'' h h2
theorem Sz.add {n : Nat} {x y : Int} (h : Sz n x) (h2 : Sz n y) : Sz (n + 1) (x + y) := by
  unfold Sz at *
  rw [Nat.pow_succ]
  omega
theorem Sz.of {n : Nat} {x : Int} (h : x.natAbs < 2 ^ n) : Sz n x := h
theorem Sz.le {n : Nat} {x y : Int} (h : Sz n y) (h0 : 0 ≤ x) (h1 : x ≤ y) : Sz n x := by
  unfold Sz at *
  omega
@[simp] theorem cop_lt (i j : Int) : cop .lt (.int i) (.int j) = some (decide (i < j)) := rfl
@[simp] theorem cop_le (i j : Int) : cop .le (.int i) (.int j) = some (decide (i ≤ j)) := rfl
@[simp] theorem cop_gt (i j : Int) : cop .gt (.int i) (.int j) = some (decide (j < i)) := rfl
@[simp] theorem cop_ge (i j : Int) : cop .ge (.int i) (.int j) = some (decide (j ≤ i)) := rfl
@[simp] theorem cop_eqi (i j : Int) : cop .eq (.int i) (.int j) = some (decide (i = j)) := by
  show dEq _ _ = _
  unfold dEq
  rw [if_pos ⟨rfl, rfl⟩]
  rfl
@[simp] theorem cop_nei (i j : Int) : cop .ne (.int i) (.int j) = some (!decide (i = j)) := by
  show dNe _ _ = _
  unfold dNe
  rw [if_pos ⟨rfl, rfl⟩]
  rfl
@[simp] theorem cop_isn : cop .is .none .none = some true := rfl
@[simp] theorem cop_isi (i : Int) : cop .is (.int i) .none = some false := rfl
@[simp] theorem cop_isb (i : Bool) : cop .is (.bool i) .none = some false := rfl
@[simp] theorem cop_ist (i : List D) : cop .is (.tuple i) .none = some false := rfl
@[simp] theorem cop_isl (i : List D) : cop .is (.list i) .none = some false := rfl
@[simp] theorem cop_iss (i : Str) : cop .is (.str i) .none = some false := rfl
@[simp] theorem cop_notn : cop .isnot .none .none = some false := rfl
@[simp] theorem cop_noti (i : Int) : cop .isnot (.int i) .none = some true := rfl
@[simp] theorem cop_nott (i : List D) : cop .isnot (.tuple i) .none = some true := rfl
@[simp] theorem bw_int (i : Int) : dTruth (.int i) = some (!decide (i = 0)) := rfl
@[simp] theorem bw_bool (i : Bool) : dTruth (.bool i) = some i := rfl
@[simp] theorem bw_none : dTruth .none = some false := rfl
@[simp] theorem bw_list (i : List D) : dTruth (.list i) = some (!i.isEmpty) := rfl
@[simp] theorem bw_tuple (i : List D) : dTruth (.tuple i) = some (!i.isEmpty) := rfl
@[simp] theorem bi_len (i : List D) : bi1 .len (.list i) = some (.v (.int i.length)) := rfl
@[simp] theorem bi_lent (i : List D) : bi1 .len (.tuple i) = some (.v (.int i.length)) := rfl
@[simp] theorem bi_abs (i : Int) : bi1 .abs (.int i) = some (.v (.int (if i < 0 then -i else i))) := rfl
@[simp] theorem bi_tup (i : List D) : bi1 .tup (.list i) = some (.v (.tuple i)) := rfl
@[simp] theorem bi_tupt (i : List D) : bi1 .tup (.tuple i) = some (.v (.tuple i)) := rfl
@[simp] theorem bi_lst (i : List D) : bi1 .lst (.list i) = some (.f i) := rfl
@[simp] theorem bi_lstt (i : List D) : bi1 .lst (.tuple i) = some (.f i) := rfl
@[simp] theorem bi_int (i : Int) : bi1 .int (.int i) = some (.v (.int i)) := rfl
@[simp] theorem bi_intb (i : Bool) : bi1 .int (.bool i) = some (.v (.int (if i then 1 else 0))) := rfl
@[simp] theorem bi_all (d : D) : bi1 .all d = (dAll d).map .v := rfl
@[simp] theorem bi_any (d : D) : bi1 .any d = (dAny d).map .v := rfl
@[simp] theorem bi_sum (d : D) : bi1 .sum d = (dSum d).map .v := rfl
@[simp] theorem bi_max (d : D) : bi1 .max d = (dMax d).map .v := rfl
@[simp] theorem bi_min (d : D) : bi1 .min d = (dMin d).map .v := rfl
@[simp] theorem bi_sorted (d : D) : bi1 .sorted d = (dSorted d).map .f := rfl
theorem lrg_bi (d e : D) : bi2f .lrg d e = (dListRg d e).map .f := rfl
theorem trg_bi (d e : D) : bi2f .trg d e = (dListRg d e).map fun l => .v (.tuple l) := rfl
@[simp] theorem bi_min2 (i j : Int) : bi2f .min2 (.int i) (.int j) = some (.v (.int (min i j))) := by
  show some (Rf.v (.int (if j < i then j else i))) = _
  congr 3
  omega
@[simp] theorem bi_max2 (i j : Int) : bi2f .max2 (.int i) (.int j) = some (.v (.int (max i j))) := by
  show some (Rf.v (.int (if j > i then j else i))) = _
  congr 3
  omega
@[simp] theorem tt_int (d : D) : isT (tyS .int) d = (match d with
    | .int _ => true
    | .bool _ => true
    | _ => false) := by cases d <;> rfl
@[simp] theorem tt_bool (d : D) : isT (tyS .bool) d = (match d with
    | .bool _ => true
    | _ => false) := by cases d <;> rfl
@[simp] theorem tt_str (d : D) : isT (tyS .str) d = (match d with
    | .str _ => true
    | _ => false) := by cases d <;> rfl
@[simp] theorem tt_tuple (d : D) : isT (tyS .tuple) d = (match d with
    | .tuple _ => true
    | _ => false) := by cases d <;> rfl
@[simp] theorem tt_list (d : D) : isT (tyS .list) d = (match d with
    | .list _ => true
    | _ => false) := by cases d <;> rfl
theorem ixx_at {α : Type} (xs : List α) (i : Int) : L2.atI xs i = if 0 ≤ i then xs[i.toNat]? else if -(xs.length : Int) ≤ i then xs[(i + xs.length).toNat]? else none := by
  unfold L2.atI L2.ixN
  by_cases h : 0 ≤ i
  · rw [if_pos h, if_pos h]
    by_cases h2 : i < xs.length
    · rw [if_pos h2]; rfl
    · rw [if_neg h2, List.getElem?_eq_none (by omega)]; rfl
  · rw [if_neg h, if_neg h]
    split <;> rfl
@[simp] theorem ixx_l (xs : List D) (i : Int) : dIx (.list xs) (.int i) = L2.atI xs i := rfl
@[simp] theorem ixx_t (xs : List D) (i : Int) : dIx (.tuple xs) (.int i) = L2.atI xs i := rfl
@[simp] theorem asg_n (i : Nat) (d : D) (r : AE) : asg (.n i) d r = if i < r.length then some (r.set i (.val d)) else none := rfl
def kA2 (b : Tg) (d : D) (m : Option AE) : Option AE := m.bind fun r => asg b d r
@[simp] theorem kA2_s (b : Tg) (d : D) (r : AE) : kA2 b d (some r) = asg b d r := rfl
@[simp] theorem asg_t2 (a b : Tg) (x y : D) (r : AE) : asg (.t2 a b) (.tuple [x, y]) r = kA2 b y (asg a x r) := rfl
@[simp] theorem asg_t3 (a b c : Tg) (x y z : D) (r : AE) : asg (.t3 a b c) (.tuple [x, y, z]) r = kA2 c z (kA2 b y (asg a x r)) := by
  show (asg a x r).bind _ = ((asg a x r).bind _).bind _
  cases asg a x r <;> rfl
@[simp] theorem asg_t4 (a b c e : Tg) (x y z w : D) (r : AE) : asg (.t4 a b c e) (.tuple [x, y, z, w]) r = kA2 e w (kA2 c z (kA2 b y (asg a x r))) := by
  show (asg a x r).bind _ = (((asg a x r).bind _).bind _).bind _
  cases asg a x r with
  | none => rfl
  | some r1 =>
    show (asg b y r1).bind _ = ((asg b y r1).bind _).bind _
    cases asg b y r1 <;> rfl
def frD (a b : Int) : D := .tuple [.int (a / Int.gcd a b), .int (b / Int.gcd a b)]
section
variable {Φ : Tab} {k : Nat}
theorem divisor_ok [H_divisor Φ] (a b : Int) (ha : 0 ≤ a) (hb : 0 ≤ b) (hk : 1 ≤ k) : call Φ k "divisor" [] [] [.int a, .int b] = some (.v (.int (Int.gcd a b)), []) := by
  rw [call_p H_divisor.eq hk rfl rfl]
  have key : ∀ (n : Nat) (a b : Int), b.toNat ≤ n → 0 ≤ a → 0 ≤ b → whS (call Φ (k - 1)) (.nm 1) (.cons (.par 0 1 (.nm 1) (.bin .mod (.nm 0) (.nm 1))) .nil) [.val (.int a), .val (.int b)] = some (.nx [.val (.int (Int.gcd a b)), .val (.int 0)]) := by
    intro n
    induction n with
    | zero =>
      intro a b hn ha hb
      have : b = 0 := by omega
      subst this
      rw [wh_stop (r1 := [.val (.int a), .val (.int 0)]) (by simp -implicitDefEqProofs [okT, okO, isO, upO, ixx_at])]
      have : (Int.gcd a 0 : Int) = a := by rw [Int.gcd_zero_right]; omega
      rw [this]
    | succ n ih =>
      intro a b hn ha hb
      by_cases h0 : b = 0
      · subst h0
        rw [wh_stop (r1 := [.val (.int a), .val (.int 0)]) (by simp -implicitDefEqProofs [okT, okO, isO, upO, ixx_at])]
        have : (Int.gcd a 0 : Int) = a := by rw [Int.gcd_zero_right]; omega
        rw [this]
      · have hb' : 0 < b := by omega
        have hl := Int.emod_lt_of_pos a hb'
        have hg := Int.emod_nonneg a h0
        refine wh_go (r1 := [.val (.int a), .val (.int b)]) (r2 := [.val (.int b), .val (.int (a % b))]) (by simp -implicitDefEqProofs [okT, okO, isO, upO, ixx_at, h0]) (by simp -implicitDefEqProofs [okT, okO, isO, upO, ixx_at, hb']) ?_
        rw [ih b (a % b) (by omega) hb hg]
        have : Int.gcd b (a % b) = Int.gcd a b := by
          obtain ⟨m, rfl⟩ := Int.eq_ofNat_of_zero_le ha
          obtain ⟨n', rfl⟩ := Int.eq_ofNat_of_zero_le hb
          show Nat.gcd n' (m % n') = Nat.gcd m n'
          rw [Nat.gcd_comm m n', Nat.gcd_rec n' m, Nat.gcd_comm]
        rw [this]
  simp -implicitDefEqProofs [i_divisor, okT, okO, isO, upO, ixx_at, key b.toNat a b (Nat.le_refl _) ha hb]
end
end Pd

set_option Elab.async false
set_option linter.all false
set_option maxRecDepth 100000
set_option maxHeartbeats 4000000
set_option exponentiation.threshold 1000000
namespace Pd
open PySem
def Tw (n : Nat) (t : List D) : Prop := t = [] ∨ ∃ a rest, t = .int a :: rest ∧ rest.length ≤ n
theorem Tw.mono {n m : Nat} {t : List D} (h : Tw n t) (l : n ≤ m) : Tw m t := by
  rcases h with h | ⟨a, rest, e, q⟩
  · exact .inl h
  · exact .inr ⟨a, rest, e, Nat.le_trans q l⟩
theorem sz_lit {n : Nat} {x : Int} (h : x.natAbs < 2 ^ n) : Sz n x := h
theorem szB {x : Int} (h : x.natAbs < 2 ^ 200) : Sz 400000 x := Nat.lt_of_lt_of_le h (Nat.pow_le_pow_right (by decide) (by decide))
theorem szB1 {x : Int} (h : x.natAbs < 2 ^ 200) : Sz 13000 x := Nat.lt_of_lt_of_le h (Nat.pow_le_pow_right (by decide) (by decide))
theorem szB2 {x : Int} (h : x.natAbs < 2 ^ 200) : Sz 9000 x := Nat.lt_of_lt_of_le h (Nat.pow_le_pow_right (by decide) (by decide))
theorem mul_s {i j : Int} (h : i.natAbs < 2 ^ 200) (h2 : j.natAbs < 2 ^ 200) : bop .mul (.int i) (.int j) = some (.v (.int (i * j))) := mul_is (szB h) (szB h2)
theorem div_s {i j : Int} (hj : 0 < j) (h : j.natAbs < 2 ^ 200) : bop .div (.int i) (.int j) = some (.v (.int (i / j))) := div_is hj (.inr (szB2 h))
theorem emod_b (x : Int) {p : Int} (hp : 0 < p) : 0 ≤ x % p ∧ x % p < p := ⟨Int.emod_nonneg x (by omega), Int.emod_lt_of_pos x hp⟩
theorem dInts_map2 : ∀ ns : List Int, dInts (ns.map PyData.int) = some ns
  | [] => rfl
  | i :: r => by
    show (dInts (r.map PyData.int)).bind _ = _
    rw [dInts_map2 r]; rfl
theorem lineV : lineN = 16777216 := rfl
section
variable {Φ : Tab} {k : Nat} {ns : List Int} {t : List D}
theorem draw_tail {cl : Cl} {n : Nat} (h63 : ns.length ≤ 63) (m a : Int) (rest : List D) (hr : rest.length ≤ n) (hn : n + 1 ≤ 10000000) (hm : 0 < m) :
    ∃ v t', kEndD (exSs cl (match i_l_draw.body with | .cons _ r => r | r => r) [.scr ns, .twn (.int a :: rest), .val (.int m), .no, .no, .no, .no, .no]) = some (.v (.int v), t') ∧ 0 ≤ v ∧ v < m ∧ Tw (n + 1) t' := by
  have hl : rest.length + 1 < lineN := by rw [lineV]; omega
  have hpos : (0 : Int) < (rest.length : Int) + 1 + 1 := by omega
  obtain ⟨c, hc⟩ : ∃ c : Int, (ns = [] ∧ c = 0) ∨ (ns ≠ [] ∧ 0 ≤ ((rest.length : Int) + 1 + 1) % ns.length ∧ ns[(((rest.length : Int) + 1 + 1) % ns.length).toNat]? = some c) := by
    by_cases h : ns = []
    · exact ⟨0, .inl ⟨h, rfl⟩⟩
    · have hp : 0 < ns.length := List.length_pos_iff.mpr h
      obtain ⟨b1, b2⟩ := emod_b ((rest.length : Int) + 1 + 1) (p := ns.length) (by omega)
      exact ⟨_, .inr ⟨h, b1, List.getElem?_eq_getElem (by omega)⟩⟩
  generalize hd : a % 65536 = d
  have hd1 := emod_b a (p := 65536) (by decide)
  rw [hd] at hd1
  generalize hx1 : (c + 40503 * d + 104729 * ((rest.length : Int) + 1 + 1)) % 4294967291 = x1
  have hb1 := emod_b (c + 40503 * d + 104729 * ((rest.length : Int) + 1 + 1)) (p := 4294967291) (by decide)
  rw [hx1] at hb1
  generalize hx2 : x1 * x1 % 4294967279 = x2
  have hb2 := emod_b (x1 * x1) (p := 4294967279) (by decide)
  rw [hx2] at hb2
  generalize hx3 : x2 * 48271 % 4294967291 = x3
  have hb3 := emod_b (x2 * 48271) (p := 4294967291) (by decide)
  rw [hx3] at hb3
  generalize hx4 : x3 * x3 % 4294967279 = x4
  have hb4 := emod_b (x3 * x3) (p := 4294967279) (by decide)
  rw [hx4] at hb4
  generalize hx5 : x4 * 69621 % 4294967291 = x5
  have hb5 := emod_b (x4 * 69621) (p := 4294967291) (by decide)
  rw [hx5] at hb5
  have big : ∀ x : Int, 0 ≤ x → x < 4294967296 → x.natAbs < 2 ^ 200 := fun x h1 h2 => Nat.lt_of_lt_of_le (by omega : x.natAbs < 2 ^ 32) (Nat.pow_le_pow_right (by decide) (by decide))
  have m1 : bop .mul (.int 40503) (.int d) = some (.v (.int (40503 * d))) := mul_s (by decide) (big d hd1.1 (by omega))
  have m2 : bop .mul (.int 104729) (.int ((rest.length : Int) + 1 + 1)) = some (.v (.int (104729 * ((rest.length : Int) + 1 + 1)))) := mul_s (by decide) (big _ (by omega) (by omega))
  have m3 := mul_s (big x1 hb1.1 (by omega)) (big x1 hb1.1 (by omega))
  have m4 : bop .mul (.int x2) (.int 48271) = some (.v (.int (x2 * 48271))) := mul_s (big x2 hb2.1 (by omega)) (by decide)
  have m5 := mul_s (big x3 hb3.1 (by omega)) (big x3 hb3.1 (by omega))
  have m6 : bop .mul (.int x4) (.int 69621) = some (.v (.int (x4 * 69621))) := mul_s (big x4 hb4.1 (by omega)) (by decide)
  have q1 : bop .div (.int a) (.int 65536) = some (.v (.int (a / 65536))) := div_s (by decide) (by decide)
  have q2 : bop .div (.int x3) (.int 64) = some (.v (.int (x3 / 64))) := div_s (by decide) (by decide)
  have q3 : bop .div (.int x5) (.int 64) = some (.v (.int (x5 / 64))) := div_s (by decide) (by decide)
  have m7 : bop .mul (.int (x3 / 64)) (.int 67108864) = some (.v (.int (x3 / 64 * 67108864))) := mul_s (big _ (by omega) (by omega)) (by decide)
  have hv := emod_b (x3 / 64 * 67108864 + x5 / 64) hm
  have hp1 : (rest ++ [PyData.int 0]).length = rest.length + 1 := by simp
  refine ⟨(x3 / 64 * 67108864 + x5 / 64) % m, .int (a / 65536) :: (rest ++ [.int 0]), ?_, hv.1, hv.2, .inr ⟨_, _, rfl, by rw [hp1]; omega⟩⟩
  rcases hc with ⟨rfl, rfl⟩ | ⟨h, hc1, hc2⟩
  · simp only [Int.zero_add] at hx1
    simp -implicitDefEqProofs [i_l_draw, okT, okO, isO, upO, ixx_at, dApp, dPut, L2.ixN, hl, hpos, m1, m2, m3, m4, m5, m6, m7, q1, q2, q3, hd, hx1, hx2, hx3, hx4, hx5, hm]
  · have he : ns.isEmpty = false := by simpa using h
    have hp : 0 < ns.length := List.length_pos_iff.mpr h
    simp -implicitDefEqProofs [i_l_draw, okT, okO, isO, upO, ixx_at, scrD, dApp, dPut, L2.ixN, hl, hpos, m1, m2, m3, m4, m5, m6, m7, q1, q2, q3, hd, hx1, hx2, hx3, hx4, hx5, hm, he, hp, hc1, hc2]
theorem absmax : ∀ ns : List Int, ∃ v, dMax (.list (ns.map (fun i => PyData.int (if i < 0 then -i else i)) ++ [.int 0])) = some (.int v) := by
  intro ns
  have e : ns.map (fun i => PyData.int (if i < 0 then -i else i)) ++ [PyData.int 0] = (ns.map (fun i => if i < 0 then -i else i) ++ [0]).map PyData.int := by
    rw [List.map_append, List.map_map]; rfl
  rw [e]
  show ∃ v, (dInts _).bind _ = _
  rw [dInts_map2]
  refine ⟨maxI (ns.map (fun i => if i < 0 then -i else i) ++ [0]), ?_⟩
  cases ns <;> rfl
theorem draw_ok [H_l_draw Φ] {n : Nat} (h63 : ns.length ≤ 63) (ht : Tw n t) (hn : n + 1 ≤ 10000000) {m : Int} (hm : 0 < m) (hk : 1 ≤ k) :
    ∃ v t', call Φ k "_law_draw" ns t [.int m] = some (.v (.int v), t') ∧ 0 ≤ v ∧ v < m ∧ Tw (n + 1) t' := by
  rw [call_d H_l_draw.eq hk rfl rfl]
  rcases ht with rfl | ⟨a, rest, rfl, hr⟩
  · obtain ⟨v, hv⟩ := absmax ns
    have hz : ns.length ≤ lineN := by rw [lineV]; omega
    have hz1 : ns.length + 1 ≤ lineN := by rw [lineV]; omega
    have hz2 : (0 : Nat) < lineN := by rw [lineV]; decide
    obtain ⟨v', t', h1, h2, h3, h4⟩ := draw_tail (cl := call Φ (k - 1)) h63 m v [] (Nat.zero_le n) hn hm
    refine ⟨v', t', ?_, h2, h3, h4⟩
    rw [← h1]
    have lc : lcS (call Φ (k - 1)) [3] (.n 3) .no (.bi .abs (.nm 3)) (ns.map PyData.int) [.scr ns, .twn [], .val (.int m), .no, .no, .no, .no, .no] = some (ns.map (fun i => PyData.int (if i < 0 then -i else i)), [.scr ns, .twn [], .val (.int m), .no, .no, .no, .no, .no]) :=
      lcS_map PyData.int _ ns fun x _ => ⟨_, _, _, rfl, by simp -implicitDefEqProofs [okT, okO, isO, upO, ixx_at]; rfl, by simp -implicitDefEqProofs [okT, okO, isO, upO, ixx_at]; rfl, rfl⟩
    simp -implicitDefEqProofs [i_l_draw, okT, okO, isO, upO, ixx_at, dApp, hz, hz1, hz2, lc, plainS, hv]
  · obtain ⟨v', t', h1, h2, h3, h4⟩ := draw_tail (cl := call Φ (k - 1)) h63 m a rest hr hn hm
    refine ⟨v', t', ?_, h2, h3, h4⟩
    rw [← h1]
    simp -implicitDefEqProofs [i_l_draw, okT, okO, isO, upO, ixx_at]
end
end Pd

set_option Elab.async false
set_option linter.all false
set_option maxRecDepth 100000
set_option maxHeartbeats 4000000
set_option exponentiation.threshold 1000000
namespace Pd
open PySem
section
variable {Φ : Tab} {k : Nat} {ns : List Int} {t : List D}
theorem lt_line {n : Nat} (h : n ≤ 100000) : n ≤ lineN := by rw [lineV]; omega
theorem ix_list {ds : List D} {v : Int} (h0 : 0 ≤ v) (h1 : v < ds.length) : ∃ d, d ∈ ds ∧ dIx (.list ds) (.int v) = some d := by
  have hv : v.toNat < ds.length := by omega
  exact ⟨ds[v.toNat], List.getElem_mem hv, by rw [ixx_l, ixx_at, if_pos h0, List.getElem?_eq_getElem hv]⟩
theorem pick_ok [H_l_pick Φ] [H_l_draw Φ] {n : Nat} (h63 : ns.length ≤ 63) (ht : Tw n t) (hn : n + 1 ≤ 10000000) {ds : List D} (hd : ds ≠ []) (hk : 2 ≤ k) :
    ∃ d t', call Φ k "_law_pick" ns t [.list ds] = some (.v d, t') ∧ d ∈ ds ∧ Tw (n + 1) t' := by
  rw [call_d H_l_pick.eq (by omega) rfl rfl]
  have hp : 0 < ds.length := List.length_pos_iff.mpr hd
  obtain ⟨v, t', e, h0, h1, h2⟩ := draw_ok (Φ := Φ) (k := k - 1) h63 ht hn (m := ds.length) (by omega) (by omega)
  obtain ⟨d, hm, hx⟩ := ix_list h0 h1
  refine ⟨d, t', ?_, hm, h2⟩
  rw [ixx_l] at hx
  simp -implicitDefEqProofs [i_l_pick, okT, okO, isO, upO, ixx_at, e, -ixx_at, hx]
theorem frD_size {a b : Int} (hb : 0 < b) (h : Sz 9000 b) : Sz 9000 (Int.gcd a b) ∧ (0 : Int) < Int.gcd a b := by
  have h1 : Int.gcd a b ≤ b.natAbs := by
    rw [Int.gcd]
    exact Nat.gcd_le_right _ (by omega)
  have h2 : 0 < Int.gcd a b := Int.gcd_pos_of_ne_zero_right _ (by omega)
  refine ⟨?_, by omega⟩
  unfold Sz at *
  rw [Int.natAbs_natCast]
  exact Nat.lt_of_le_of_lt h1 h
theorem lowest_ok [H_lowest Φ] [H_divisor Φ] {a b : Int} (ha : 0 ≤ a) (hb : 0 < b) (h : Sz 9000 b) (hk : 2 ≤ k) : call Φ k "lowest" [] [] [.int a, .int b] = some (.v (frD a b), []) := by
  rw [call_p H_lowest.eq (by omega) rfl rfl]
  obtain ⟨s1, s2⟩ := frD_size (a := a) hb h
  simp -implicitDefEqProofs [i_lowest, okT, okO, isO, upO, ixx_at, divisor_ok (Φ := Φ) (k := k - 1) a b ha (by omega) (by omega), div_is (i := a) s2 (.inr s1), div_is (i := b) s2 (.inr s1), frD]
theorem low_ok [H_l_low Φ] {a b : Int} (ha : 0 ≤ a) (hb : 0 < b) (h : Sz 9000 b) (hk : 1 ≤ k) : call Φ k "_law_low" [] [] [.int a, .int b] = some (.v (frD a b), []) := by
  rw [call_p H_l_low.eq hk rfl rfl]
  obtain ⟨s1, s2⟩ := frD_size (a := a) hb h
  have key : ∀ (n : Nat) (x y : Int), y.toNat ≤ n → 0 ≤ x → 0 ≤ y → whS (call Φ (k - 1)) (.cmp .ne (.nm 3) (.int 0)) (.cons (.par 2 3 (.nm 3) (.bin .mod (.nm 2) (.nm 3))) .nil) [.val (.int a), .val (.int b), .val (.int x), .val (.int y)] = some (.nx [.val (.int a), .val (.int b), .val (.int (Int.gcd x y)), .val (.int 0)]) := by
    intro n
    induction n with
    | zero =>
      intro x y hn hx hy
      have : y = 0 := by omega
      subst this
      rw [wh_stop (r1 := [.val (.int a), .val (.int b), .val (.int x), .val (.int 0)]) (by simp -implicitDefEqProofs [okT, okO, isO, upO, ixx_at])]
      have : (Int.gcd x 0 : Int) = x := by rw [Int.gcd_zero_right]; omega
      rw [this]
    | succ n ih =>
      intro x y hn hx hy
      by_cases h0 : y = 0
      · subst h0
        rw [wh_stop (r1 := [.val (.int a), .val (.int b), .val (.int x), .val (.int 0)]) (by simp -implicitDefEqProofs [okT, okO, isO, upO, ixx_at])]
        have : (Int.gcd x 0 : Int) = x := by rw [Int.gcd_zero_right]; omega
        rw [this]
      · have hy' : 0 < y := by omega
        have hl := Int.emod_lt_of_pos x hy'
        have hg := Int.emod_nonneg x h0
        refine wh_go (r1 := [.val (.int a), .val (.int b), .val (.int x), .val (.int y)]) (r2 := [.val (.int a), .val (.int b), .val (.int y), .val (.int (x % y))]) (by simp -implicitDefEqProofs [okT, okO, isO, upO, ixx_at, h0]) (by simp -implicitDefEqProofs [okT, okO, isO, upO, ixx_at, hy']) ?_
        rw [ih y (x % y) (by omega) hy hg]
        have : Int.gcd y (x % y) = Int.gcd x y := by
          obtain ⟨m, rfl⟩ := Int.eq_ofNat_of_zero_le hx
          obtain ⟨n', rfl⟩ := Int.eq_ofNat_of_zero_le hy
          show Nat.gcd n' (m % n') = Nat.gcd m n'
          rw [Nat.gcd_comm m n', Nat.gcd_rec n' m, Nat.gcd_comm]
        rw [this]
  simp -implicitDefEqProofs [i_l_low, okT, okO, isO, upO, ixx_at, key b.toNat a b (Nat.le_refl _) ha (by omega), div_is (i := a) s2 (.inr s1), div_is (i := b) s2 (.inr s1), frD]
def sok : Nat → D → Bool
  | 0, _ => false
  | _ + 1, .none => true
  | _ + 1, .bool _ => true
  | _ + 1, .int _ => true
  | _ + 1, .str x => PyData.strOk x
  | n + 1, .tuple xs => decide (xs.length ≤ 100000) && xs.all (sok n)
  | _ + 1, _ => false
theorem zip_self : ∀ xs : List D, zipD xs xs = xs.map fun x => .tuple [x, x]
  | [] => rfl
  | x :: xs => congrArg (PyData.tuple [x, x] :: ·) (zip_self xs)
theorem dBools_true : ∀ (xs : List D), dBools (xs.map fun _ => .bool true) = some (List.replicate xs.length true)
  | [] => rfl
  | x :: xs => by
    show (dBools (xs.map fun _ => .bool true)).bind _ = _
    rw [dBools_true xs]; rfl
theorem all_true : ∀ n : Nat, (List.replicate n true).all id = true
  | 0 => rfl
  | n + 1 => by rw [List.replicate_succ, List.all_cons, all_true n]; rfl
theorem eq_str {x : Str} (h : PyData.strOk x = true) : cop .eq (.str x) (.str x) = some true := by
  show dEq _ _ = _
  have q : SeqAt.shaped (.str x) = true := by
    unfold SeqAt.shaped
    rw [show PyData.canLay0 (.str x) = PyData.strOk x from by simp [PyData.canLay0], h]; rfl
  unfold dEq
  rw [if_pos ⟨q, q⟩]
  simp [PyData.eqv]
theorem eq_bool (b : Bool) : cop .eq (.bool b) (.bool b) = some true := by cases b <;> rfl
theorem same_ok [H_l_same Φ] : ∀ (n : Nat) (d : D), sok n d = true → n ≤ k → call Φ k "_law_same" [] [] [d, d] = some (.v (.bool true), []) := by
  have key : ∀ (n : Nat) (k : Nat) (d : D), sok n d = true → n ≤ k → call Φ k "_law_same" [] [] [d, d] = some (.v (.bool true), []) := by
    intro n
    induction n with
    | zero => intro k d h; cases h
    | succ n ih =>
      intro k d h hk
      rw [call_p H_l_same.eq (by omega) rfl rfl]
      cases d with
      | none => simp -implicitDefEqProofs [i_l_same, okT, okO, isO, upO, ixx_at]
      | bool b => simp -implicitDefEqProofs [i_l_same, okT, okO, isO, upO, ixx_at, eq_bool]
      | int i => simp -implicitDefEqProofs [i_l_same, okT, okO, isO, upO, ixx_at]
      | str x => simp -implicitDefEqProofs [i_l_same, okT, okO, isO, upO, ixx_at, eq_str (show PyData.strOk x = true from h)]
      | tuple xs =>
        obtain ⟨h1, h2⟩ := and2 (show (decide (xs.length ≤ 100000) && xs.all (sok n)) = true from h)
        have h1 := of_decide_eq_true h1
        have h3 := lt_line h1
        have lc : lcS (call Φ (k - 1)) [2, 3] (.t2 (.n 2) (.n 3)) .no (.call "_law_same" (.cons (.nm 2) (.cons (.nm 3) .nil))) (xs.map fun x => .tuple [x, x]) [.val (.tuple xs), .val (.tuple xs), .no, .no] = some (xs.map (fun _ => .bool true), [.val (.tuple xs), .val (.tuple xs), .no, .no]) :=
          lcS_map (fun x => .tuple [x, x]) (fun _ => .bool true) xs fun x hx => ⟨_, _, _, by simp -implicitDefEqProofs [okT, okO, isO, upO, ixx_at, wipeA]; rfl, by simp -implicitDefEqProofs [okT, okO, isO, upO, ixx_at]; rfl, by simp -implicitDefEqProofs [okT, okO, isO, upO, ixx_at, ih (k - 1) x (List.all_eq_true.mp h2 x hx) (by omega)]; rfl, rfl⟩
        simp -implicitDefEqProofs [i_l_same, okT, okO, isO, upO, ixx_at, dZip, zip_self, h3, plainS, lc, dAll, dBools_true, all_true]
      | list xs => cases h
      | dict xs => cases h
  exact fun n d h hk => key n k d h hk
end
end Pd

set_option Elab.async false
set_option linter.all false
set_option maxRecDepth 100000
set_option maxHeartbeats 4000000
set_option exponentiation.threshold 1000000
namespace Pd
open PySem
def dP (p : Int × Int) : D := .tuple [.int p.1, .int p.2]
def PrOk (p : Int × Int) : Prop := 1 ≤ p.1 ∧ p.1 ≤ 1000 ∧ 1 ≤ p.2 ∧ p.2 ≤ 1000 ∧ Int.gcd p.1 p.2 = 1
instance (p : Int × Int) : Decidable (PrOk p) := by unfold PrOk; exact inferInstance
structure Ev where
  ps : List (Int × Int)
  pl : Int
  pt : Int
def dEv (e : Ev) : D := .tuple [.tuple (e.ps.map dP), .int e.pl, .int e.pt]
structure EvOk (most : Nat) (e : Ev) : Prop where
  l2 : 2 ≤ e.ps.length
  lm : e.ps.length ≤ most
  pr : ∀ p ∈ e.ps, PrOk p
  p1 : 1 ≤ e.pl
  p4 : e.pl ≤ 4
  pm : e.pl < e.ps.length
  t1 : 1 ≤ e.pt
  t5 : e.pt ≤ 5
theorem sz16 {x : Int} (h0 : 0 ≤ x) (h : x < 65536) : Sz 9000 x := by
  refine Nat.lt_of_lt_of_le (by omega : x.natAbs < 2 ^ 16) (Nat.pow_le_pow_right (by decide) (by decide))
theorem fr_pr {a b : Int} (ha : 1 ≤ a) (ha2 : a ≤ 1000) (hb : 1 ≤ b) (hb2 : b ≤ 1000) : ∃ p, frD a b = dP p ∧ PrOk p := by
  have hg : 0 < Int.gcd a b := Int.gcd_pos_of_ne_zero_right _ (by omega)
  have h1 : Int.gcd (a / Int.gcd a b) (b / Int.gcd a b) = 1 := Int.gcd_ediv_gcd_ediv_gcd hg
  have d1 : (Int.gcd a b : Int) ∣ a := Int.gcd_dvd_left ..
  have d2 : (Int.gcd a b : Int) ∣ b := Int.gcd_dvd_right ..
  have e1 := Int.ediv_mul_cancel d1
  have e2 := Int.ediv_mul_cancel d2
  have hl1 : a / Int.gcd a b ≤ a := Int.ediv_le_self _ (by omega)
  have hl2 : b / Int.gcd a b ≤ b := Int.ediv_le_self _ (by omega)
  have hp1 : 0 < a / Int.gcd a b := Int.ediv_pos_of_pos_of_dvd (by omega) (by omega) d1
  have hp2 : 0 < b / Int.gcd a b := Int.ediv_pos_of_pos_of_dvd (by omega) (by omega) d2
  exact ⟨(a / Int.gcd a b, b / Int.gcd a b), rfl, hp1, by show a / _ ≤ 1000; omega, hp2, by show b / _ ≤ 1000; omega, h1⟩
section
variable {Φ : Tab} {k : Nat} {ns : List Int} {t : List D}
theorem price_ok [H_l_drawn_price Φ] [H_l_draw Φ] [H_l_low Φ] [H_l_pick Φ] {n : Nat} (h63 : ns.length ≤ 63) (ht : Tw n t) (hn : n + 4 ≤ 10000000) (hk : 3 ≤ k) :
    ∃ p t', call Φ k "_law_drawn_price" ns t [] = some (.v (dP p), t') ∧ PrOk p ∧ Tw (n + 4) t' := by
  rw [call_d H_l_drawn_price.eq (by omega) rfl rfl]
  obtain ⟨v, t1, e1, h0, h1, w1⟩ := draw_ok (Φ := Φ) (k := k - 1) h63 ht (by omega) (m := 3) (by decide) (by omega)
  by_cases hv : v = 0
  · subst hv
    obtain ⟨d, t2, e2, hm, w2⟩ := pick_ok (Φ := Φ) (k := k - 1) h63 w1 (by omega) (ds := [.tuple [.int 1, .int 1], .tuple [.int 5, .int 2], .tuple [.int 1, .int 4], .tuple [.int 10, .int 11], .tuple [.int 1000, .int 1], .tuple [.int 1, .int 1000], .tuple [.int 100, .int 7], .tuple [.int 1000, .int 999], .tuple [.int 333, .int 1000], .tuple [.int 7, .int 2]]) (by simp) (by omega)
    have : ∃ p, d = dP p ∧ PrOk p := by
      simp only [List.mem_cons, List.not_mem_nil, or_false] at hm
      rcases hm with rfl | rfl | rfl | rfl | rfl | rfl | rfl | rfl | rfl | rfl
      · exact ⟨(1, 1), rfl, by decide⟩
      · exact ⟨(5, 2), rfl, by decide⟩
      · exact ⟨(1, 4), rfl, by decide⟩
      · exact ⟨(10, 11), rfl, by decide⟩
      · exact ⟨(1000, 1), rfl, by decide⟩
      · exact ⟨(1, 1000), rfl, by decide⟩
      · exact ⟨(100, 7), rfl, by decide⟩
      · exact ⟨(1000, 999), rfl, by decide⟩
      · exact ⟨(333, 1000), rfl, by decide⟩
      · exact ⟨(7, 2), rfl, by decide⟩
    obtain ⟨p, rfl, hp⟩ := this
    exact ⟨p, t2, by simp -implicitDefEqProofs [i_l_drawn_price, okT, okO, isO, upO, ixx_at, e1, e2], hp, w2.mono (by omega)⟩
  · obtain ⟨d, t2, e2, hm, w2⟩ := pick_ok (Φ := Φ) (k := k - 1) h63 w1 (by omega) (ds := [.int 3, .int 8, .int 30]) (by simp) (by omega)
    have : ∃ m : Int, d = .int m ∧ 0 < m ∧ m ≤ 30 := by
      simp only [List.mem_cons, List.not_mem_nil, or_false] at hm
      rcases hm with rfl | rfl | rfl
      · exact ⟨3, rfl, by decide, by decide⟩
      · exact ⟨8, rfl, by decide, by decide⟩
      · exact ⟨30, rfl, by decide, by decide⟩
    obtain ⟨m, rfl, m0, m1⟩ := this
    obtain ⟨a, t3, e3, a0, a1, w3⟩ := draw_ok (Φ := Φ) (k := k - 1) h63 w2 (by omega) m0 (by omega)
    obtain ⟨b, t4, e4, b0, b1, w4⟩ := draw_ok (Φ := Φ) (k := k - 1) h63 w3 (by omega) m0 (by omega)
    obtain ⟨p, ep, hp⟩ := fr_pr (a := 1 + a) (b := 1 + b) (by omega) (by omega) (by omega) (by omega)
    have e5 := low_ok (Φ := Φ) (k := k - 1) (a := 1 + a) (b := 1 + b) (by omega) (by omega) (sz16 (by omega) (by omega)) (by omega)
    rw [ep] at e5
    exact ⟨p, t4, by simp -implicitDefEqProofs [i_l_drawn_price, okT, okO, isO, upO, ixx_at, e1, e2, e3, e4, e5, hv], hp, w4.mono (by omega)⟩
theorem rg_len {lo : Int} {n : Nat} : (rgD lo 1 n).length = n := rgD_len
theorem dRange_ok {a b : Int} (ha : -1000000 ≤ a) (ha2 : a ≤ 1000000) (hb : -1000000 ≤ b) (hb2 : b ≤ 1000000) : dRange (.int a) (.int b) = some (rgD a 1 (b - a).toNat) := by
  show (if _ then _ else _) = _
  rw [if_pos (by omega)]
theorem draws_ok {α : Type} {cl : Cl} {own : List Nat} {tg : Tg} {e : Ir} {c : Nat} (emb : α → D) (ok : α → Prop) (R : List D → AE)
    (hstep : ∀ (d : D) (n : Nat) (t : List D), Tw n t → n + c ≤ 10000000 → ∃ r1 r3 x t', asg tg d (wipeA own (R t)) = some r1 ∧ kFz (ev cl e r1) = some (emb x, r3) ∧ backA own (R t) r3 = R t' ∧ ok x ∧ Tw (n + c) t') :
    ∀ (xs : List D) (n : Nat) (t : List D), Tw n t → n + c * xs.length ≤ 10000000 → ∃ (ys : List α) (t' : List D), lcS cl own tg .no e xs (R t) = some (ys.map emb, R t') ∧ ys.length = xs.length ∧ (∀ y ∈ ys, ok y) ∧ Tw (n + c * xs.length) t'
  | [], n, t, ht, _ => ⟨[], t, rfl, rfl, (fun _ h => by cases h), by simpa using ht⟩
  | d :: ds, n, t, ht, hn => by
    rw [List.length_cons, Nat.mul_succ] at hn
    obtain ⟨r1, r3, x, t1, h1, h2, h3, h4, h5⟩ := hstep d n t ht (by omega)
    obtain ⟨ys, t2, e1, e2, e3, e4⟩ := draws_ok emb ok R hstep ds (n + c) t1 h5 (by omega)
    refine ⟨x :: ys, t2, ?_, by simp [e2], fun y hy => ?_, e4.mono (by rw [List.length_cons, Nat.mul_succ]; omega)⟩
    · rw [lc_cons, h1, kL1_s, evC_no, kL2_t, h2, kL3_s, h3, e1, kL4_s]; rfl
    · rcases List.mem_cons.mp hy with rfl | hy
      · exact h4
      · exact e3 y hy
theorem event_ok [H_l_drawn_event Φ] [H_l_draw Φ] [H_l_drawn_price Φ] [H_l_low Φ] [H_l_pick Φ] {n : Nat} (h63 : ns.length ≤ 63) (ht : Tw n t) (hn : n + 40 ≤ 10000000) {most : Nat} (h2 : 2 ≤ most) (h8 : most ≤ 8) (hk : 4 ≤ k) :
    ∃ e t', call Φ k "_law_drawn_event" ns t [.int most] = some (.v (dEv e), t') ∧ EvOk most e ∧ Tw (n + 40) t' := by
  rw [call_d H_l_drawn_event.eq (by omega) rfl rfl]
  obtain ⟨v, t1, e1, h0, h1, w1⟩ := draw_ok (Φ := Φ) (k := k - 1) h63 ht (by omega) (m := (most : Int) - 1) (by omega) (by omega)
  have hr : dRange (.int 0) (.int (2 + v)) = some (rgD 0 1 (2 + v).toNat) := by rw [dRange_ok (by decide) (by decide) (by omega) (by omega), Int.sub_zero]
  obtain ⟨ps, t2, e2, l2, p2, w2⟩ := draws_ok (cl := call Φ (k - 1)) (own := [5]) (tg := .n 5) (e := .callT "_law_drawn_price" 0 1 .nil) (c := 4) dP PrOk (fun t => [.scr ns, .twn t, .val (.int most), .val (.int (2 + v)), .no, .no])
    (fun d n t ht hn => by
      obtain ⟨p, t', e, hp, w⟩ := price_ok (Φ := Φ) (k := k - 1) h63 ht hn (by omega)
      exact ⟨_, _, p, t', rfl, by simp -implicitDefEqProofs [okT, okO, isO, upO, ixx_at, wipeA, e]; rfl, rfl, hp, w⟩) (rgD 0 1 (2 + v).toNat) (n + 1) t1 w1 (by rw [rg_len]; omega)
  rw [rg_len] at l2 w2
  obtain ⟨a, t3, e3, a0, a1, w3⟩ := draw_ok (Φ := Φ) (k := k - 1) h63 w2 (by omega) (m := min 4 (2 + v - 1)) (by omega) (by omega)
  obtain ⟨b, t4, e4, b0, b1, w4⟩ := draw_ok (Φ := Φ) (k := k - 1) h63 w3 (by omega) (m := 5) (by decide) (by omega)
  have hz : (rgD 0 1 (2 + v).toNat).length ≤ lineN := by rw [rg_len]; exact lt_line (by omega)
  have l3 : (ps.length : Int) = 2 + v := by omega
  refine ⟨⟨ps, 1 + a, 1 + b⟩, t4, ?_, ⟨show 2 ≤ ps.length by omega, show ps.length ≤ most by omega, p2, show 1 ≤ 1 + a by omega, show 1 + a ≤ 4 by omega, show 1 + a < (ps.length : Int) by omega, show 1 ≤ 1 + b by omega, show 1 + b ≤ 5 by omega⟩, w4.mono (by omega)⟩
  simp -implicitDefEqProofs [i_l_drawn_event, okT, okO, isO, upO, ixx_at, e1, hr, hz, plainS, e2, e3, e4, dEv]
theorem card_ok [H_l_drawn_card Φ] [H_l_draw Φ] [H_l_drawn_event Φ] [H_l_drawn_price Φ] [H_l_low Φ] [H_l_pick Φ] {n : Nat} (h63 : ns.length ≤ 63) (ht : Tw n t) (hn : n + 1 + 40 * 8 ≤ 10000000) {evs most : Nat} (h1 : 1 ≤ evs) (h18 : evs ≤ 8) (h2 : 2 ≤ most) (h8 : most ≤ 8) (hk : 5 ≤ k) :
    ∃ (c : List Ev) (t' : List D), call Φ k "_law_drawn_card" ns t [.int evs, .int most] = some (.v (.tuple (c.map dEv)), t') ∧ 1 ≤ c.length ∧ c.length ≤ evs ∧ (∀ e ∈ c, EvOk most e) ∧ Tw (n + 1 + 40 * 8) t' := by
  rw [call_d H_l_drawn_card.eq (by omega) rfl rfl]
  obtain ⟨v, t1, e1, v0, v1, w1⟩ := draw_ok (Φ := Φ) (k := k - 1) h63 ht (by omega) (m := evs) (by omega) (by omega)
  have hr : dRange (.int 0) (.int (1 + v)) = some (rgD 0 1 (1 + v).toNat) := by rw [dRange_ok (by decide) (by decide) (by omega) (by omega), Int.sub_zero]
  obtain ⟨c, t2, e2, l2, p2, w2⟩ := draws_ok (cl := call Φ (k - 1)) (own := [4]) (tg := .n 4) (e := .callT "_law_drawn_event" 0 1 (.cons (.nm 3) .nil)) (c := 40) dEv (EvOk most) (fun t => [.scr ns, .twn t, .val (.int evs), .val (.int most), .no])
    (fun d n t ht hn => by
      obtain ⟨p, t', e, hp, w⟩ := event_ok (Φ := Φ) (k := k - 1) h63 ht hn h2 h8 (by omega)
      exact ⟨_, _, p, t', rfl, by simp -implicitDefEqProofs [okT, okO, isO, upO, ixx_at, wipeA, e]; rfl, rfl, hp, w⟩) (rgD 0 1 (1 + v).toNat) (n + 1) t1 w1 (by rw [rg_len]; omega)
  rw [rg_len] at l2 w2
  have hz : (rgD 0 1 (1 + v).toNat).length ≤ lineN := by rw [rg_len]; exact lt_line (by omega)
  refine ⟨c, t2, ?_, by omega, by omega, p2, w2.mono (by omega)⟩
  simp -implicitDefEqProofs [i_l_drawn_card, okT, okO, isO, upO, ixx_at, e1, hr, hz, plainS, e2]
end
end Pd

set_option Elab.async false
set_option linter.all false
set_option maxRecDepth 100000
set_option maxHeartbeats 4000000
set_option exponentiation.threshold 1000000
namespace Pd
open PySem
theorem il_ints : ∀ l : List Int, dInts (l.map PyData.int) = some l
  | [] => rfl
  | x :: l => by
    show (dInts (l.map PyData.int)).bind _ = _
    rw [il_ints l]; rfl
@[simp] theorem il_sum (l : List Int) : dSum (.list (l.map PyData.int)) = some (.int l.sum) := by
  show (dInts _).bind _ = _
  rw [il_ints]; rfl
theorem il_sorted (l : List Int) : dSorted (.list (l.map PyData.int)) = some ((sortI l).map PyData.int) := by
  show (match dInts (l.map PyData.int) with
    | some is => some ((sortI is).map PyData.int)
    | none => dSortT (l.map PyData.int)) = _
  rw [il_ints]
theorem il_flat (l : List Int) : (l.map PyData.int).all dFlat = true := by
  rw [List.all_map, List.all_eq_true]; intro x _; rfl
theorem il_any (x : Int) : ∀ l : List Int, ((l.map PyData.int).any fun y => PyData.eqv y (.int x)) = decide (x ∈ l)
  | [] => rfl
  | y :: l => by
    rw [List.map_cons, List.any_cons, il_any x l]
    have : PyData.eqv (.int y) (.int x) = decide (y = x) := rfl
    rw [this]
    by_cases h : y = x
    · subst h; simp
    · have h2 : x ≠ y := fun e => h e.symm
      simp [h, h2]
@[simp] theorem il_in (x : Int) (l : List Int) : cop .in_ (.int x) (.tuple (l.map PyData.int)) = some (decide (x ∈ l)) := by
  show (if _ then _ else _) = _
  rw [if_pos (.inl ⟨rfl, il_flat l⟩), il_any]
@[simp] theorem il_inl (x : Int) (l : List Int) : cop .in_ (.int x) (.list (l.map PyData.int)) = some (decide (x ∈ l)) := by
  show (if _ then _ else _) = _
  rw [if_pos (.inl ⟨rfl, il_flat l⟩), il_any]
@[simp] theorem il_nin (x : Int) (l : List Int) : cop .notin (.int x) (.tuple (l.map PyData.int)) = some (!decide (x ∈ l)) := by
  have h := il_in x l
  show (dIn _ _).bind _ = _
  rw [show dIn (.int x) (.tuple (l.map PyData.int)) = _ from h]; rfl
@[simp] theorem il_ninl (x : Int) (l : List Int) : cop .notin (.int x) (.list (l.map PyData.int)) = some (!decide (x ∈ l)) := by
  have h := il_inl x l
  show (dIn _ _).bind _ = _
  rw [show dIn (.int x) (.list (l.map PyData.int)) = _ from h]; rfl
def gI (l : List Int) (i : Int) : Int := l.getD i.toNat 0
theorem at_map {α : Type} (f : α → D) (l : List α) {i : Int} (h0 : 0 ≤ i) (h1 : i < l.length) : L2.atI (l.map f) i = some (f (l[i.toNat]'(by omega))) := by
  rw [ixx_at, if_pos h0, List.getElem?_map, List.getElem?_eq_getElem (by omega)]; rfl
theorem gI_eq {l : List Int} {i : Int} (h0 : 0 ≤ i) (h1 : i < l.length) : gI l i = l[i.toNat]'(by omega) := by
  unfold gI
  rw [List.getD_eq_getElem?_getD, List.getElem?_eq_getElem (by omega)]; rfl
theorem il_ix {l : List Int} {i : Int} (h0 : 0 ≤ i) (h1 : i < l.length) : L2.atI (l.map PyData.int) i = some (.int (gI l i)) := by
  rw [at_map _ _ h0 h1, gI_eq h0 h1]
def upto (n : Nat) : List Int := (List.range n).map Int.ofNat
theorem il_rg (n : Nat) : rgD 0 1 n = (upto n).map PyData.int := by
  unfold rgD upto
  rw [List.map_map]
  refine List.map_congr_left fun i _ => ?_
  show PyData.int (0 + (i : Int) * 1) = PyData.int (i : Int)
  congr 1; omega
theorem upto_len (n : Nat) : (upto n).length = n := by unfold upto; rw [List.length_map, List.length_range]
theorem mem_upto {n : Nat} {x : Int} : x ∈ upto n ↔ 0 ≤ x ∧ x < n := by
  unfold upto
  rw [List.mem_map]
  constructor
  · rintro ⟨a, h, rfl⟩
    have := List.mem_range.mp h
    show 0 ≤ (a : Int) ∧ (a : Int) < n
    omega
  · rintro ⟨h, h2⟩
    exact ⟨x.toNat, List.mem_range.mpr (by omega), by show (x.toNat : Int) = x; omega⟩
theorem upto_nodup (n : Nat) : (upto n).Nodup := by
  unfold upto List.Nodup
  rw [List.pairwise_map]
  refine (List.nodup_range (n := n)).imp ?_
  intro a b h e
  exact h (Int.ofNat.inj e)
theorem rg_is {n : Nat} (h : n ≤ 1000000) : dRange (.int 0) (.int n) = some ((upto n).map PyData.int) := by
  rw [dRange_ok (by decide) (by decide) (by omega) (by omega), il_rg, Int.sub_zero, Int.toNat_natCast]
theorem lrg_is {n : Nat} (h : n ≤ 1000000) : dListRg (.int 0) (.int n) = some ((upto n).map PyData.int) := by
  simp only [dListRg]
  rw [if_pos ⟨by decide, by decide, by omega, by omega, by omega⟩, il_rg, Int.sub_zero, Int.toNat_natCast]
theorem lrg_f {n : Nat} (h : n ≤ 1000000) : bi2f .lrg (.int 0) (.int n) = some (.f ((upto n).map PyData.int)) := by
  rw [lrg_bi, lrg_is h]; rfl
theorem trg_v {n : Nat} (h : n ≤ 1000000) : bi2f .trg (.int 0) (.int n) = some (.v (.tuple ((upto n).map PyData.int))) := by
  rw [trg_bi, lrg_is h]; rfl
theorem cut_hi {α : Type} (xs : List α) {k : Int} (h : 0 ≤ k) : cutD xs none (some k) = xs.take k.toNat := by
  unfold cutD HT.sIx
  simp only [List.drop_zero, Nat.sub_zero]
  split
  · omega
  · rw [List.take_eq_take_iff]; omega
theorem cut_lo {α : Type} (xs : List α) {k : Int} (h : 0 ≤ k) : cutD xs (some k) none = xs.drop k.toNat := by
  unfold cutD HT.sIx
  simp only
  split
  · omega
  · rw [List.take_of_length_le (by rw [List.length_drop]; omega)]
    rcases Nat.le_total k.toNat xs.length with h | h
    · congr 1; omega
    · rw [List.drop_eq_nil_of_le (by omega), List.drop_eq_nil_of_le h]
@[simp] theorem bi_cutl (xs : List D) (lo hi : Option Int) : dCutR lo hi (.list xs) = some (.f (cutD xs lo hi)) := rfl
@[simp] theorem bi_cutt (xs : List D) (lo hi : Option Int) : dCutR lo hi (.tuple xs) = some (.v (.tuple (cutD xs lo hi))) := rfl
section
variable {Φ : Tab} {k : Nat} {ns : List Int} {t : List D}
theorem erase_map {α : Type} (f : α → D) : ∀ (l : List α) (i : Nat), (l.map f).eraseIdx i = (l.eraseIdx i).map f
  | [], _ => rfl
  | x :: l, 0 => rfl
  | x :: l, i + 1 => congrArg (f x :: ·) (erase_map f l i)
theorem erase_perm {α : Type} : ∀ (l : List α) (i : Nat) (h : i < l.length), (l[i] :: l.eraseIdx i).Perm l
  | x :: l, 0, _ => List.Perm.refl _
  | x :: l, i + 1, h => (List.Perm.swap x (l[i]'(Nat.lt_of_succ_lt_succ h)) _).trans ((erase_perm l i (Nat.lt_of_succ_lt_succ h)).cons x)
theorem pop_at {α : Type} (f : α → D) (l : List α) {i : Int} (h0 : 0 ≤ i) (h1 : i < l.length) (h2 : l.length ≤ 100000) : popD (l.map f) (some i) = some (f (l[i.toNat]'(by omega)), (l.eraseIdx i.toNat).map f) := by
  show (if _ then _ else _) = _
  rw [if_pos (by omega)]
  have : seqIndex? i (l.map f).length = some i.toNat := by
    unfold seqIndex?
    rw [List.length_map]
    have : ¬ i < 0 := by omega
    simp [this, h0, h1]
  rw [this]
  show ((l.map f)[i.toNat]?).bind _ = _
  rw [List.getElem?_map, List.getElem?_eq_getElem (by omega), erase_map]
  rfl
theorem mixed_ok {α : Type} (emb : α → D) [H_l_mixed Φ] [H_l_draw Φ] {n : Nat} (h63 : ns.length ≤ 63) (ht : Tw n t) (xs : List α) (hl : xs.length ≤ 100000) (hn : n + xs.length ≤ 10000000) (hk : 2 ≤ k) :
    ∃ (ys : List α) (t' : List D), call Φ k "_law_mixed" ns t [.list (xs.map emb)] = some (.f (ys.map emb), t') ∧ ys.Perm xs ∧ Tw (n + xs.length) t' := by
  rw [call_d H_l_mixed.eq (by omega) rfl rfl]
  have key : ∀ (m : Nat) (rest found : List α) (n : Nat) (t : List D), rest.length = m → rest.length + found.length ≤ 100000 → Tw n t → n + m ≤ 10000000 → ∃ (ys : List α) (t' : List D), whS (call Φ (k - 1)) (.nm 3) (.cons (.app 4 (.pop 3 (.yes (.callT "_law_draw" 0 1 (.cons (.bi .len (.nm 3)) .nil))))) .nil) [.scr ns, .twn t, .val (.list (xs.map emb)), .own (rest.map emb), .own (found.map emb)] = some (.nx [.scr ns, .twn t', .val (.list (xs.map emb)), .own [], .own (ys.map emb)]) ∧ ys.Perm (found ++ rest) ∧ Tw (n + m) t' := by
    intro m
    induction m with
    | zero =>
      intro rest found n t hm hb ht hn
      have : rest = [] := List.length_eq_zero_iff.mp hm
      subst this
      exact ⟨found, t, wh_stop (by simp -implicitDefEqProofs [okT, okO, isO, upO, ixx_at]), by simp, ht⟩
    | succ m ih =>
      intro rest found n t hm hb ht hn
      obtain ⟨v, t', e, h0, h1, w⟩ := draw_ok (Φ := Φ) (k := k - 1) h63 ht (by omega) (m := rest.length) (by omega) (by omega)
      have hp := pop_at emb rest h0 h1 (by omega)
      have hz : found.length < lineN := by rw [lineV]; omega
      have hne : rest ≠ [] := fun e => by rw [e] at hm; cases hm
      have hlt : v.toNat < rest.length := by omega
      have hlen : (rest.eraseIdx v.toNat).length = m := by rw [List.length_eraseIdx_of_lt hlt]; omega
      obtain ⟨ys, t2, e2, p2, w2⟩ := ih (rest.eraseIdx v.toNat) (found ++ [rest[v.toNat]]) (n + 1) t' hlen (by rw [hlen, List.length_append, List.length_singleton]; omega) w (by omega)
      refine ⟨ys, t2, ?_, ?_, w2.mono (by omega)⟩
      · refine wh_go (r1 := [.scr ns, .twn t, .val (.list (xs.map emb)), .own (rest.map emb), .own (found.map emb)]) (by simp -implicitDefEqProofs [okT, okO, isO, upO, ixx_at, hne]) ?_ e2
        simp -implicitDefEqProofs [okT, okO, isO, upO, ixx_at, e, hp, dApp, hz]
      · refine p2.trans ?_
        rw [List.append_assoc]
        exact List.Perm.append_left _ (erase_perm _ _ hlt)
  obtain ⟨ys, t', e, p, w⟩ := key xs.length xs [] n t rfl (by simpa using hl) ht hn
  refine ⟨ys, t', ?_, by simpa using p, w⟩
  simp only [List.map_nil] at e
  simp -implicitDefEqProofs [i_l_mixed, okT, okO, isO, upO, ixx_at, e]
structure Res where
  gone : List Int
  ranks : List (List Int)
def dT (l : List Int) : D := .tuple (l.map PyData.int)
def dRes (r : Res) : D := .tuple [dT r.gone, .tuple (r.ranks.map dT)]
structure ResOk (m : Nat) (r : Res) : Prop where
  nd : (r.gone ++ r.ranks.flatten).Nodup
  rg : ∀ x ∈ r.gone ++ r.ranks.flatten, 0 ≤ x ∧ x < m
  gs : r.gone.Pairwise (· < ·)
  ks : ∀ g ∈ r.ranks, g.Pairwise (· < ·) ∧ g ≠ [] ∧ g.length ≤ 3
theorem sortI_perm (l : List Int) : (sortI l).Perm l := List.mergeSort_perm l _
theorem sortI_sorted (l : List Int) : (sortI l).Pairwise (· ≤ ·) := by
  have := List.pairwise_mergeSort (le := fun a b : Int => decide (a ≤ b)) (fun a b c h1 h2 => by simp at *; omega) (fun a b => by simp; omega) l
  exact this.imp fun h => by simpa using h
theorem sorted_ex (l : List Int) : ∃ s : List Int, dSorted (.list (l.map PyData.int)) = some (s.map PyData.int) ∧ s.Perm l ∧ s.Pairwise (· ≤ ·) := ⟨sortI l, il_sorted l, sortI_perm l, sortI_sorted l⟩
theorem strict {l : List Int} (h : l.Pairwise (· ≤ ·)) (n : l.Nodup) : l.Pairwise (· < ·) := by
  refine (h.and n).imp ?_
  intro a b ⟨h1, h2⟩
  have : a ≠ b := h2
  omega
theorem ev_len (e : Ev) : bi1 .len (.tuple (e.ps.map dP)) = some (.v (.int e.ps.length)) := by rw [bi_lent, List.length_map]
theorem ranks_ok [H_l_pick Φ] [H_l_draw Φ] (h63 : ns.length ≤ 63) (hk : 4 ≤ k) (x2 x4 x5 : As) : ∀ (m : Nat) (rest : List Int) (ranks : List (List Int)) (n : Nat) (t : List D) (b : As), rest.length ≤ m → m + ranks.length ≤ 10000 → Tw n t → n + m ≤ 10000000 → ∃ (new : List (List Int)) (t' : List D) (b' : As), whS (call Φ (k - 1)) (.nm 3) (.cons (.set 7 (.callT "_law_pick" 0 1 (.cons (.lst (.cons (.int 1) (.cons (.int 1) (.cons (.int 1) (.cons (.int 2) (.cons (.int 3) .nil)))))) .nil)))
  (.cons (.app 6 (.bi .tup (.bi .sorted (.cut (.nm 3) .no (.yes (.nm 7))))))
  (.cons (.set 3 (.cut (.nm 3) (.yes (.nm 7)) .no))
  .nil))) [.scr ns, .twn t, x2, .own (rest.map PyData.int), x4, x5, .own (ranks.map dT), b] = some (.nx [.scr ns, .twn t', x2, .own [], x4, x5, .own ((ranks ++ new).map dT), b']) ∧ new.flatten.Perm rest ∧ (∀ g ∈ new, g.Pairwise (· ≤ ·) ∧ g ≠ [] ∧ g.length ≤ 3) ∧ Tw (n + m) t' := by
  intro m
  induction m with
  | zero =>
    intro rest ranks n t b hm _ ht _
    have : rest = [] := List.length_eq_zero_iff.mp (by omega)
    subst this
    exact ⟨[], t, b, wh_stop (by simp -implicitDefEqProofs [okT, okO, isO, upO, ixx_at]), by simp, by simp, ht⟩
  | succ m ih =>
    intro rest ranks n t b hm hb ht hn
    by_cases hne : rest = []
    · subst hne
      exact ⟨[], t, b, wh_stop (by simp -implicitDefEqProofs [okT, okO, isO, upO, ixx_at]), by simp, by simp, ht.mono (by omega)⟩
    · obtain ⟨d, t2, e2, m2, w2⟩ := pick_ok (Φ := Φ) (k := k - 1) h63 ht (by omega) (ds := [.int 1, .int 1, .int 1, .int 2, .int 3]) (by simp) (by omega)
      have : ∃ z : Int, d = .int z ∧ 1 ≤ z ∧ z ≤ 3 := by
        simp only [List.mem_cons, List.not_mem_nil, or_false] at m2
        rcases m2 with rfl | rfl | rfl | rfl | rfl <;> exact ⟨_, rfl, by omega, by omega⟩
      obtain ⟨z, rfl, z1, z3⟩ := this
      have hp : 0 < rest.length := List.length_pos_iff.mpr hne
      obtain ⟨sg, sg1, sg2, sg3⟩ := sorted_ex (rest.take z.toNat)
      obtain ⟨new, t3, b', e3, p3, q3, w3⟩ := ih (rest.drop z.toNat) (ranks ++ [sg]) (n + 1) t2 (.val (.int z)) (by rw [List.length_drop]; omega) (by rw [List.length_append, List.length_singleton]; omega) w2 (by omega)
      have hz : ranks.length < lineN := by rw [lineV]; omega
      refine ⟨sg :: new, t3, b', ?_, ?_, ?_, w3.mono (by omega)⟩
      · refine wh_go (r1 := [.scr ns, .twn t, x2, .own (rest.map PyData.int), x4, x5, .own (ranks.map dT), b]) (r2 := [.scr ns, .twn t2, x2, .own ((rest.drop z.toNat).map PyData.int), x4, x5, .own ((ranks ++ [sg]).map dT), .val (.int z)]) (by simp -implicitDefEqProofs [okT, okO, isO, upO, ixx_at, hne]) ?_ ?_
        · simp -implicitDefEqProofs [okT, okO, isO, upO, ixx_at, e2, dPart, bi_cutl, cut_hi _ (show 0 ≤ z by omega), cut_lo _ (show 0 ≤ z by omega), ← List.map_take, ← List.map_drop, sg1, dApp, hz, dT]
        · rw [e3, List.append_assoc]; rfl
      · rw [List.flatten_cons]
        have := sg2.append p3
        rwa [List.take_append_drop] at this
      · intro g hg
        rcases List.mem_cons.mp hg with rfl | hg
        · have hlen := sg2.length_eq
          rw [List.length_take] at hlen
          refine ⟨sg3, fun e => ?_, by omega⟩
          rw [e] at hlen
          have : min z.toNat rest.length = 0 := hlen.symm
          omega
        · exact q3 g hg
theorem result_ok [H_l_drawn_result Φ] [H_l_draw Φ] [H_l_mixed Φ] [H_l_pick Φ] {n : Nat} (h63 : ns.length ≤ 63) (ht : Tw n t) (e : Ev) (hl : e.ps.length ≤ 100) (hn : n + 2 * e.ps.length + 3 ≤ 10000000) (hk : 4 ≤ k) :
    ∃ (r : Res) (t' : List D), call Φ k "_law_drawn_result" ns t [dEv e] = some (.v (dRes r), t') ∧ ResOk e.ps.length r ∧ Tw (n + 2 * e.ps.length + 3) t' := by
  rw [call_d H_l_drawn_result.eq (by omega) rfl rfl]
  obtain ⟨ys, t1, e1, p1, w1⟩ := mixed_ok PyData.int (Φ := Φ) (k := k - 1) h63 ht (upto e.ps.length) (by rw [upto_len]; omega) (by rw [upto_len]; omega) (by omega)
  rw [upto_len] at w1
  have hlen : ys.length = e.ps.length := by rw [p1.length_eq, upto_len]
  obtain ⟨d, t2, e2, m2, w2⟩ := pick_ok (Φ := Φ) (k := k - 1) h63 w1 (by omega) (ds := [.int 0, .int 0, .int 0, .int 1, .int 1, .int 2, .int ys.length]) (by simp) (by omega)
  have : ∃ v : Int, d = .int v ∧ 0 ≤ v := by
    simp only [List.mem_cons, List.not_mem_nil, or_false] at m2
    rcases m2 with rfl | rfl | rfl | rfl | rfl | rfl | rfl <;> exact ⟨_, rfl, by omega⟩
  obtain ⟨v, rfl, hv⟩ := this
  obtain ⟨a, t3, e3, a0, a1, w3⟩ := draw_ok (Φ := Φ) (k := k - 1) h63 w2 (by omega) (m := (ys.drop v.toNat).length + 1) (by omega) (by omega)
  obtain ⟨d, t4, e4, m4, w4⟩ := pick_ok (Φ := Φ) (k := k - 1) h63 w3 (by omega) (ds := [.int (ys.drop v.toNat).length, .int (ys.drop v.toNat).length, .int 1, .int 2, .int a]) (by simp) (by omega)
  have : ∃ v : Int, d = .int v ∧ 0 ≤ v := by
    simp only [List.mem_cons, List.not_mem_nil, or_false] at m4
    rcases m4 with rfl | rfl | rfl | rfl | rfl <;> exact ⟨_, rfl, by omega⟩
  obtain ⟨w, rfl, hw⟩ := this
  obtain ⟨gn, gn1, gn2, gn3⟩ := sorted_ex (ys.take v.toNat)
  obtain ⟨new, t5, b', e5, p5, q5, w5⟩ := ranks_ok (Φ := Φ) (k := k) h63 hk (.val (dEv e)) (.val (.int v)) (.own (gn.map PyData.int)) e.ps.length ((ys.drop v.toNat).take w.toNat) [] (n + e.ps.length + 3) t4 .no (by rw [List.length_take, List.length_drop]; omega) (by simp; omega) w4 (by omega)
  have hsub : ((ys.take v.toNat) ++ ((ys.drop v.toNat).take w.toNat)).Sublist ys := by
    have := List.Sublist.append (List.Sublist.refl (ys.take v.toNat)) (List.take_sublist w.toNat (ys.drop v.toNat))
    rwa [List.take_append_drop] at this
  have hperm : (gn ++ new.flatten).Perm ((ys.take v.toNat) ++ ((ys.drop v.toNat).take w.toNat)) := gn2.append p5
  have hnd : (gn ++ new.flatten).Nodup := hperm.nodup_iff.mpr (hsub.nodup (p1.nodup_iff.mpr (upto_nodup _)))
  have hnd2 := List.nodup_append.mp hnd
  refine ⟨⟨gn, new⟩, t5, ?_, ⟨hnd, fun x hx => ?_, strict gn3 hnd2.1, fun g hg => ?_⟩, w5.mono (by omega)⟩
  · simp only [List.map_nil, List.nil_append] at e5
    simp -implicitDefEqProofs [i_l_drawn_result, okT, okO, isO, upO, ixx_at, dEv, lrg_f (show e.ps.length ≤ 1000000 by omega), e1, e2, e3, e4, dPart, bi_cutl, cut_hi _ hv, cut_lo _ hv, cut_hi _ hw, ← List.map_take, ← List.map_drop, gn1, -List.length_drop]
    simp only [dEv] at e5
    rw [e5]
    simp -implicitDefEqProofs [okT, okO, isO, upO, ixx_at, dRes, dT]
  · exact mem_upto.mp (p1.subset (hsub.subset (hperm.subset hx)))
  · obtain ⟨q1, q2, q3⟩ := q5 g hg
    refine ⟨strict q1 ?_, q2, q3⟩
    exact (List.sublist_flatten_of_mem hg).nodup hnd2.2.1
end
end Pd

set_option Elab.async false
set_option linter.all false
set_option maxRecDepth 100000
set_option maxHeartbeats 4000000
set_option exponentiation.threshold 1000000
namespace Pd
open PySem
section
variable {cl : Cl}
theorem for_pre {α : Type} {t : Tg} {b : Iss} (emb : α → D) (I : List α → AE → Prop) (xs : List α)
    (step : ∀ pre x post r, xs = pre ++ x :: post → I pre r → ∃ r1 r2, asg t (emb x) r = some r1 ∧ exSs cl b r1 = some (.nx r2) ∧ I (pre ++ [x]) r2) :
    ∀ r, I [] r → ∃ r', forS cl t b (xs.map emb) r = some (.nx r') ∧ I xs r' := by
  have key : ∀ (post pre : List α) (r : AE), xs = pre ++ post → I pre r → ∃ r', forS cl t b (post.map emb) r = some (.nx r') ∧ I xs r' := by
    intro post
    induction post with
    | nil =>
      intro pre r e h
      rw [List.append_nil] at e
      exact ⟨r, rfl, by rw [e]; exact h⟩
    | cons x post ih =>
      intro pre r e h
      obtain ⟨r1, r2, h1, h2, h3⟩ := step pre x post r e h
      obtain ⟨r', h4, h5⟩ := ih (pre ++ [x]) r2 (by rw [e, List.append_assoc]; rfl) h3
      exact ⟨r', by rw [List.map_cons, for_cons, h1, kF1_s, h2, kF2_n, h4], h5⟩
  exact fun r h => key xs [] r rfl h
theorem for_cnt {t : Tg} {b : Iss} {N c : Nat} (I : Nat → AE → Prop)
    (step : ∀ d n r, I n r → n + c ≤ N → ∃ r1 r2, asg t d r = some r1 ∧ exSs cl b r1 = some (.nx r2) ∧ I (n + c) r2) :
    ∀ (xs : List D) (n : Nat) (r : AE), I n r → n + c * xs.length ≤ N → ∃ r', forS cl t b xs r = some (.nx r') ∧ I (n + c * xs.length) r'
  | [], n, r, h, _ => ⟨r, rfl, h⟩
  | d :: ds, n, r, h, hn => by
    rw [List.length_cons, Nat.mul_succ] at hn
    obtain ⟨r1, r2, h1, h2, h3⟩ := step d n r h (by omega)
    obtain ⟨r', h4, h5⟩ := for_cnt I step ds (n + c) r2 h3 (by omega)
    refine ⟨r', by rw [for_cons, h1, kF1_s, h2, kF2_n, h4], ?_⟩
    rw [List.length_cons, Nat.mul_succ]
    have : n + (c * ds.length + c) = n + c + c * ds.length := by omega
    rw [this]; exact h5
end
@[simp] theorem at_0 {α : Type} (a : α) (xs : List α) : L2.atI (a :: xs) 0 = some a := by rw [ixx_at, if_pos (by decide)]; rfl
@[simp] theorem at_1 {α : Type} (a b : α) (xs : List α) : L2.atI (a :: b :: xs) 1 = some b := by rw [ixx_at, if_pos (by decide)]; rfl
@[simp] theorem at_2 {α : Type} (a b c : α) (xs : List α) : L2.atI (a :: b :: c :: xs) 2 = some c := by rw [ixx_at, if_pos (by decide)]; rfl
@[simp] theorem at_3 {α : Type} (a b c d : α) (xs : List α) : L2.atI (a :: b :: c :: d :: xs) 3 = some d := by rw [ixx_at, if_pos (by decide)]; rfl
@[simp] theorem at_4 {α : Type} (a b c d e : α) (xs : List α) : L2.atI (a :: b :: c :: d :: e :: xs) 4 = some e := by rw [ixx_at, if_pos (by decide)]; rfl
@[simp] theorem at_5 {α : Type} (a b c d e f : α) (xs : List α) : L2.atI (a :: b :: c :: d :: e :: f :: xs) 5 = some f := by rw [ixx_at, if_pos (by decide)]; rfl
@[simp] theorem pl_no : plainS .no = true := rfl
@[simp] theorem pl_v (d : D) : plainS (.val d) = true := rfl
@[simp] theorem it_l (xs : List D) : dItems (.list xs) = some xs := rfl
@[simp] theorem it_t (xs : List D) : dItems (.tuple xs) = some xs := rfl
@[simp] theorem il_sumt (l : List Int) : dSum (.tuple (l.map PyData.int)) = some (.int l.sum) := by
  show (dInts _).bind _ = _
  rw [il_ints]; rfl
@[simp] theorem en_t (xs : List D) : dEnum (.tuple xs) = some (enumD 0 xs) := rfl
@[simp] theorem en_l (xs : List D) : dEnum (.list xs) = some (enumD 0 xs) := rfl
theorem enum_ints : ∀ (l : List Int) (k : Nat), enumD k (l.map PyData.int) = (List.range l.length).map fun i => .tuple [.int ((k + i : Nat) : Int), .int (l.getD i 0)]
  | [], _ => rfl
  | x :: l, k => by
    rw [List.length_cons, List.range_succ_eq_map, List.map_cons, List.map_cons, List.map_map]
    show PyData.tuple _ :: enumD (k + 1) _ = _
    rw [enum_ints l (k + 1)]
    refine congr (congrArg List.cons rfl) (List.map_congr_left fun i _ => ?_)
    show PyData.tuple [.int ((k + 1 + i : Nat) : Int), _] = PyData.tuple [.int ((k + (i + 1) : Nat) : Int), _]
    rw [show k + 1 + i = k + (i + 1) by omega]; rfl
theorem enum_upto (l : List Int) : enumD 0 (l.map PyData.int) = (upto l.length).map fun i => .tuple [.int i, .int (gI l i)] := by
  rw [enum_ints, upto, List.map_map]
  refine List.map_congr_left fun i _ => ?_
  show PyData.tuple [.int ((0 + i : Nat) : Int), .int (l.getD i 0)] = PyData.tuple [.int (i : Int), .int (gI l (i : Int))]
  rw [Nat.zero_add]; rfl
theorem enum_zip {α : Type} (f : α → D) : ∀ (l : List α) (k : Nat), enumD k (l.map f) = (l.zipIdx k).map fun p => .tuple [.int (p.2 : Nat), f p.1]
  | [], _ => rfl
  | x :: l, k => by
    show PyData.tuple _ :: enumD (k + 1) _ = _
    rw [enum_zip f l (k + 1)]; rfl
theorem upto_get (l : List Int) : (upto l.length).map (gI l) = l := by
  refine List.ext_getElem (by rw [List.length_map, upto_len]) fun i h1 h2 => ?_
  rw [List.getElem_map]
  unfold upto gI
  rw [List.getElem_map, List.getElem_range]
  show l.getD i 0 = _
  rw [List.getD_eq_getElem?_getD, List.getElem?_eq_getElem h2]; rfl
theorem gI_mem {l : List Int} {i : Int} (h0 : 0 ≤ i) (h1 : i < l.length) : gI l i ∈ l := by
  rw [gI_eq h0 h1]; exact List.getElem_mem _
theorem sum_bd {B : Int} : ∀ {l : List Int}, (∀ x ∈ l, 0 ≤ x ∧ x ≤ B) → 0 ≤ l.sum ∧ l.sum ≤ B * l.length
  | [], _ => ⟨by decide, by simp⟩
  | x :: l, h => by
    have h1 := h x List.mem_cons_self
    have h2 := sum_bd (l := l) fun y hy => h y (List.mem_cons_of_mem _ hy)
    rw [List.sum_cons, List.length_cons, Int.natCast_add, Int.mul_add]
    omega
theorem sum_split (p : Int → Bool) (f : Int → Int) : ∀ l : List Int, ((l.filter p).map f).sum + ((l.filter fun i => !p i).map f).sum = (l.map f).sum
  | [] => rfl
  | x :: l => by
    have ih := sum_split p f l
    cases q : p x with
    | true =>
      rw [List.filter_cons_of_pos q, List.filter_cons_of_neg (by simp [q])]
      simp only [List.map_cons, List.sum_cons]
      omega
    | false =>
      rw [List.filter_cons_of_neg (by simp [q]), List.filter_cons_of_pos (by simp [q])]
      simp only [List.map_cons, List.sum_cons]
      omega
theorem sum_perm {l l' : List Int} (h : l.Perm l') : l.sum = l'.sum := by
  induction h with
  | nil => rfl
  | cons x _ ih => rw [List.sum_cons, List.sum_cons, ih]
  | swap x y l => simp only [List.sum_cons]; omega
  | trans _ _ h1 h2 => rw [h1, h2]
theorem nodup_perm {l l' : List Int} (h : l.Nodup) (h' : l'.Nodup) (e : ∀ x, x ∈ l ↔ x ∈ l') : l.Perm l' := (List.perm_ext_iff_of_nodup h h').mpr e
theorem upto_part {m : Nat} {g : List Int} (hn : g.Nodup) (hm : ∀ x ∈ g, 0 ≤ x ∧ x < m) : g.Perm ((upto m).filter fun i => decide (i ∈ g)) := by
  refine nodup_perm hn ((upto_nodup m).filter _) fun x => ?_
  rw [List.mem_filter, decide_eq_true_eq]
  exact ⟨fun h => ⟨mem_upto.mpr (hm x h), h⟩, fun h => h.2⟩
theorem upto_at {m : Nat} {i : Nat} (h : i < m) : (upto m)[i]? = some (i : Int) := by
  unfold upto
  rw [List.getElem?_map, List.getElem?_range h]; rfl
theorem set_upto {β : Type} {m : Nat} (f : Int → β) {i : Int} (v : β) (h0 : 0 ≤ i) (h1 : i < m) : ((upto m).map f).set i.toNat v = (upto m).map fun j => if j = i then v else f j := by
  refine List.ext_getElem (by simp) fun n a b => ?_
  have hn : n < m := by simpa [upto_len] using b
  have e : (upto m)[n]'(by rw [upto_len]; exact hn) = (n : Int) := by
    have := upto_at hn
    rw [List.getElem?_eq_getElem (by rw [upto_len]; exact hn)] at this
    exact Option.some.inj this
  rw [List.getElem_set, List.getElem_map, List.getElem_map, e]
  by_cases q : i.toNat = n
  · rw [if_pos q, if_pos (by omega)]
  · rw [if_neg q, if_neg (by omega)]
theorem put_int {ds : List D} {i : Int} (d : D) (h0 : 0 ≤ i) (h1 : i < ds.length) : dPut ds (.int i) d = some (ds.set i.toNat d) := by
  show (L2.ixN ds.length i).bind _ = _
  unfold L2.ixN
  rw [if_pos h0, if_pos h1]; rfl
theorem sz63 {x : Int} {n : Nat} (hn : 63 ≤ n) (h : x.natAbs < 2 ^ 63) : Sz n x := Nat.lt_of_lt_of_le h (Nat.pow_le_pow_right (by decide) hn)
theorem mulB {a b A B : Int} (ha : 0 ≤ a) (hA : a ≤ A) (hb : 0 ≤ b) (hB : b ≤ B) : 0 ≤ a * b ∧ a * b ≤ A * B :=
  ⟨Int.mul_nonneg ha hb, Int.mul_le_mul hA hB hb (by omega)⟩
theorem divB {a b A : Int} (ha : 0 ≤ a) (hA : a ≤ A) (hb : 0 < b) : 0 ≤ a / b ∧ a / b ≤ A :=
  ⟨Int.ediv_nonneg ha (by omega), Int.le_trans (Int.ediv_le_self _ ha) hA⟩
structure Pool where
  st : List Int
  cut : Int
  car : Int
def dPool (p : Pool) : D := .tuple [dT p.st, .int p.cut, .int p.car]
structure PoolOk (m : Nat) (C : Int) (p : Pool) : Prop where
  len : p.st.length = m
  st : ∀ x ∈ p.st, 0 ≤ x ∧ x ≤ 5000
  c0 : 0 ≤ p.cut
  c1 : p.cut ≤ 50
  k0 : 0 ≤ p.car
  k1 : p.car ≤ C
def staked (p : Pool) (r : Res) : Int := (((upto p.st.length).filter fun i => !decide (i ∈ r.gone)).map (gI p.st)).sum
def cutOf (p : Pool) (r : Res) : Int := (staked p r * p.cut + 99) / 100
def netOf (p : Pool) (r : Res) : Int := staked p r - cutOf p r + p.car
def firstsOf (p : Pool) (r : Res) : List Int := match r.ranks with
  | [] => []
  | g :: _ => g.filter fun i => decide (0 < gI p.st i)
def rowOf (p : Pool) (r : Res) (i : Int) : Int := if i ∈ r.gone then 100 else if i ∈ firstsOf p r then netOf p r / (firstsOf p r).length * 100 / gI p.st i else 0
def paidOf (p : Pool) (r : Res) : Int := ((firstsOf p r).map fun i => gI p.st i * rowOf p r i / 100).sum
section
variable {Φ : Tab} {k : Nat} {ns : List Int} {t : List D} {p : Pool} {r : Res} {m : Nat} {C : Int}
theorem staked_bd (hp : PoolOk m C p) : 0 ≤ staked p r ∧ staked p r ≤ 5000 * m := by
  have h := sum_bd (B := 5000) (l := ((upto p.st.length).filter fun i => !decide (i ∈ r.gone)).map (gI p.st)) fun x hx => by
    obtain ⟨i, hi, rfl⟩ := List.mem_map.mp hx
    have := mem_upto.mp (List.mem_filter.mp hi).1
    exact hp.st _ (gI_mem this.1 this.2)
  have h2 : (((upto p.st.length).filter fun i => !decide (i ∈ r.gone)).map (gI p.st)).length ≤ m := by
    rw [List.length_map]
    refine Nat.le_trans (List.length_filter_le ..) ?_
    rw [upto_len, hp.len]; exact Nat.le_refl _
  unfold staked
  omega
theorem cutOf_bd (hp : PoolOk m C p) : 0 ≤ cutOf p r ∧ cutOf p r ≤ staked p r := by
  have h := staked_bd (r := r) hp
  have h2 := mulB h.1 (Int.le_refl _) hp.c0 hp.c1
  unfold cutOf
  omega
theorem netOf_bd (hp : PoolOk m C p) : 0 ≤ netOf p r ∧ netOf p r ≤ 5000 * m + C := by
  have h := staked_bd (r := r) hp
  have h2 := cutOf_bd (r := r) hp
  have h3 := hp.k0
  have h4 := hp.k1
  unfold netOf
  omega
theorem firsts_mem (hp : PoolOk m C p) (hr : ResOk m r) {i : Int} (h : i ∈ firstsOf p r) : 0 ≤ i ∧ i < p.st.length ∧ 0 < gI p.st i ∧ i ∉ r.gone := by
  unfold firstsOf at h
  split at h
  · cases h
  · rename_i g gs eg
    obtain ⟨h1, h2⟩ := List.mem_filter.mp h
    have hm : i ∈ r.ranks.flatten := by rw [eg]; exact List.mem_flatten.mpr ⟨g, List.mem_cons_self, h1⟩
    have h3 := hr.rg i (List.mem_append.mpr (.inr hm))
    refine ⟨h3.1, by rw [hp.len]; exact h3.2, of_decide_eq_true h2, fun h4 => ?_⟩
    exact (List.nodup_append.mp hr.nd).2.2 i h4 i hm rfl
theorem row_bd (hp : PoolOk m C p) (hr : ResOk m r) (hC : 0 ≤ C) {i : Int} : 0 ≤ rowOf p r i ∧ rowOf p r i ≤ (5000 * m + C) * 100 + 100 := by
  unfold rowOf
  split
  · omega
  · split
    · rename_i h2
      have h := firsts_mem hp hr h2
      have hb := netOf_bd (r := r) hp
      have hl : (0 : Int) < (firstsOf p r).length := by
        have := List.length_pos_of_mem h2
        omega
      have b1 := divB hb.1 hb.2 hl
      have b2 := divB (a := netOf p r / (firstsOf p r).length * 100) (A := (5000 * m + C) * 100) (by omega) (by omega) h.2.2.1
      omega
    · omega
theorem staked_ok [H_staked Φ] (hp : PoolOk m C p) (hm : m ≤ 100) (hk : 1 ≤ k) : call Φ k "staked" [] [] [dPool p, dRes r] = some (.v (.int (staked p r)), []) := by
  rw [call_p H_staked.eq hk rfl rfl]
  have lc : lcS (call Φ (k - 1)) [2, 3] (.t2 (.n 2) (.n 3)) (.yes (.cmp .notin (.nm 2) (.ix (.nm 1) (.int 0)))) (.nm 3) ((upto p.st.length).map fun i => .tuple [.int i, .int (gI p.st i)]) [.val (dPool p), .val (dRes r), .no, .no] = some (((upto p.st.length).filter fun i => !decide (i ∈ r.gone)).map (fun i => .int (gI p.st i)), [.val (dPool p), .val (dRes r), .no, .no]) := by
    refine lcS_filter _ _ _ _ fun x hx => ⟨_, _, by simp -implicitDefEqProofs [okT, okO, isO, upO, ixx_at, wipeA]; rfl, by simp -implicitDefEqProofs [okT, okO, isO, upO, ixx_at, dRes, dT, il_nin]; rfl, fun _ => ⟨_, by simp -implicitDefEqProofs [okT, okO, isO, upO, ixx_at]; rfl, rfl⟩, fun _ => rfl⟩
  have hz : p.st.length ≤ lineN := lt_line (by rw [hp.len]; omega)
  have e : ((upto p.st.length).filter fun i => !decide (i ∈ r.gone)).map (fun i => PyData.int (gI p.st i)) = (((upto p.st.length).filter fun i => !decide (i ∈ r.gone)).map (gI p.st)).map PyData.int := by rw [List.map_map]; rfl
  rw [e] at lc
  simp only [dPool, dT] at lc ⊢
  simp -implicitDefEqProofs [i_staked, okT, okO, isO, upO, -List.map_map, enum_upto, upto_len, hz, plainS, lc, staked]
theorem given_ok [H_given_back Φ] [H_staked Φ] (hp : PoolOk m C p) (hm : m ≤ 100) (hk : 2 ≤ k) : call Φ k "given_back" [] [] [dPool p, dRes r] = some (.v (.int (p.st.sum - staked p r)), []) := by
  rw [call_p H_given_back.eq (by omega) rfl rfl]
  have e := staked_ok (Φ := Φ) (k := k - 1) (r := r) hp hm (by omega)
  simp only [dPool, dT] at e ⊢
  simp -implicitDefEqProofs [i_given_back, okT, okO, isO, upO, -List.map_map, e]
theorem cut_ok [H_cut_of Φ] [H_staked Φ] (hp : PoolOk m C p) (hm : m ≤ 100) (hk : 2 ≤ k) : call Φ k "cut_of" [] [] [dPool p, dRes r] = some (.v (.int (cutOf p r)), []) := by
  rw [call_p H_cut_of.eq (by omega) rfl rfl]
  have e := staked_ok (Φ := Φ) (k := k - 1) (r := r) hp hm (by omega)
  have b := staked_bd (r := r) hp
  have b2 := hp.c0
  have b3 := hp.c1
  have m1 := mul_is (i := staked p r) (j := p.cut) (sz63 (by decide) (by omega)) (sz63 (by decide) (by omega))
  have d1 : ∀ i, bop .div (.int i) (.int 100) = some (.v (.int (i / 100))) := fun i => div_is (by decide) (.inr (sz63 (by decide) (by decide)))
  simp only [dPool, dT] at e ⊢
  simp -implicitDefEqProofs [i_cut_of, okT, okO, isO, upO, ixx_at, e, m1, d1, cutOf]
theorem net_ok [H_net_of Φ] [H_cut_of Φ] [H_staked Φ] (hp : PoolOk m C p) (hm : m ≤ 100) (hk : 3 ≤ k) : call Φ k "net_of" [] [] [dPool p, dRes r] = some (.v (.int (netOf p r)), []) := by
  rw [call_p H_net_of.eq (by omega) rfl rfl]
  have e := staked_ok (Φ := Φ) (k := k - 1) (r := r) hp hm (by omega)
  have e2 := cut_ok (Φ := Φ) (k := k - 1) (r := r) hp hm (by omega)
  simp only [dPool, dT] at e e2 ⊢
  simp -implicitDefEqProofs [i_net_of, okT, okO, isO, upO, ixx_at, e, e2, netOf]
theorem firsts_ok [H_first_ones Φ] (hp : PoolOk m C p) (hr : ResOk m r) (hm : m ≤ 100) (hk : 1 ≤ k) : call Φ k "first_ones" [] [] [dPool p, dRes r] = some (.f ((firstsOf p r).map PyData.int), []) := by
  rw [call_p H_first_ones.eq (by omega) rfl rfl]
  unfold firstsOf
  cases eg : r.ranks with
  | nil => simp -implicitDefEqProofs [i_first_ones, okT, okO, isO, upO, ixx_at, dRes, eg]
  | cons g gs =>
    have hg : ∀ x ∈ g, 0 ≤ x ∧ x < p.st.length := fun x hx => by
      rw [hp.len]
      exact hr.rg x (List.mem_append.mpr (.inr (by rw [eg]; exact List.mem_flatten.mpr ⟨g, List.mem_cons_self, hx⟩)))
    have lc : lcS (call Φ (k - 1)) [2] (.n 2) (.yes (.cmp .gt (.ix (.ix (.nm 0) (.int 0)) (.nm 2)) (.int 0))) (.nm 2) (g.map PyData.int) [.val (dPool p), .val (dRes r), .no] = some ((g.filter fun i => decide (0 < gI p.st i)).map PyData.int, [.val (dPool p), .val (dRes r), .no]) := by
      refine lcS_filter _ _ _ _ fun x hx => ⟨[.val (dPool p), .val (dRes r), .val (.int x)], [.val (dPool p), .val (dRes r), .val (.int x)], by simp -implicitDefEqProofs [okT, okO, isO, upO, ixx_at, wipeA], ?_, fun _ => ⟨[.val (dPool p), .val (dRes r), .val (.int x)], by simp -implicitDefEqProofs [okT, okO, isO, upO, ixx_at], rfl⟩, fun _ => rfl⟩
      have := il_ix (hg x hx).1 (hg x hx).2
      simp -implicitDefEqProofs [okT, okO, isO, upO, -List.map_map, dPool, dT, this]
    have hz : g.length ≤ lineN := lt_line (by
      have := (hr.ks g (by rw [eg]; exact List.mem_cons_self)).2.2
      omega)
    simp only [dRes, eg, List.map_cons, dT] at lc ⊢
    simp -implicitDefEqProofs [i_first_ones, okT, okO, isO, upO, -List.map_map, dT, hz, plainS, lc]
theorem gone_short (hr : ResOk m r) {l : List Int} (hl : l.Nodup) (hm : ∀ x ∈ l, 0 ≤ x ∧ x < m) : l.length ≤ m := by
  have := (upto_part (m := m) hl hm).length_eq
  rw [this]
  exact Nat.le_trans (List.length_filter_le ..) (by rw [upto_len]; exact Nat.le_refl _)
theorem firsts_nodup (hr : ResOk m r) : (firstsOf p r).Nodup := by
  unfold firstsOf
  split
  · exact List.nodup_nil
  · rename_i g gs eg
    have h := (List.nodup_append.mp hr.nd).2.1
    rw [eg, List.flatten_cons] at h
    exact (List.nodup_append.mp h).1.filter _
theorem firsts_len (hp : PoolOk m C p) (hr : ResOk m r) : (firstsOf p r).length ≤ m := gone_short hr (firsts_nodup hr) fun x hx => by
  have := firsts_mem hp hr hx
  rw [hp.len] at this
  exact ⟨this.1, this.2.1⟩
theorem dividends_ok [H_dividends Φ] [H_first_ones Φ] [H_net_of Φ] [H_cut_of Φ] [H_staked Φ] (hp : PoolOk m C p) (hr : ResOk m r) (hm : m ≤ 100) (hC : C ≤ 1000000000) (hk : 4 ≤ k) : call Φ k "dividends" [] [] [dPool p, dRes r] = some (.v (dT ((upto m).map (rowOf p r))), []) := by
  rw [call_p H_dividends.eq (by omega) rfl rfl]
  have e1 := firsts_ok (Φ := Φ) (k := k - 1) hp hr hm (by omega)
  have e2 := net_ok (Φ := Φ) (k := k - 1) (r := r) hp hm (by omega)
  have nb := netOf_bd (r := r) hp
  have lp := for_pre (cl := call Φ (k - 1)) (t := .t2 (.n 4) (.n 5)) (b := .cons (.ifs (.cmp .in_ (.nm 4) (.ix (.nm 1) (.int 0))) (.cons (.app 2 (.int 100))
  .nil)
  (.cons (.ifs (.cmp .in_ (.nm 4) (.nm 3)) (.cons (.app 2 (.bin .div (.bin .mul (.bin .div (.call "net_of" (.cons (.nm 0) (.cons (.nm 1) .nil))) (.bi .len (.nm 3))) (.int 100)) (.nm 5)))
  .nil)
  (.cons (.app 2 (.int 0))
  .nil))
  .nil))
  .nil) (fun i : Int => .tuple [.int i, .int (gI p.st i)]) (fun pre r' => ∃ a b, r' = [.val (dPool p), .val (dRes r), .own ((pre.map (rowOf p r)).map PyData.int), .own ((firstsOf p r).map PyData.int), a, b]) (upto m) (fun pre x post r' hx ⟨a, b, h⟩ => by
    subst h
    have hx2 := mem_upto.mp (show x ∈ upto m by rw [hx]; simp)
    have hz : (pre.map (rowOf p r)).length < lineN := by
      have := congrArg List.length hx
      rw [upto_len, List.length_append, List.length_cons] at this
      rw [List.length_map, lineV]; omega
    rw [List.length_map] at hz
    refine ⟨[.val (dPool p), .val (dRes r), .own ((pre.map (rowOf p r)).map PyData.int), .own ((firstsOf p r).map PyData.int), .val (.int x), .val (.int (gI p.st x))], [.val (dPool p), .val (dRes r), .own (((pre ++ [x]).map (rowOf p r)).map PyData.int), .own ((firstsOf p r).map PyData.int), .val (.int x), .val (.int (gI p.st x))], by simp -implicitDefEqProofs [okT, okO, isO, upO, -List.map_map], ?_, _, _, rfl⟩
    by_cases h1 : x ∈ r.gone
    · have hv : rowOf p r x = 100 := if_pos h1
      simp -implicitDefEqProofs [okT, okO, isO, upO, -List.map_map, dRes, dT, h1, dApp, hz, hv]
    · by_cases h2 : x ∈ firstsOf p r
      · have hv : rowOf p r x = netOf p r / (firstsOf p r).length * 100 / gI p.st x := by rw [rowOf, if_neg h1, if_pos h2]
        have hl : (0 : Int) < (firstsOf p r).length := by
          have := List.length_pos_of_mem h2
          omega
        have hl2 := firsts_len hp hr
        have hg := (firsts_mem hp hr h2)
        have hg2 := hp.st _ (gI_mem hg.1 hg.2.1)
        have b1 := divB nb.1 nb.2 hl
        have d1 := div_is (i := netOf p r) (j := (firstsOf p r).length) hl (.inr (sz63 (by decide) (by omega)))
        have d2 := div_is (i := netOf p r / (firstsOf p r).length * 100) (j := gI p.st x) hg.2.2.1 (.inr (sz63 (by decide) (by omega)))
        have m1 := mul_is (i := netOf p r / (firstsOf p r).length) (j := 100) (sz63 (by decide) (by omega)) (sz63 (by decide) (by omega))
        simp only [dRes, dT] at e2 ⊢
        simp -implicitDefEqProofs [okT, okO, isO, upO, -List.map_map, h1, h2, e2, d1, d2, m1, dApp, hz, hv]
      · have hv : rowOf p r x = 0 := by rw [rowOf, if_neg h1, if_neg h2]
        simp -implicitDefEqProofs [okT, okO, isO, upO, -List.map_map, dRes, dT, h1, h2, dApp, hz, hv])
  obtain ⟨r', lp, a, b, rfl⟩ := lp _ ⟨.no, .no, rfl⟩
  simp only [List.map_nil] at lp
  have hen := hp.len
  simp only [dPool, dT] at e1 lp ⊢
  simp -implicitDefEqProofs [i_dividends, okT, okO, isO, upO, -List.map_map, e1, enum_upto, hen, lp]
theorem paid_ok [H_paid_out Φ] [H_dividends Φ] [H_first_ones Φ] [H_net_of Φ] [H_cut_of Φ] [H_staked Φ] (hp : PoolOk m C p) (hr : ResOk m r) (hm : m ≤ 100) (hC0 : 0 ≤ C) (hC : C ≤ 1000000000) (hk : 5 ≤ k) : call Φ k "paid_out" [] [] [dPool p, dRes r] = some (.v (.int (paidOf p r)), []) := by
  rw [call_p H_paid_out.eq (by omega) rfl rfl]
  have e1 := firsts_ok (Φ := Φ) (k := k - 1) hp hr hm (by omega)
  have e2 := dividends_ok (Φ := Φ) (k := k - 1) hp hr hm hC (by omega)
  have lc : lcS (call Φ (k - 1)) [3] (.n 3) .no (.bin .div (.bin .mul (.ix (.ix (.nm 0) (.int 0)) (.nm 3)) (.ix (.nm 2) (.nm 3))) (.int 100)) ((firstsOf p r).map PyData.int) [.val (dPool p), .val (dRes r), .val (dT ((upto m).map (rowOf p r))), .no] = some (((firstsOf p r).map fun i => .int (gI p.st i * rowOf p r i / 100)), [.val (dPool p), .val (dRes r), .val (dT ((upto m).map (rowOf p r))), .no]) := by
    refine lcS_map _ _ _ fun x hx => ⟨[.val (dPool p), .val (dRes r), .val (dT ((upto m).map (rowOf p r))), .val (.int x)], [.val (dPool p), .val (dRes r), .val (dT ((upto m).map (rowOf p r))), .val (.int x)], [.val (dPool p), .val (dRes r), .val (dT ((upto m).map (rowOf p r))), .val (.int x)], by simp -implicitDefEqProofs [okT, okO, isO, upO, ixx_at, wipeA], by simp -implicitDefEqProofs [okT, okO, isO, upO, ixx_at], ?_, rfl⟩
    have hm := firsts_mem hp hr hx
    have hg := hp.st _ (gI_mem hm.1 hm.2.1)
    have hb := row_bd (i := x) hp hr hC0
    have i1 := il_ix hm.1 hm.2.1
    have hlen : ((upto m).map (rowOf p r)).length = p.st.length := by rw [List.length_map, upto_len, hp.len]
    have i2 := il_ix (l := (upto m).map (rowOf p r)) hm.1 (by rw [hlen]; exact hm.2.1)
    have i3 : gI ((upto m).map (rowOf p r)) x = rowOf p r x := by
      unfold gI
      rw [List.getD_eq_getElem?_getD, List.getElem?_map, upto_at (by rw [← hp.len]; omega)]
      show rowOf p r (x.toNat : Int) = _
      rw [Int.toNat_of_nonneg hm.1]
    rw [i3] at i2
    have m1 := mul_is (i := gI p.st x) (j := rowOf p r x) (sz63 (by decide) (by omega)) (sz63 (by decide) (by omega))
    have d1 : ∀ i, bop .div (.int i) (.int 100) = some (.v (.int (i / 100))) := fun i => div_is (by decide) (.inr (sz63 (by decide) (by decide)))
    simp -implicitDefEqProofs [okT, okO, isO, upO, -List.map_map, dPool, dT, i1, i2, m1, d1]
  have hl := firsts_len hp hr
  have hz : (firstsOf p r).length ≤ lineN := lt_line (by omega)
  have e : (firstsOf p r).map (fun i => PyData.int (gI p.st i * rowOf p r i / 100)) = ((firstsOf p r).map fun i => gI p.st i * rowOf p r i / 100).map PyData.int := by rw [List.map_map]; rfl
  rw [e] at lc
  simp -implicitDefEqProofs [i_paid_out, okT, okO, isO, upO, -List.map_map, e1, e2, hz, plainS, lc, paidOf]
theorem carried_ok [H_carried_on Φ] [H_net_of Φ] [H_cut_of Φ] [H_staked Φ] [H_paid_out Φ] [H_dividends Φ] [H_first_ones Φ] (hp : PoolOk m C p) (hr : ResOk m r) (hm : m ≤ 100) (hC0 : 0 ≤ C) (hC : C ≤ 1000000000) (hk : 6 ≤ k) : call Φ k "carried_on" [] [] [dPool p, dRes r] = some (.v (.int (netOf p r - paidOf p r)), []) := by
  rw [call_p H_carried_on.eq (by omega) rfl rfl]
  have e1 := net_ok (Φ := Φ) (k := k - 1) (r := r) hp hm (by omega)
  have e2 := paid_ok (Φ := Φ) (k := k - 1) hp hr hm hC0 hC (by omega)
  simp -implicitDefEqProofs [i_carried_on, okT, okO, isO, upO, -List.map_map, e1, e2]
end
end Pd

set_option Elab.async false
set_option linter.all false
set_option maxRecDepth 100000
set_option maxHeartbeats 4000000
set_option exponentiation.threshold 1000000
namespace Pd
open PySem
section
variable {Φ : Tab} {k : Nat} {ns : List Int} {t : List D} {p : Pool} {r : Res} {m : Nat} {C : Int}
theorem pickI_ok [H_l_pick Φ] [H_l_draw Φ] {n : Nat} (h63 : ns.length ≤ 63) (ht : Tw n t) (hn : n + 1 ≤ 10000000) {ds : List Int} (hd : ds ≠ []) (hk : 2 ≤ k) :
    ∃ x t', call Φ k "_law_pick" ns t [.list (ds.map PyData.int)] = some (.v (.int x), t') ∧ x ∈ ds ∧ Tw (n + 1) t' := by
  obtain ⟨d, t', e, hm, w⟩ := pick_ok (Φ := Φ) h63 ht hn (ds := ds.map PyData.int) (by simpa using hd) hk
  obtain ⟨x, hx, rfl⟩ := List.mem_map.mp hm
  exact ⟨x, t', e, hx, w⟩
theorem pool_ok [H_l_drawn_pool Φ] [H_l_draw Φ] [H_l_pick Φ] {n : Nat} (h63 : ns.length ≤ 63) (ht : Tw n t) (hm : m ≤ 100) (hn : n + 2 * m + 3 ≤ 10000000) (hk : 4 ≤ k) :
    ∃ p t', call Φ k "_law_drawn_pool" ns t [.int m] = some (.v (dPool p), t') ∧ PoolOk m 5000 p ∧ Tw (n + 2 * m + 3) t' := by
  rw [call_d H_l_drawn_pool.eq (by omega) rfl rfl]
  have hr : dRange (.int 0) (.int m) = some (rgD 0 1 m) := by rw [dRange_ok (by decide) (by decide) (by omega) (by omega), Int.sub_zero, Int.toNat_natCast]
  obtain ⟨st, t1, e1, l1, p1, w1⟩ := draws_ok (cl := call Φ (k - 1)) (own := [4]) (tg := .n 4) (e := (.callT "_law_pick" 0 1 (.cons (.lst (.cons (.int 0) (.cons (.int 1) (.cons (.int 7) (.cons (.int 100) (.cons (.int 333) (.cons (.callT "_law_draw" 0 1 (.cons (.int 5000) .nil)) .nil))))))) .nil))) (c := 2) PyData.int (fun x => 0 ≤ x ∧ x ≤ 5000) (fun t => [.scr ns, .twn t, .val (.int m), .no, .no, .no])
    (fun d n t ht hn => by
      obtain ⟨a, t1, e1, a0, a1, w1⟩ := draw_ok (Φ := Φ) (k := k - 1) h63 ht (by omega) (m := 5000) (by decide) (by omega)
      obtain ⟨x, t2, e2, hx, w2⟩ := pickI_ok (Φ := Φ) (k := k - 1) h63 w1 (by omega) (ds := [0, 1, 7, 100, 333, a]) (by simp) (by omega)
      simp only [List.map_cons, List.map_nil] at e2
      refine ⟨[.scr ns, .twn t, .val (.int m), .no, .val d, .no], [.scr ns, .twn t2, .val (.int m), .no, .val d, .no], x, t2, rfl, by simp -implicitDefEqProofs [okT, okO, isO, upO, ixx_at, wipeA, e1, e2], rfl, ?_, w2.mono (by omega)⟩
      simp only [List.mem_cons, List.not_mem_nil, or_false] at hx
      omega) (rgD 0 1 m) n t ht (by rw [rg_len]; omega)
  rw [rg_len] at l1 w1
  obtain ⟨a, t2, e2, a0, a1, w2⟩ := draw_ok (Φ := Φ) (k := k - 1) h63 w1 (by omega) (m := 51) (by decide) (by omega)
  obtain ⟨c, t3, e3, hc, w3⟩ := pickI_ok (Φ := Φ) (k := k - 1) h63 w2 (by omega) (ds := [0, 1, 10, 15, 50, a]) (by simp) (by omega)
  obtain ⟨f, t4, e4, hf, w4⟩ := pickI_ok (Φ := Φ) (k := k - 1) h63 w3 (by omega) (ds := [0, 0, 1, 99, 5000]) (by simp) (by omega)
  have hz : (rgD 0 1 m).length ≤ lineN := by rw [rg_len]; exact lt_line (by omega)
  simp only [List.map_cons, List.map_nil] at e3 e4
  simp only [List.mem_cons, List.not_mem_nil, or_false] at hc hf
  refine ⟨⟨st, c, f⟩, t4, ?_, ⟨l1, fun x hx => p1 x hx, show 0 ≤ c by omega, show c ≤ 50 by omega, show 0 ≤ f by omega, show f ≤ 5000 by omega⟩, w4.mono (by omega)⟩
  simp -implicitDefEqProofs [i_l_drawn_pool, okT, okO, isO, upO, ixx_at, hr, hz, plainS, e1, e2, e3, e4, dPool, dT]
theorem back_is (hp : PoolOk m C p) (hr : ResOk m r) : (r.gone.map (gI p.st)).sum = p.st.sum - staked p r := by
  have h1 := upto_part (m := m) (List.nodup_append.mp hr.nd).1 fun x hx => hr.rg x (List.mem_append.mpr (.inl hx))
  have h2 := sum_perm (h1.map (gI p.st))
  have h3 := sum_split (fun i => decide (i ∈ r.gone)) (gI p.st) (upto p.st.length)
  rw [upto_get, hp.len] at h3
  unfold staked
  rw [h2, hp.len]
  omega
def partOf (p : Pool) (r : Res) (i : Int) : Int := 100 * (netOf p r / (firstsOf p r).length) / gI p.st i
theorem row_first (hp : PoolOk m C p) (hr : ResOk m r) {i : Int} (h : i ∈ firstsOf p r) : rowOf p r i = partOf p r i := by
  have := firsts_mem hp hr h
  rw [rowOf, if_neg this.2.2.2, if_pos h, partOf, Int.mul_comm]
theorem rows_is (hp : PoolOk m C p) (hr : ResOk m r) : ((upto m).map fun i => if i ∈ firstsOf p r then partOf p r i else 100 * (if i ∈ r.gone then 1 else 0)) = (upto m).map (rowOf p r) := by
  refine List.map_congr_left fun i _ => ?_
  by_cases h : i ∈ firstsOf p r
  · rw [if_pos h, row_first hp hr h]
  · rw [if_neg h, rowOf, if_neg h]
    split <;> rfl
theorem paid_is (hp : PoolOk m C p) (hr : ResOk m r) : ((firstsOf p r).map fun i => partOf p r i * gI p.st i / 100).sum = paidOf p r := by
  unfold paidOf
  congr 1
  refine List.map_congr_left fun i h => ?_
  rw [row_first hp hr h, Int.mul_comm]
end
end Pd

set_option Elab.async false
set_option linter.all false
set_option maxRecDepth 100000
set_option maxHeartbeats 4000000
set_option exponentiation.threshold 1000000
namespace Pd
open PySem
def dQ (q : Rat) : D := .tuple [.int q.num, .int (q.den : Nat)]
theorem q_div {a b : Int} (hb : 0 < b) : ((a : Rat) / (b : Rat)).num = a / Int.gcd a b ∧ ((((a : Rat) / (b : Rat)).den : Nat) : Int) = b / Int.gcd a b := by
  rw [← Rat.divInt_eq_div]
  constructor
  · rw [Rat.num_divInt, Int.sign_eq_one_of_pos hb, Int.one_mul, Int.gcd_comm]
  · rw [Rat.den_divInt, if_neg (by omega), Int.gcd_comm]
    show ((b.natAbs / Int.gcd a b : Nat) : Int) = _
    rw [Int.natCast_ediv]
    congr 1; omega
theorem fr_q {a b : Int} (hb : 0 < b) : frD a b = dQ ((a : Rat) / (b : Rat)) := by
  unfold frD dQ
  rw [(q_div hb).1, (q_div hb).2]
theorem q_self (q : Rat) : (q.num : Rat) / ((q.den : Nat) : Int) = q := by
  rw [← Rat.divInt_eq_div, Rat.num_divInt_den]
theorem den0 (q : Rat) : (0 : Int) < (q.den : Nat) := by
  have := q.den_pos
  omega
theorem den_ne (q : Rat) : (((q.den : Nat) : Int) : Rat) ≠ 0 := fun h => by
  have h2 := den0 q
  have : ((q.den : Nat) : Int) = 0 := Rat.intCast_inj.mp h
  omega
theorem num0 {q : Rat} (h : 0 ≤ q) : 0 ≤ q.num := Rat.num_nonneg.mpr h
def Szq (n : Nat) (q : Rat) : Prop := Sz n q.num ∧ Sz n (q.den : Nat)
theorem Szq.mono {n m : Nat} {q : Rat} (h : Szq n q) (l : n ≤ m) : Szq m q := ⟨h.1.mono l, h.2.mono l⟩
theorem szq_div {n : Nat} {a b : Int} (ha : Sz n a) (hb : Sz n b) (h0 : 0 < b) : Szq n ((a : Rat) / (b : Rat)) := by
  have hg : (0 : Int) < Int.gcd a b := by
    have := Int.gcd_pos_of_ne_zero_right a (show b ≠ 0 by omega)
    omega
  refine ⟨?_, ?_⟩
  · rw [(q_div h0).1]
    have : (a / Int.gcd a b).natAbs ≤ a.natAbs := by
      rw [Int.natAbs_ediv_of_dvd (Int.gcd_dvd_left ..)]
      exact Nat.div_le_self _ _
    exact Nat.lt_of_le_of_lt this ha
  · rw [(q_div h0).2]
    have : (b / Int.gcd a b).natAbs ≤ b.natAbs := by
      rw [Int.natAbs_ediv_of_dvd (Int.gcd_dvd_right ..)]
      exact Nat.div_le_self _ _
    exact Nat.lt_of_le_of_lt this hb
theorem mul_q (x y : Rat) : x * y = ((x.num * y.num : Int) : Rat) / (((x.den : Nat) : Int) * ((y.den : Nat) : Int) : Int) := by
  have h1 := q_self x
  have h2 := q_self y
  have d1 := den_ne x
  have d2 := den_ne y
  rw [Rat.intCast_mul, Rat.intCast_mul]
  grind
theorem add_q (x y : Rat) : x + y = ((x.num * ((y.den : Nat) : Int) + y.num * ((x.den : Nat) : Int) : Int) : Rat) / (((x.den : Nat) : Int) * ((y.den : Nat) : Int) : Int) := by
  have h1 := q_self x
  have h2 := q_self y
  have d1 := den_ne x
  have d2 := den_ne y
  rw [Rat.intCast_add, Rat.intCast_mul, Rat.intCast_mul, Rat.intCast_mul]
  grind
theorem div_q {x y : Rat} (h : 0 < y.num) : x / y = ((x.num * ((y.den : Nat) : Int) : Int) : Rat) / (((x.den : Nat) : Int) * y.num : Int) := by
  have h1 := q_self x
  have h2 := q_self y
  have d1 := den_ne x
  have d2 := den_ne y
  have d3 : ((y.num : Int) : Rat) ≠ 0 := fun e => by
    have : y.num = 0 := Rat.intCast_inj.mp e
    omega
  rw [Rat.intCast_mul, Rat.intCast_mul]
  grind
theorem szq_mul {n m : Nat} {x y : Rat} (hx : Szq n x) (hy : Szq m y) : Szq (n + m) (x * y) := by
  rw [mul_q]
  exact szq_div (hx.1.mul hy.1) (hx.2.mul hy.2) (Int.mul_pos (den0 x) (den0 y))
theorem szq_add {n m : Nat} {x y : Rat} (hx : Szq n x) (hy : Szq m y) : Szq (n + m + 1) (x + y) := by
  rw [add_q]
  refine szq_div ?_ ((hx.2.mul hy.2).mono (by omega)) (Int.mul_pos (den0 x) (den0 y))
  have := hy.1.mul hx.2
  rw [Nat.add_comm m n] at this
  exact (hx.1.mul hy.2).add this
theorem szq_quo {n m : Nat} {x y : Rat} (hx : Szq n x) (hy : Szq m y) (h : 0 < y.num) : Szq (n + m) (x / y) := by
  rw [div_q h]
  exact szq_div (hx.1.mul hy.2) (hx.2.mul hy.1) (Int.mul_pos (den0 x) h)
theorem szq_of {n : Nat} {a b : Int} (ha : a.natAbs < 2 ^ n) (hb : b.natAbs < 2 ^ n) (h0 : 0 < b) : Szq n ((a : Rat) / (b : Rat)) := szq_div ha hb h0
theorem dQ_int (i : Int) : dQ (i : Rat) = .tuple [.int i, .int 1] := by
  unfold dQ
  rw [Rat.num_intCast, Rat.den_intCast]; rfl
theorem dQ_0 : dQ 0 = .tuple [.int 0, .int 1] := rfl
theorem dQ_1 : dQ 1 = .tuple [.int 1, .int 1] := rfl
theorem sok_q (q : Rat) (n : Nat) : sok (n + 2) (dQ q) = true := rfl
def pq (p : Int × Int) : Rat := (p.1 : Rat) / (p.2 : Rat)
theorem dP_q {p : Int × Int} (h : PrOk p) : dP p = dQ (pq p) := by
  obtain ⟨h1, h2, h3, h4, h5⟩ := h
  unfold pq dQ dP
  rw [(q_div h3).1, (q_div h3).2, h5, Int.natCast_one, Int.ediv_one, Int.ediv_one]
theorem pq_sz {p : Int × Int} (h : PrOk p) : Szq 10 (pq p) := by
  obtain ⟨h1, h2, h3, h4, h5⟩ := h
  exact szq_of (by omega) (by omega) h3
theorem pq_num {p : Int × Int} (h : PrOk p) : (pq p).num = p.1 ∧ ((pq p).den : Int) = p.2 := by
  have := dP_q h
  unfold dQ dP at this
  injection this with this
  injection this with a b
  injection b with b _
  injection a with a
  injection b with b
  exact ⟨a.symm, b.symm⟩
theorem castpos {b : Int} (h : 0 < b) : (0 : Rat) < (b : Rat) := Rat.intCast_pos.mpr h
theorem castnn {b : Int} (h : 0 ≤ b) : (0 : Rat) ≤ (b : Rat) := Rat.intCast_nonneg.mpr h
theorem q_pos {a b : Int} (ha : 0 < a) (hb : 0 < b) : (0 : Rat) < (a : Rat) / (b : Rat) := by
  rw [Rat.div_def]; exact Rat.mul_pos (castpos ha) (Rat.inv_pos.mpr (castpos hb))
theorem q_nn {a b : Int} (ha : 0 ≤ a) (hb : 0 < b) : (0 : Rat) ≤ (a : Rat) / (b : Rat) := by
  rw [Rat.div_def]; exact Rat.mul_nonneg (castnn ha) (Rat.le_of_lt (Rat.inv_pos.mpr (castpos hb)))
theorem pq_pos {p : Int × Int} (h : PrOk p) : 0 < pq p := q_pos h.1 h.2.2.1
theorem num_pos {q : Rat} (h : 0 < q) : 0 < q.num := by
  have h1 := num0 (Rat.le_of_lt h)
  rcases Int.lt_or_eq_of_le h1 with h2 | h2
  · exact h2
  · have : q = 0 := Rat.num_eq_zero.mp h2.symm
    rw [this] at h
    exact absurd h (by decide)
section
variable {Φ : Tab} {k : Nat}
theorem lowest_q [H_lowest Φ] [H_divisor Φ] {a b : Int} (ha : 0 ≤ a) (hb : 0 < b) (h : Sz 9000 b) (hk : 2 ≤ k) : call Φ k "lowest" [] [] [.int a, .int b] = some (.v (dQ ((a : Rat) / (b : Rat))), []) := by
  rw [lowest_ok ha hb h hk, fr_q hb]
theorem low_q [H_l_low Φ] {a b : Int} (ha : 0 ≤ a) (hb : 0 < b) (h : Sz 9000 b) (hk : 1 ≤ k) : call Φ k "_law_low" [] [] [.int a, .int b] = some (.v (dQ ((a : Rat) / (b : Rat))), []) := by
  rw [low_ok ha hb h hk, fr_q hb]
theorem mul_sz {n m : Nat} {i j : Int} (h : Sz n i) (h2 : Sz m j) (hn : n ≤ 9000) (hm : m ≤ 9000) : bop .mul (.int i) (.int j) = some (.v (.int (i * j))) := mul_is (h.mono (by omega)) (h2.mono (by omega))
theorem times_ok [H_times Φ] [H_lowest Φ] [H_divisor Φ] {x y : Rat} (hx : 0 ≤ x) (hy : 0 ≤ y) {n m : Nat} (sx : Szq n x) (sy : Szq m y) (hn : n + m ≤ 9000) (hk : 3 ≤ k) : call Φ k "times" [] [] [dQ x, dQ y] = some (.v (dQ (x * y)), []) := by
  rw [call_p H_times.eq (by omega) rfl rfl]
  have e := lowest_q (Φ := Φ) (k := k - 1) (Int.mul_nonneg (num0 hx) (num0 hy)) (Int.mul_pos (den0 x) (den0 y)) ((sx.2.mul sy.2).mono (by omega)) (by omega)
  rw [← mul_q] at e
  have m1 := mul_sz sx.1 sy.1 (by omega) (by omega)
  have m2 := mul_sz sx.2 sy.2 (by omega) (by omega)
  generalize x * y = z at *
  unfold dQ at e ⊢
  simp -implicitDefEqProofs [i_times, okT, okO, isO, upO, -List.map_map, m1, m2, e]
theorem plus_ok [H_plus Φ] [H_lowest Φ] [H_divisor Φ] {x y : Rat} (hx : 0 ≤ x) (hy : 0 ≤ y) {n m : Nat} (sx : Szq n x) (sy : Szq m y) (hn : n + m ≤ 9000) (hk : 3 ≤ k) : call Φ k "plus" [] [] [dQ x, dQ y] = some (.v (dQ (x + y)), []) := by
  rw [call_p H_plus.eq (by omega) rfl rfl]
  have e := lowest_q (Φ := Φ) (k := k - 1) (Int.add_nonneg (Int.mul_nonneg (num0 hx) (Int.le_of_lt (den0 y))) (Int.mul_nonneg (num0 hy) (Int.le_of_lt (den0 x)))) (Int.mul_pos (den0 x) (den0 y)) ((sx.2.mul sy.2).mono (by omega)) (by omega)
  rw [← add_q] at e
  have m1 := mul_sz sx.1 sy.2 (by omega) (by omega)
  have m2 := mul_sz sy.1 sx.2 (by omega) (by omega)
  have m3 := mul_sz sx.2 sy.2 (by omega) (by omega)
  generalize x + y = z at *
  unfold dQ at e ⊢
  simp -implicitDefEqProofs [i_plus, okT, okO, isO, upO, -List.map_map, m1, m2, m3, e]
theorem over_ok [H_over_by Φ] [H_lowest Φ] [H_divisor Φ] {x y : Rat} (hx : 0 ≤ x) (hy : 0 < y) {n m : Nat} (sx : Szq n x) (sy : Szq m y) (hn : n + m ≤ 9000) (hk : 3 ≤ k) : call Φ k "over_by" [] [] [dQ x, dQ y] = some (.v (dQ (x / y)), []) := by
  rw [call_p H_over_by.eq (by omega) rfl rfl]
  have hy2 := num_pos hy
  have e := lowest_q (Φ := Φ) (k := k - 1) (Int.mul_nonneg (num0 hx) (Int.le_of_lt (den0 y))) (Int.mul_pos (den0 x) hy2) ((sx.2.mul sy.1).mono (by omega)) (by omega)
  rw [← div_q hy2] at e
  have m1 := mul_sz sx.1 sy.2 (by omega) (by omega)
  have m2 := mul_sz sx.2 sy.1 (by omega) (by omega)
  generalize x / y = z at *
  unfold dQ at e ⊢
  simp -implicitDefEqProofs [i_over_by, okT, okO, isO, upO, -List.map_map, m1, m2, e]
theorem lt_q (x y : Rat) : (x.num * ((y.den : Nat) : Int) < y.num * ((x.den : Nat) : Int)) ↔ x < y := by
  rw [Rat.lt_iff]
theorem less_ok [H_is_less Φ] {x y : Rat} {n m : Nat} (sx : Szq n x) (sy : Szq m y) (hn : n + m ≤ 9000) (hk : 1 ≤ k) : call Φ k "is_less" [] [] [dQ x, dQ y] = some (.v (.bool (decide (x < y))), []) := by
  rw [call_p H_is_less.eq (by omega) rfl rfl]
  have m1 := mul_sz sx.1 sy.2 (by omega) (by omega)
  have m2 := mul_sz sy.1 sx.2 (by omega) (by omega)
  have e : decide (x.num * ((y.den : Nat) : Int) < y.num * ((x.den : Nat) : Int)) = decide (x < y) := decide_eq_decide.mpr (lt_q x y)
  unfold dQ
  simp -implicitDefEqProofs [i_is_less, okT, okO, isO, upO, -List.map_map, m1, m2, e]
end
end Pd

set_option Elab.async false
set_option linter.all false
set_option maxRecDepth 100000
set_option maxHeartbeats 4000000
set_option exponentiation.threshold 1000000
namespace Pd
open PySem
def winQ (r : Res) (i : Int) : Rat := match r.ranks with
  | [] => 0
  | g :: _ => if i ∈ g then ((1 : Int) : Rat) / ((g.length : Int) : Rat) else 0
def inQ (pl ahead : Int) (g : List Int) : Int := max 0 (min (pl - ahead) g.length)
def placeQ (pl : Int) : List (List Int) → Int → Int → Rat
  | [], _, _ => 0
  | g :: gs, ahead, i => if i ∈ g then ((inQ pl ahead g : Int) : Rat) / ((g.length : Int) : Rat) else placeQ pl gs (ahead + g.length) i
theorem one_over {n : Int} (h : 0 < n) : dQ (((1 : Int) : Rat) / (n : Rat)) = .tuple [.int 1, .int n] := by
  rw [← fr_q h]
  unfold frD
  rw [show Int.gcd 1 n = 1 from Int.one_gcd ..]
  simp
theorem glen_pos {g : List Int} (h : g ≠ []) : (0 : Int) < g.length := by
  have := List.length_pos_iff.mpr h
  omega
section
variable {Φ : Tab} {k : Nat} {ns : List Int} {t : List D} {r : Res} {m : Nat}
theorem win_ok [H_win_share Φ] (hr : ∀ g ∈ r.ranks, g ≠ []) (i : Int) (hk : 1 ≤ k) : call Φ k "win_share" [] [] [dRes r, .int i] = some (.v (dQ (winQ r i)), []) := by
  rw [call_p H_win_share.eq (by omega) rfl rfl]
  unfold winQ
  cases eg : r.ranks with
  | nil => simp -implicitDefEqProofs [i_win_share, okT, okO, isO, upO, -List.map_map, dRes, eg, dQ_0]
  | cons g gs =>
    have hg := glen_pos (hr g (by rw [eg]; exact List.mem_cons_self))
    by_cases h : i ∈ g
    · simp -implicitDefEqProofs [i_win_share, okT, okO, isO, upO, -List.map_map, dRes, dT, eg, h]
      rw [← one_over hg]; rfl
    · simp -implicitDefEqProofs [i_win_share, okT, okO, isO, upO, -List.map_map, dRes, dT, eg, h, dQ_0]
theorem first_share_ok [H_l_first_share Φ] (hr : ∀ g ∈ r.ranks, g ≠ []) (i : Int) (hk : 1 ≤ k) : call Φ k "_law_first_share" [] [] [dRes r, .int i] = some (.v (dQ (winQ r i)), []) := by
  rw [call_p H_l_first_share.eq (by omega) rfl rfl]
  unfold winQ
  have c : ∀ xs : List D, cutD xs none (some 1) = xs.take 1 := fun xs => cut_hi xs (by decide)
  cases eg : r.ranks with
  | nil => simp -implicitDefEqProofs [i_l_first_share, okT, okO, isO, upO, -List.map_map, dRes, eg, dQ_0, c, dPart]
  | cons g gs =>
    have hg := glen_pos (hr g (by rw [eg]; exact List.mem_cons_self))
    by_cases h : i ∈ g
    · simp -implicitDefEqProofs [i_l_first_share, okT, okO, isO, upO, -List.map_map, dRes, dT, eg, h, c, dPart]
      rw [← one_over hg]; rfl
    · simp -implicitDefEqProofs [i_l_first_share, okT, okO, isO, upO, -List.map_map, dRes, dT, eg, h, dQ_0, c, dPart]
theorem place_ok [H_place_share Φ] [H_lowest Φ] [H_divisor Φ] (e : D) (pl : Int) (he : dIx e (.int 1) = some (.int pl)) (hr : ∀ g ∈ r.ranks, g ≠ [] ∧ g.length ≤ 100000) (i : Int) (hk : 3 ≤ k) : call Φ k "place_share" [] [] [e, dRes r, .int i] = some (.v (dQ (placeQ pl r.ranks 0 i)), []) := by
  rw [call_p H_place_share.eq (by omega) rfl rfl]
  have key : ∀ (gs : List (List Int)) (ahead : Int) (a4 : As), (∀ g ∈ gs, g ≠ [] ∧ g.length ≤ 100000) → (∃ r', forS (call Φ (k - 1)) (.n 4) (.cons (.ifs (.cmp .in_ (.nm 2) (.nm 4)) (.cons (.ret (.call "lowest" (.cons (.bi2 .max2 (.int 0) (.bi2 .min2 (.bin .sub (.ix (.nm 0) (.int 1)) (.nm 3)) (.bi .len (.nm 4)))) (.cons (.bi .len (.nm 4)) .nil)))) .nil) .nil) (.cons (.set 3 (.bin .add (.nm 3) (.bi .len (.nm 4)))) .nil)) (gs.map dT) [.val e, .val (dRes r), .val (.int i), .val (.int ahead), a4] = some (.rt (.v (dQ (placeQ pl gs ahead i))) r')) ∨ (placeQ pl gs ahead i = 0 ∧ ∃ x a, forS (call Φ (k - 1)) (.n 4) (.cons (.ifs (.cmp .in_ (.nm 2) (.nm 4)) (.cons (.ret (.call "lowest" (.cons (.bi2 .max2 (.int 0) (.bi2 .min2 (.bin .sub (.ix (.nm 0) (.int 1)) (.nm 3)) (.bi .len (.nm 4)))) (.cons (.bi .len (.nm 4)) .nil)))) .nil) .nil) (.cons (.set 3 (.bin .add (.nm 3) (.bi .len (.nm 4)))) .nil)) (gs.map dT) [.val e, .val (dRes r), .val (.int i), .val (.int ahead), a4] = some (.nx [.val e, .val (dRes r), .val (.int i), .val (.int x), a])) := by
    intro gs
    induction gs with
    | nil => exact fun ahead a4 _ => .inr ⟨rfl, ahead, a4, rfl⟩
    | cons g gs ih =>
      intro ahead a4 hg
      obtain ⟨h1, h2⟩ := hg g List.mem_cons_self
      have hl := glen_pos h1
      rw [List.map_cons, for_cons]
      by_cases h : i ∈ g
      · left
        have lo := lowest_q (Φ := Φ) (k := k - 1) (a := inQ pl ahead g) (b := g.length) (by unfold inQ; omega) hl (sz63 (by decide) (by omega)) (by omega)
        rw [placeQ, if_pos h]
        unfold inQ at *
        simp -implicitDefEqProofs [okT, okO, isO, upO, -List.map_map, dT, h, he, lo]
      · rw [placeQ, if_neg h]
        rcases ih (ahead + g.length) (.val (dT g)) (fun g' h' => hg g' (List.mem_cons_of_mem _ h')) with ⟨r', e'⟩ | ⟨h0, x, a, e'⟩
        · left
          refine ⟨r', ?_⟩
          simp only [dT] at e' ⊢
          simp -implicitDefEqProofs [okT, okO, isO, upO, -List.map_map, h, kF2_n, e']
        · right
          refine ⟨h0, x, a, ?_⟩
          simp only [dT] at e' ⊢
          simp -implicitDefEqProofs [okT, okO, isO, upO, -List.map_map, h, kF2_n, e']
  rcases key r.ranks 0 .no hr with ⟨r', e'⟩ | ⟨h0, x, a, e'⟩
  · simp only [dRes] at e' ⊢
    simp -implicitDefEqProofs [i_place_share, okT, okO, isO, upO, -List.map_map, e']
  · rw [h0, dQ_0]
    simp only [dRes] at e' ⊢
    simp -implicitDefEqProofs [i_place_share, okT, okO, isO, upO, -List.map_map, e']
def fromto (a : Int) (n : Nat) : List Int := (List.range n).map fun i => a + Int.ofNat i
theorem ft_rg (a : Int) (n : Nat) : rgD a 1 n = (fromto a n).map PyData.int := by
  unfold rgD fromto
  rw [List.map_map]
  refine List.map_congr_left fun i _ => ?_
  show PyData.int (a + (i : Int) * 1) = PyData.int (a + (i : Int))
  rw [Int.mul_one]
theorem ft_count (pl a : Int) : ∀ n : Nat, ((((fromto a n).filter fun s => decide (s < pl)).length : Nat) : Int) = max 0 (min (pl - a) n)
  | 0 => by show (0 : Int) = max 0 (min (pl - a) 0); omega
  | n + 1 => by
    have ih := ft_count pl a n
    unfold fromto at *
    rw [List.range_succ, List.map_append, List.filter_append, List.length_append, Int.natCast_add, ih]
    by_cases h : a + (n : Int) < pl
    · rw [show (List.filter (fun s => decide (s < pl)) (List.map (fun i => a + Int.ofNat i) [n])) = [a + (n : Int)] by simp [h]]
      show _ + (1 : Int) = _
      omega
    · rw [show (List.filter (fun s => decide (s < pl)) (List.map (fun i => a + Int.ofNat i) [n])) = [] by simp; omega]
      show _ + (0 : Int) = _
      omega
theorem paid_share_ok [H_l_paid_share Φ] [H_l_low Φ] (e : D) (pl : Int) (he : dIx e (.int 1) = some (.int pl)) (hr : ∀ g ∈ r.ranks, g ≠ [] ∧ g.length ≤ 100) (hlen : r.ranks.length ≤ 1000) (i : Int) (hk : 3 ≤ k) : call Φ k "_law_paid_share" [] [] [e, dRes r, .int i] = some (.v (dQ (placeQ pl r.ranks 0 i)), []) := by
  rw [call_p H_l_paid_share.eq (by omega) rfl rfl]
  have key : ∀ (gs : List (List Int)) (ahead : Int) (a4 a5 a6 : As), (∀ g ∈ gs, g ≠ [] ∧ g.length ≤ 100) → plainS a6 = true → 0 ≤ ahead → ahead + 100 * gs.length ≤ 100000 → (∃ r', forS (call Φ (k - 1)) (.n 4) (.cons (.set 5 (.lc [6] (.n 6) (.r2 (.nm 3) (.bin .add (.nm 3) (.bi .len (.nm 4)))) (.yes (.cmp .lt (.nm 6) (.ix (.nm 0) (.int 1)))) (.nm 6))) (.cons (.ifs (.cmp .in_ (.nm 2) (.nm 4)) (.cons (.ret (.call "_law_low" (.cons (.bi .len (.nm 5)) (.cons (.bi .len (.nm 4)) .nil)))) .nil) .nil) (.cons (.set 3 (.bin .add (.nm 3) (.bi .len (.nm 4)))) .nil))) (gs.map dT) [.val e, .val (dRes r), .val (.int i), .val (.int ahead), a4, a5, a6] = some (.rt (.v (dQ (placeQ pl gs ahead i))) r')) ∨ (placeQ pl gs ahead i = 0 ∧ ∃ x a b c, forS (call Φ (k - 1)) (.n 4) (.cons (.set 5 (.lc [6] (.n 6) (.r2 (.nm 3) (.bin .add (.nm 3) (.bi .len (.nm 4)))) (.yes (.cmp .lt (.nm 6) (.ix (.nm 0) (.int 1)))) (.nm 6))) (.cons (.ifs (.cmp .in_ (.nm 2) (.nm 4)) (.cons (.ret (.call "_law_low" (.cons (.bi .len (.nm 5)) (.cons (.bi .len (.nm 4)) .nil)))) .nil) .nil) (.cons (.set 3 (.bin .add (.nm 3) (.bi .len (.nm 4)))) .nil))) (gs.map dT) [.val e, .val (dRes r), .val (.int i), .val (.int ahead), a4, a5, a6] = some (.nx [.val e, .val (dRes r), .val (.int i), .val (.int x), a, b, c])) := by
    intro gs
    induction gs with
    | nil => exact fun ahead a4 a5 a6 _ _ _ _ => .inr ⟨rfl, ahead, a4, a5, a6, rfl⟩
    | cons g gs ih =>
      intro ahead a4 a5 a6 hg h6 hA hB
      rw [List.length_cons] at hB
      obtain ⟨h1, h2⟩ := hg g List.mem_cons_self
      have hl := glen_pos h1
      have hrg : dRange (.int ahead) (.int (ahead + g.length)) = some ((fromto ahead g.length).map PyData.int) := by
        rw [dRange_ok (by omega) (by omega) (by omega) (by omega), ft_rg]
        congr 3; omega
      have lc : lcS (call Φ (k - 1)) [6] (.n 6) (.yes (.cmp .lt (.nm 6) (.ix (.nm 0) (.int 1)))) (.nm 6) ((fromto ahead g.length).map PyData.int) [.val e, .val (dRes r), .val (.int i), .val (.int ahead), .val (dT g), a5, a6] = some (((fromto ahead g.length).filter fun s => decide (s < pl)).map PyData.int, [.val e, .val (dRes r), .val (.int i), .val (.int ahead), .val (dT g), a5, a6]) := by
        refine lcS_filter _ _ _ _ fun x hx => ⟨[.val e, .val (dRes r), .val (.int i), .val (.int ahead), .val (dT g), a5, .val (.int x)], [.val e, .val (dRes r), .val (.int i), .val (.int ahead), .val (dT g), a5, .val (.int x)], by simp -implicitDefEqProofs [okT, okO, isO, upO, -List.map_map, wipeA], by simp -implicitDefEqProofs [okT, okO, isO, upO, -List.map_map, he], fun _ => ⟨[.val e, .val (dRes r), .val (.int i), .val (.int ahead), .val (dT g), a5, .val (.int x)], by simp -implicitDefEqProofs [okT, okO, isO, upO, -List.map_map], rfl⟩, fun _ => rfl⟩
      have hc := ft_count pl ahead g.length
      have hfl : (fromto ahead g.length).length = g.length := by unfold fromto; rw [List.length_map, List.length_range]
      have hz : (fromto ahead g.length).length ≤ lineN := by rw [hfl]; exact lt_line (by omega)
      generalize (fromto ahead g.length).filter (fun s => decide (s < pl)) = F at lc hc
      generalize fromto ahead g.length = W at *
      rw [List.map_cons, for_cons]
      by_cases h : i ∈ g
      · left
        have lo := low_q (Φ := Φ) (k := k - 1) (a := inQ pl ahead g) (b := g.length) (by unfold inQ; omega) hl (sz63 (by decide) (by omega)) (by omega)
        rw [placeQ, if_pos h]
        have hc : (F.length : Int) = inQ pl ahead g := hc
        simp only [dT] at lc ⊢
        simp -implicitDefEqProofs [okT, okO, isO, upO, -List.map_map, h, h6, he, hrg, hz, lc, hc, lo]
      · rw [placeQ, if_neg h]
        rcases ih (ahead + g.length) (.val (dT g)) (.own (F.map PyData.int)) a6 (fun g' h' => hg g' (List.mem_cons_of_mem _ h')) h6 (by omega) (by omega) with ⟨r', e'⟩ | ⟨h0, x, a, b, c, e'⟩
        · left
          refine ⟨r', ?_⟩
          simp only [dT] at e' lc ⊢
          simp -implicitDefEqProofs [okT, okO, isO, upO, -List.map_map, h, h6, he, hrg, hz, lc, kF2_n, e']
        · right
          refine ⟨h0, x, a, b, c, ?_⟩
          simp only [dT] at e' lc ⊢
          simp -implicitDefEqProofs [okT, okO, isO, upO, -List.map_map, h, h6, he, hrg, hz, lc, kF2_n, e']
  rcases key r.ranks 0 .no .no .no hr rfl (by decide) (by omega) with ⟨r', e'⟩ | ⟨h0, x, a, b, c, e'⟩
  · simp only [dRes] at e' ⊢
    simp -implicitDefEqProofs [i_l_paid_share, okT, okO, isO, upO, -List.map_map, e']
  · rw [h0, dQ_0]
    simp only [dRes] at e' ⊢
    simp -implicitDefEqProofs [i_l_paid_share, okT, okO, isO, upO, -List.map_map, e']
end
end Pd

set_option Elab.async false
set_option linter.all false
set_option maxRecDepth 100000
set_option maxHeartbeats 4000000
set_option exponentiation.threshold 1000000
namespace Pd
open PySem
def prodQ : List (Int × Int) → Rat
  | [] => 1
  | p :: ps => pq p * prodQ ps
def sumQ : List (Int × Int) → Rat
  | [] => 0
  | p :: ps => pq p + sumQ ps
theorem cast_ne {b : Int} (h : 0 < b) : (b : Rat) ≠ 0 := fun e => by
  have : b = 0 := Rat.intCast_inj.mp e
  omega
theorem frac_mul {a b c d : Int} (hb : 0 < b) (hd : 0 < d) : ((a * c : Int) : Rat) / ((b * d : Int) : Rat) = ((a : Rat) / (b : Rat)) * ((c : Rat) / (d : Rat)) := by
  have h1 := cast_ne hb
  have h2 := cast_ne hd
  rw [Rat.intCast_mul, Rat.intCast_mul]
  grind
theorem frac_add {a b c d : Int} (hb : 0 < b) (hd : 0 < d) : ((a * d + c * b : Int) : Rat) / ((b * d : Int) : Rat) = ((a : Rat) / (b : Rat)) + ((c : Rat) / (d : Rat)) := by
  have h1 := cast_ne hb
  have h2 := cast_ne hd
  rw [Rat.intCast_mul, Rat.intCast_add, Rat.intCast_mul, Rat.intCast_mul]
  grind
structure Row (s : Nat) (p : Int × Int) : Prop where
  a0 : 0 ≤ p.1
  b0 : 0 < p.2
  az : Sz s p.1
  bz : Sz s p.2
theorem row_q {s : Nat} {q : Rat} (h0 : 0 ≤ q) (h : Szq s q) : Row s (q.num, (q.den : Int)) := ⟨num0 h0, den0 q, h.1, h.2⟩
theorem row_pr {p : Int × Int} (h : PrOk p) : Row 10 p := by
  obtain ⟨h1, h2, h3, h4, h5⟩ := h
  exact ⟨by omega, h3, Sz.of (by omega), Sz.of (by omega)⟩
theorem pq_num_den (q : Rat) : pq (q.num, (q.den : Int)) = q := q_self q
theorem dP_num_den (q : Rat) : dP (q.num, (q.den : Int)) = dQ q := rfl
section
variable {Φ : Tab} {k : Nat} {ns : List Int} {t : List D} {r : Res} {m : Nat}
theorem product_ok [H_l_product Φ] [H_l_low Φ] {s : Nat} (hs : 1 ≤ s) (ps : List (Int × Int)) (hp : ∀ p ∈ ps, Row s p) (hz : s * (ps.length + 1) ≤ 9000) (hk : 2 ≤ k) : call Φ k "_law_product" [] [] [.list (ps.map dP)] = some (.v (dQ (prodQ ps)), []) := by
  rw [call_p H_l_product.eq (by omega) rfl rfl]
  have key : ∀ (qs : List (Int × Int)) (n : Nat) (o u : Int) (x : D) (a3 : As), (∀ p ∈ qs, Row s p) → 0 ≤ o → 0 < u → Sz n o → Sz n u → n + s * qs.length ≤ 9000 → ∃ o' u' a, forS (call Φ (k - 1)) (.n 3) (.cons (.par 1 2 (.bin .mul (.nm 1) (.ix (.nm 3) (.int 0))) (.bin .mul (.nm 2) (.ix (.nm 3) (.int 1)))) .nil) (qs.map dP) [.val x, .val (.int o), .val (.int u), a3] = some (.nx [.val x, .val (.int o'), .val (.int u'), a]) ∧ 0 ≤ o' ∧ 0 < u' ∧ Sz 9000 o' ∧ Sz 9000 u' ∧ (o' : Rat) / (u' : Rat) = ((o : Rat) / (u : Rat)) * prodQ qs := by
    intro qs
    induction qs with
    | nil => exact fun n o u x a3 _ h1 h2 h3 h4 h5 => ⟨o, u, a3, rfl, h1, h2, h3.mono (by omega), h4.mono (by omega), by rw [prodQ, Rat.mul_one]⟩
    | cons q qs ih =>
      intro n o u x a3 hq h1 h2 h3 h4 h5
      rw [List.length_cons, Nat.mul_succ] at h5
      have hh := hq q List.mem_cons_self
      obtain ⟨o', u', a, e, g1, g2, g3, g4, g5⟩ := ih (n + s) (o * q.1) (u * q.2) x (.val (dP q)) (fun p h => hq p (List.mem_cons_of_mem _ h)) (Int.mul_nonneg h1 hh.a0) (Int.mul_pos h2 hh.b0) (h3.mul hh.az) (h4.mul hh.bz) (by omega)
      refine ⟨o', u', a, ?_, g1, g2, g3, g4, ?_⟩
      · have m1 := mul_sz h3 hh.az (by omega) (by omega)
        have m2 := mul_sz h4 hh.bz (by omega) (by omega)
        rw [List.map_cons, for_cons]
        simp only [dP] at e ⊢
        simp -implicitDefEqProofs [okT, okO, isO, upO, -List.map_map, m1, m2, kF2_n, e]
      · rw [g5, frac_mul h2 hh.b0, prodQ, pq, Rat.mul_assoc]
  obtain ⟨o', u', a, e, g1, g2, g3, g4, g5⟩ := key ps s 1 1 (.list (ps.map dP)) .no hp (by decide) (by decide) (show (1 : Nat) < 2 ^ s from Nat.one_lt_two_pow (by omega)) (show (1 : Nat) < 2 ^ s from Nat.one_lt_two_pow (by omega)) (by rw [Nat.mul_succ] at hz; omega)
  have e2 := low_q (Φ := Φ) (k := k - 1) g1 g2 g4 (by omega)
  rw [g5] at e2
  have : (((1 : Int) : Rat) / ((1 : Int) : Rat)) * prodQ ps = prodQ ps := by
    show ((1 : Rat) / 1) * _ = _
    grind
  rw [this] at e2
  simp -implicitDefEqProofs [i_l_product, okT, okO, isO, upO, -List.map_map, e, e2]
theorem summed_ok [H_l_summed Φ] [H_l_low Φ] {s : Nat} (hs : 1 ≤ s) (ps : List (Int × Int)) (hp : ∀ p ∈ ps, Row s p) (hz : (s + 1) * (ps.length + 1) ≤ 9000) (hk : 2 ≤ k) : call Φ k "_law_summed" [] [] [.list (ps.map dP)] = some (.v (dQ (sumQ ps)), []) := by
  rw [call_p H_l_summed.eq (by omega) rfl rfl]
  have key : ∀ (qs : List (Int × Int)) (n : Nat) (o u : Int) (x : D) (a3 : As), (∀ p ∈ qs, Row s p) → 0 ≤ o → 0 < u → Sz n o → Sz n u → n + (s + 1) * qs.length ≤ 9000 → ∃ o' u' a, forS (call Φ (k - 1)) (.n 3) (.cons (.par 1 2 (.bin .add (.bin .mul (.nm 1) (.ix (.nm 3) (.int 1))) (.bin .mul (.ix (.nm 3) (.int 0)) (.nm 2))) (.bin .mul (.nm 2) (.ix (.nm 3) (.int 1)))) .nil) (qs.map dP) [.val x, .val (.int o), .val (.int u), a3] = some (.nx [.val x, .val (.int o'), .val (.int u'), a]) ∧ 0 ≤ o' ∧ 0 < u' ∧ Sz 9000 o' ∧ Sz 9000 u' ∧ (o' : Rat) / (u' : Rat) = ((o : Rat) / (u : Rat)) + sumQ qs := by
    intro qs
    induction qs with
    | nil => exact fun n o u x a3 _ h1 h2 h3 h4 h5 => ⟨o, u, a3, rfl, h1, h2, h3.mono (by omega), h4.mono (by omega), by rw [sumQ, Rat.add_zero]⟩
    | cons q qs ih =>
      intro n o u x a3 hq h1 h2 h3 h4 h5
      rw [List.length_cons, Nat.mul_succ] at h5
      have hh := hq q List.mem_cons_self
      have z1 := h3.mul hh.bz
      have z2 := hh.az.mul h4
      rw [Nat.add_comm s n] at z2
      obtain ⟨o', u', a, e, g1, g2, g3, g4, g5⟩ := ih (n + s + 1) (o * q.2 + q.1 * u) (u * q.2) x (.val (dP q)) (fun p h => hq p (List.mem_cons_of_mem _ h)) (Int.add_nonneg (Int.mul_nonneg h1 (Int.le_of_lt hh.b0)) (Int.mul_nonneg hh.a0 (Int.le_of_lt h2))) (Int.mul_pos h2 hh.b0) (z1.add z2) ((h4.mul hh.bz).mono (by omega)) (by omega)
      refine ⟨o', u', a, ?_, g1, g2, g3, g4, ?_⟩
      · have m1 := mul_sz h3 hh.bz (by omega) (by omega)
        have m2 := mul_sz h4 hh.bz (by omega) (by omega)
        have m3 := mul_sz hh.az h4 (by omega) (by omega)
        rw [List.map_cons, for_cons]
        simp only [dP] at e ⊢
        simp -implicitDefEqProofs [okT, okO, isO, upO, -List.map_map, m1, m2, m3, kF2_n, e]
      · rw [g5, frac_add h2 hh.b0, sumQ, pq, Rat.add_assoc]
  obtain ⟨o', u', a, e, g1, g2, g3, g4, g5⟩ := key ps (s + 1) 0 1 (.list (ps.map dP)) .no hp (by decide) (by decide) (show (0 : Nat) < 2 ^ (s + 1) from Nat.two_pow_pos _) (show (1 : Nat) < 2 ^ (s + 1) from Nat.one_lt_two_pow (by omega)) (by rw [Nat.mul_succ] at hz; omega)
  have e2 := low_q (Φ := Φ) (k := k - 1) g1 g2 g4 (by omega)
  rw [g5] at e2
  have : (((0 : Int) : Rat) / ((1 : Int) : Rat)) + sumQ ps = sumQ ps := by
    show ((0 : Rat) / 1) + _ = _
    grind
  rw [this] at e2
  simp -implicitDefEqProofs [i_l_summed, okT, okO, isO, upO, -List.map_map, e, e2]
theorem back_ok [H_back_of Φ] [H_lowest Φ] [H_divisor Φ] {p : Int × Int} (h : PrOk p) (hk : 3 ≤ k) : call Φ k "back_of" [] [] [dP p] = some (.v (dQ (pq p + 1)), []) := by
  rw [call_p H_back_of.eq (by omega) rfl rfl]
  obtain ⟨h1, h2, h3, h4, h5⟩ := h
  have e := lowest_q (Φ := Φ) (k := k - 1) (a := p.1 + p.2) (b := p.2) (by omega) (by omega) (sz63 (by decide) (by omega)) (by omega)
  have : ((p.1 + p.2 : Int) : Rat) / (p.2 : Rat) = pq p + 1 := by
    have := cast_ne (show 0 < p.2 by omega)
    unfold pq
    rw [Rat.intCast_add]
    grind
  rw [this] at e
  simp -implicitDefEqProofs [i_back_of, okT, okO, isO, upO, -List.map_map, dP, e]
theorem place_back_ok [H_place_back Φ] [H_lowest Φ] [H_divisor Φ] {p : Int × Int} (h : PrOk p) {c : Int} (c0 : 1 ≤ c) (c1 : c ≤ 1000) (hk : 3 ≤ k) : call Φ k "place_back" [] [] [dP p, .int c] = some (.v (dQ (((p.2 * c + p.1 : Int) : Rat) / ((p.2 * c : Int) : Rat))), []) := by
  rw [call_p H_place_back.eq (by omega) rfl rfl]
  obtain ⟨h1, h2, h3, h4, h5⟩ := h
  have b := mulB (show 0 ≤ p.2 by omega) h4 (show 0 ≤ c by omega) c1
  have b2 : 0 < p.2 * c := Int.mul_pos (by omega) (by omega)
  have e := lowest_q (Φ := Φ) (k := k - 1) (a := p.2 * c + p.1) (b := p.2 * c) (by omega) b2 (sz63 (by decide) (by omega)) (by omega)
  have m1 := mul_is (i := p.2) (j := c) (sz63 (by decide) (by omega)) (sz63 (by decide) (by omega))
  simp -implicitDefEqProofs [i_place_back, okT, okO, isO, upO, -List.map_map, dP, m1, e]
def dOR : Option Res → D
  | none => .none
  | some r => dRes r
def dOQ : Option Rat → D
  | none => .none
  | some q => dQ q
def facQ (e : Ev) (o : Option Res) (i : Int) (p : Int × Int) (placed : Bool) : Option Rat := match o with
  | none => none
  | some r => if i ∈ r.gone then some 1 else if placed = true then some (placeQ e.pl r.ranks 0 i * (((p.2 * e.pt + p.1 : Int) : Rat) / ((p.2 * e.pt : Int) : Rat))) else some (winQ r i * (pq p + 1))
theorem szq_int {a b : Int} (ha : a.natAbs < 2 ^ 30) (hb : b.natAbs < 2 ^ 30) (h : 0 < b) : Szq 30 ((a : Rat) / (b : Rat)) := szq_of ha hb h
theorem szq_0 {n : Nat} (h : 1 ≤ n) : Szq n 0 := ⟨show (0 : Nat) < 2 ^ n from Nat.two_pow_pos _, show (1 : Nat) < 2 ^ n from Nat.one_lt_two_pow (by omega)⟩
theorem szq_1 {n : Nat} (h : 1 ≤ n) : Szq n 1 := ⟨show (1 : Nat) < 2 ^ n from Nat.one_lt_two_pow (by omega), show (1 : Nat) < 2 ^ n from Nat.one_lt_two_pow (by omega)⟩
theorem win_nn (hr : ∀ g ∈ r.ranks, g ≠ []) (i : Int) : 0 ≤ winQ r i := by
  unfold winQ
  split
  · exact Rat.le_refl
  · rename_i g gs eg
    split
    · exact q_nn (by decide) (glen_pos (hr g (by rw [eg]; exact List.mem_cons_self)))
    · exact Rat.le_refl
theorem win_sz (hr : ∀ g ∈ r.ranks, g ≠ [] ∧ g.length ≤ 1000) (i : Int) : Szq 30 (winQ r i) := by
  unfold winQ
  split
  · exact szq_0 (by decide)
  · rename_i g gs eg
    have h := hr g (by rw [eg]; exact List.mem_cons_self)
    split
    · exact szq_int (by decide) (by omega) (glen_pos h.1)
    · exact szq_0 (by decide)
theorem place_nn (pl : Int) : ∀ (gs : List (List Int)) (ahead i : Int), (∀ g ∈ gs, g ≠ []) → 0 ≤ placeQ pl gs ahead i
  | [], _, _, _ => Rat.le_refl
  | g :: gs, ahead, i, h => by
    rw [placeQ]
    split
    · exact q_nn (by unfold inQ; omega) (glen_pos (h g List.mem_cons_self))
    · exact place_nn pl gs _ i fun g' h' => h g' (List.mem_cons_of_mem _ h')
theorem place_sz (pl : Int) : ∀ (gs : List (List Int)) (ahead i : Int), (∀ g ∈ gs, g ≠ [] ∧ g.length ≤ 1000) → Szq 30 (placeQ pl gs ahead i)
  | [], _, _, _ => szq_0 (by decide)
  | g :: gs, ahead, i, h => by
    rw [placeQ]
    have h1 := h g List.mem_cons_self
    split
    · exact szq_int (by unfold inQ; omega) (by omega) (glen_pos h1.1)
    · exact place_sz pl gs _ i fun g' h' => h g' (List.mem_cons_of_mem _ h')
theorem ranks_ne (hr : ResOk m r) : ∀ g ∈ r.ranks, g ≠ [] := fun g h => (hr.ks g h).2.1
theorem ranks_le (hr : ResOk m r) : ∀ g ∈ r.ranks, g ≠ [] ∧ g.length ≤ 100 := fun g h => ⟨(hr.ks g h).2.1, by have := (hr.ks g h).2.2; omega⟩
theorem ranks_few (hr : ResOk m r) : r.ranks.length ≤ m := by
  have h1 : r.ranks.flatten.length ≤ m := by
    have hn := (List.nodup_append.mp hr.nd).2.1
    have := (upto_part (m := m) hn fun x hx => hr.rg x (List.mem_append.mpr (.inr hx))).length_eq
    rw [this]
    exact Nat.le_trans (List.length_filter_le ..) (by rw [upto_len]; exact Nat.le_refl _)
  have h2 : ∀ gs : List (List Int), (∀ g ∈ gs, g ≠ []) → gs.length ≤ gs.flatten.length := by
    intro gs
    induction gs with
    | nil => exact fun _ => Nat.le_refl _
    | cons g gs ih =>
      intro h
      have := ih fun g' h' => h g' (List.mem_cons_of_mem _ h')
      have hp := List.length_pos_iff.mpr (h g List.mem_cons_self)
      rw [List.flatten_cons, List.length_append, List.length_cons]
      omega
  have := h2 r.ranks (ranks_ne hr)
  omega
theorem ev_pl (e : Ev) : dIx (dEv e) (.int 1) = some (.int e.pl) := by simp -implicitDefEqProofs [dEv, okT, okO, isO, upO, -List.map_map]
theorem factor_ok [H_factor Φ] [H_back_of Φ] [H_lowest Φ] [H_divisor Φ] [H_place_back Φ] [H_place_share Φ] [H_times Φ] [H_win_share Φ] (c : List Ev) (os : List (Option Res)) {j : Int} (j0 : 0 ≤ j) (j1 : j < c.length) (j2 : j < os.length) {e : Ev} (he : c[j.toNat]? = some e) {o : Option Res} (ho : os[j.toNat]? = some o) (hm : ∀ r, o = some r → ResOk m r) {most : Nat} (hev : EvOk most e) (i : Int) {p : Int × Int} (hp : PrOk p) (placed : Bool) (hk : 4 ≤ k) :
    call Φ k "factor" [] [] [.tuple (c.map dEv), .tuple [.int j, .int i, dP p], .tuple (os.map dOR), .bool placed] = some (.v (dOQ (facQ e o i p placed)), []) := by
  rw [call_p H_factor.eq (by omega) rfl rfl]
  have i1 : L2.atI (c.map dEv) j = some (dEv e) := by rw [ixx_at, if_pos j0, List.getElem?_map, he]; rfl
  have i2 : L2.atI (os.map dOR) j = some (dOR o) := by rw [ixx_at, if_pos j0, List.getElem?_map, ho]; rfl
  cases o with
  | none => simp -implicitDefEqProofs [i_factor, okT, okO, isO, upO, -List.map_map, i2, dOR, facQ, dOQ]
  | some r =>
    have hr := hm r rfl
    by_cases h : i ∈ r.gone
    · rw [facQ, if_pos h]
      simp -implicitDefEqProofs [i_factor, okT, okO, isO, upO, -List.map_map, i2, dOR, dRes, dT, h, dOQ, dQ_1]
    · rw [facQ, if_neg h]
      have t1 := hev.t1
      have t5 := hev.t5
      cases placed with
      | false =>
        have f1 := win_ok (Φ := Φ) (k := k - 1) (ranks_ne hr) i (by omega)
        have f2 := back_ok (Φ := Φ) (k := k - 1) hp (by omega)
        have pn : 0 ≤ pq p + 1 := by have := Rat.le_of_lt (pq_pos hp); grind
        have f3 := times_ok (Φ := Φ) (k := k - 1) (win_nn (ranks_ne hr) i) pn (win_sz (fun g h => ⟨(ranks_le hr g h).1, by have := (ranks_le hr g h).2; omega⟩) i) (szq_add (pq_sz hp) (szq_1 (n := 1) (by decide))) (by omega) (by omega)
        rw [if_neg (by decide)]
        simp only [dRes, dT] at f1
        simp -implicitDefEqProofs [i_factor, okT, okO, isO, upO, -List.map_map, i2, dOR, dRes, dT, h, dOQ, f1, f2, f3]
      | true =>
        have f1 := place_ok (Φ := Φ) (k := k - 1) (r := r) (dEv e) e.pl (ev_pl e) (fun g h => ⟨(ranks_le hr g h).1, by have := (ranks_le hr g h).2; omega⟩) i (by omega)
        have f2 := place_back_ok (Φ := Φ) (k := k - 1) hp t1 (show e.pt ≤ 1000 by omega) (by omega)
        obtain ⟨h1, h2, h3, h4, h5⟩ := hp
        have b := mulB (show 0 ≤ p.2 by omega) h4 (show 0 ≤ e.pt by omega) t5
        have b2 : 0 < p.2 * e.pt := Int.mul_pos (by omega) (by omega)
        have f3 := times_ok (Φ := Φ) (k := k - 1) (place_nn e.pl r.ranks 0 i (ranks_ne hr)) (q_nn (a := p.2 * e.pt + p.1) (by omega) b2) (place_sz e.pl r.ranks 0 i (fun g h => ⟨(ranks_le hr g h).1, by have := (ranks_le hr g h).2; omega⟩)) (szq_int (a := p.2 * e.pt + p.1) (by omega) (by omega) b2) (by omega) (by omega)
        rw [if_pos rfl]
        generalize ((p.2 * e.pt + p.1 : Int) : Rat) / ((p.2 * e.pt : Int) : Rat) = W at *
        simp only [dRes, dT, dEv] at f1 i1
        simp -implicitDefEqProofs [i_factor, okT, okO, isO, upO, -List.map_map, i1, i2, dOR, dRes, dT, h, dOQ, f1, f2, f3]
theorem leg_factor_ok [H_l_leg_factor Φ] [H_l_first_share Φ] [H_l_paid_share Φ] [H_l_low Φ] [H_l_product Φ] (c : List Ev) (os : List (Option Res)) {j : Int} (j0 : 0 ≤ j) (j1 : j < c.length) (j2 : j < os.length) {e : Ev} (he : c[j.toNat]? = some e) {o : Option Res} (ho : os[j.toNat]? = some o) (hm : ∀ r, o = some r → ResOk m r) (hm2 : m ≤ 1000) {most : Nat} (hev : EvOk most e) (i : Int) {p : Int × Int} (hp : PrOk p) (placed : Bool) (hk : 4 ≤ k) :
    call Φ k "_law_leg_factor" [] [] [.tuple (c.map dEv), .tuple [.int j, .int i, dP p], .tuple (os.map dOR), .bool placed] = some (.v (dOQ (facQ e o i p placed)), []) := by
  rw [call_p H_l_leg_factor.eq (by omega) rfl rfl]
  have i1 : L2.atI (c.map dEv) j = some (dEv e) := by rw [ixx_at, if_pos j0, List.getElem?_map, he]; rfl
  have i2 : L2.atI (os.map dOR) j = some (dOR o) := by rw [ixx_at, if_pos j0, List.getElem?_map, ho]; rfl
  cases o with
  | none => simp -implicitDefEqProofs [i_l_leg_factor, okT, okO, isO, upO, -List.map_map, i2, dOR, facQ, dOQ, dP]
  | some r =>
    have hr := hm r rfl
    by_cases h : i ∈ r.gone
    · rw [facQ, if_pos h]
      simp -implicitDefEqProofs [i_l_leg_factor, okT, okO, isO, upO, -List.map_map, i2, dOR, dRes, dT, h, dOQ, dQ_1, dP]
    · rw [facQ, if_neg h]
      have t1 := hev.t1
      have t5 := hev.t5
      have hp' := hp
      obtain ⟨h1, h2, h3, h4, h5⟩ := hp'
      cases placed with
      | false =>
        have f1 := first_share_ok (Φ := Φ) (k := k - 1) (ranks_ne hr) i (by omega)
        have w0 := win_nn (ranks_ne hr) i
        have w1 := win_sz (fun g h => ⟨(ranks_le hr g h).1, by have := (ranks_le hr g h).2; omega⟩) i
        have f2 := product_ok (Φ := Φ) (k := k - 1) (s := 30) (by decide) [((winQ r i).num, ((winQ r i).den : Int)), (p.1 + p.2, p.2)] (fun x hx => by
          rcases List.mem_cons.mp hx with rfl | hx
          · exact row_q w0 w1
          · rcases List.mem_singleton.mp hx with rfl
            exact ⟨show 0 ≤ p.1 + p.2 by omega, show 0 < p.2 by omega, Sz.of (show (p.1 + p.2).natAbs < _ by omega), Sz.of (show p.2.natAbs < _ by omega)⟩) (show 30 * 3 ≤ 9000 by decide) (by omega)
        have e2 : prodQ [((winQ r i).num, ((winQ r i).den : Int)), (p.1 + p.2, p.2)] = winQ r i * (pq p + 1) := by
          have := cast_ne (show 0 < p.2 by omega)
          rw [prodQ, prodQ, prodQ, pq_num_den]
          unfold pq
          show _ * (((p.1 + p.2 : Int) : Rat) / (p.2 : Rat) * 1) = _
          rw [Rat.intCast_add]
          grind
        rw [e2] at f2
        simp only [List.map_cons, List.map_nil, dP_num_den] at f2
        rw [if_neg (by decide)]
        simp only [dRes, dT] at f1
        simp only [dP] at f2
        simp -implicitDefEqProofs [i_l_leg_factor, okT, okO, isO, upO, -List.map_map, i2, dOR, dRes, dT, h, dOQ, dP, f1, f2]
      | true =>
        have f1 := paid_share_ok (Φ := Φ) (k := k - 1) (r := r) (dEv e) e.pl (ev_pl e) (ranks_le hr) (by have := ranks_few hr; omega) i (by omega)
        have w0 := place_nn e.pl r.ranks 0 i (ranks_ne hr)
        have w1 := place_sz e.pl r.ranks 0 i (fun g h => ⟨(ranks_le hr g h).1, by have := (ranks_le hr g h).2; omega⟩)
        have b := mulB (show 0 ≤ p.2 by omega) h4 (show 0 ≤ e.pt by omega) t5
        have b2 : 0 < p.2 * e.pt := Int.mul_pos (by omega) (by omega)
        generalize hX : placeQ e.pl r.ranks 0 i = X at *
        have f2 := product_ok (Φ := Φ) (k := k - 1) (s := 30) (by decide) [(X.num, (X.den : Int)), (p.2 * e.pt + p.1, p.2 * e.pt)] (fun x hx => by
          rcases List.mem_cons.mp hx with rfl | hx
          · exact row_q w0 w1
          · rcases List.mem_singleton.mp hx with rfl
            exact ⟨show 0 ≤ p.2 * e.pt + p.1 by omega, b2, Sz.of (show (p.2 * e.pt + p.1).natAbs < _ by omega), Sz.of (show (p.2 * e.pt).natAbs < _ by omega)⟩) (show 30 * 3 ≤ 9000 by decide) (by omega)
        have e2 : prodQ [(X.num, (X.den : Int)), (p.2 * e.pt + p.1, p.2 * e.pt)] = X * (((p.2 * e.pt + p.1 : Int) : Rat) / ((p.2 * e.pt : Int) : Rat)) := by
          rw [prodQ, prodQ, prodQ, pq_num_den, Rat.mul_one]
          rfl
        rw [e2] at f2
        simp only [List.map_cons, List.map_nil, dP_num_den] at f2
        rw [if_pos rfl]
        generalize ((p.2 * e.pt + p.1 : Int) : Rat) / ((p.2 * e.pt : Int) : Rat) = W at *
        have m1 := mul_is (i := p.2) (j := e.pt) (sz63 (by decide) (by omega)) (sz63 (by decide) (by omega))
        simp only [dRes, dT, dEv] at f1 i1
        simp only [dP] at f2
        simp -implicitDefEqProofs [i_l_leg_factor, okT, okO, isO, upO, -List.map_map, i1, i2, dOR, dRes, dT, h, dOQ, dP, f1, f2, m1]
end
end Pd

set_option Elab.async false
set_option linter.all false
set_option maxRecDepth 100000
set_option maxHeartbeats 4000000
set_option exponentiation.threshold 1000000
namespace Pd
open PySem
structure Fits (M : Nat) (c : List Ev) (os : List (Option Res)) : Prop where
  len : os.length = c.length
  sm : ∀ (j : Nat) (e : Ev), c[j]? = some e → e.ps.length ≤ M
  ok : ∀ (j : Nat) (e : Ev) (o : Option Res), c[j]? = some e → os[j]? = some o → ∀ r, o = some r → ResOk e.ps.length r ∧ True
theorem fits_snoc {M : Nat} {c : List Ev} {os : List (Option Res)} (h : Fits M c os) {e : Ev} {o : Option Res} (he : e.ps.length ≤ M) (ho : ∀ r, o = some r → ResOk e.ps.length r) : Fits M (c ++ [e]) (os ++ [o]) := by
  have hl := h.len
  have key : ∀ {α : Type} (l : List α) (x y : α) (j : Nat), (l ++ [x])[j]? = some y → (j < l.length ∧ l[j]? = some y) ∨ (j = l.length ∧ y = x) := by
    intro α l x y j e
    rcases Nat.lt_trichotomy j l.length with q | q | q
    · rw [List.getElem?_append_left q] at e
      exact .inl ⟨q, e⟩
    · subst q
      rw [List.getElem?_append_right (Nat.le_refl _), Nat.sub_self] at e
      exact .inr ⟨rfl, (Option.some.inj e).symm⟩
    · rw [List.getElem?_eq_none (by rw [List.length_append, List.length_singleton]; omega)] at e
      cases e
  refine ⟨by simp [hl], fun j e' h1 => ?_, fun j e' o' h1 h2 r hr => ?_⟩
  · rcases key _ _ _ _ h1 with ⟨_, h1⟩ | ⟨_, rfl⟩
    · exact h.sm j e' h1
    · exact he
  · rcases key _ _ _ _ h1 with ⟨q, h1⟩ | ⟨q, rfl⟩
    · rcases key _ _ _ _ h2 with ⟨_, h2⟩ | ⟨q2, _⟩
      · exact h.ok j e' o' h1 h2 r hr
      · omega
    · rcases key _ _ _ _ h2 with ⟨q2, h2⟩ | ⟨_, rfl⟩
      · omega
      · exact ⟨ho r hr, trivial⟩
section
variable {Φ : Tab} {k : Nat} {ns : List Int} {t : List D}
theorem results_ok [H_l_drawn_results Φ] [H_l_draw Φ] [H_l_drawn_result Φ] [H_l_mixed Φ] [H_l_pick Φ] {n : Nat} (h63 : ns.length ≤ 63) (ht : Tw n t) (c : List Ev) {least : Int} (hc : c.length ≤ 100) (hs : ∀ e ∈ c, e.ps.length ≤ 8) (hn : n + 21 * c.length ≤ 10000000) (hk : 5 ≤ k) :
    ∃ (os : List (Option Res)) (t' : List D), call Φ k "_law_drawn_results" ns t [.tuple (c.map dEv), .int least] = some (.v (.tuple (os.map dOR)), t') ∧ Fits 100 c os ∧ Tw (n + 21 * c.length) t' := by
  rw [call_d H_l_drawn_results.eq (by omega) rfl rfl]
  have h := for_pre (cl := call Φ (k - 1)) (t := (.n 5)) (b := (.cons (.set 6 (.cmp .ge (.callT "_law_draw" 0 1 (.cons (.int 4) .nil)) (.nm 3))) (.cons (.app 4 (.ite (.nm 6) (.callT "_law_drawn_result" 0 1 (.cons (.nm 5) .nil)) .non)) .nil))) dEv (fun pre r => ∃ t os a5 a6, r = [.scr ns, .twn t, .val (.tuple (c.map dEv)), .val (.int least), .own (os.map dOR), a5, a6] ∧ Tw (n + 21 * pre.length) t ∧ Fits 100 pre os) c (fun pre x post r hx ⟨t, os, a5, a6, h, w, hf⟩ => by
    subst h
    have hx2 := hs x (by rw [hx]; simp)
    have hl := congrArg List.length hx
    rw [List.length_append, List.length_cons] at hl
    have hz : os.length < lineN := by rw [lineV, hf.len]; omega
    obtain ⟨v, t1, e1, v0, v1, w1⟩ := draw_ok (Φ := Φ) (k := k - 1) h63 w (by omega) (m := 4) (by decide) (by omega)
    by_cases hv : least ≤ v
    · obtain ⟨r, t2, e2, hr, w2⟩ := result_ok (Φ := Φ) (k := k - 1) h63 w1 x (by omega) (by omega) (by omega)
      exact ⟨[.scr ns, .twn t, .val (.tuple (c.map dEv)), .val (.int least), .own (os.map dOR), .val (dEv x), a6], [.scr ns, .twn t2, .val (.tuple (c.map dEv)), .val (.int least), .own ((os ++ [some r]).map dOR), .val (dEv x), .val (.bool true)], by simp -implicitDefEqProofs [okT, okO, isO, upO, -List.map_map], by simp -implicitDefEqProofs [okT, okO, isO, upO, -List.map_map, e1, e2, hv, dApp, hz, dOR], t2, os ++ [some r], _, _, rfl, w2.mono (by rw [List.length_append, List.length_singleton]; omega), fits_snoc hf (by omega) fun r' h => by cases h; exact hr⟩
    · exact ⟨[.scr ns, .twn t, .val (.tuple (c.map dEv)), .val (.int least), .own (os.map dOR), .val (dEv x), a6], [.scr ns, .twn t1, .val (.tuple (c.map dEv)), .val (.int least), .own ((os ++ [none]).map dOR), .val (dEv x), .val (.bool false)], by simp -implicitDefEqProofs [okT, okO, isO, upO, -List.map_map], by simp -implicitDefEqProofs [okT, okO, isO, upO, -List.map_map, e1, hv, dApp, hz, dOR], t1, os ++ [none], _, _, rfl, w1.mono (by rw [List.length_append, List.length_singleton]; omega), fits_snoc hf (by omega) fun r' h => by cases h⟩)
  obtain ⟨r', s, t', os, a5, a6, rfl, w, hf⟩ := h _ ⟨t, [], .no, .no, rfl, ht, ⟨rfl, fun j e h => absurd h (by simp), fun j e o h => absurd h (by simp)⟩⟩
  refine ⟨os, t', ?_, hf, w⟩
  simp only [List.map_nil] at s
  simp -implicitDefEqProofs [i_l_drawn_results, okT, okO, isO, upO, -List.map_map, s]
end
end Pd

set_option Elab.async false
set_option linter.all false
set_option maxRecDepth 100000
set_option maxHeartbeats 4000000
set_option exponentiation.threshold 1000000
namespace Pd
open PySem
theorem eqv_q (x y : Rat) : PyData.eqv (dQ x) (dQ y) = decide (x = y) := by
  have h : PyData.eqv (dQ x) (dQ y) = (decide (x.num = y.num) && decide (((x.den : Nat) : Int) = ((y.den : Nat) : Int))) := by
    unfold dQ
    simp [PyData.eqv, PyData.eqvAll]
    rfl
  rw [h]
  by_cases e : x = y
  · subst e; simp
  · rw [decide_eq_false e]
    by_cases e1 : x.num = y.num
    · by_cases e2 : x.den = y.den
      · exact absurd (Rat.ext e1 e2) e
      · have : ¬ ((x.den : Nat) : Int) = ((y.den : Nat) : Int) := by omega
        simp [this]
    · simp [e1]
theorem il_neq (x y : Rat) : cop .ne (dQ x) (dQ y) = some (!decide (x = y)) := by
  show dNe _ _ = _
  unfold dNe
  rw [if_pos ⟨rfl, rfl⟩, eqv_q]
theorem il_eqq (x y : Rat) : cop .eq (dQ x) (dQ y) = some (decide (x = y)) := by
  show dEq _ _ = _
  unfold dEq
  rw [if_pos ⟨rfl, rfl⟩, eqv_q]
def sumR : List Rat → Rat
  | [] => 0
  | x :: xs => x + sumR xs
theorem sumR_app : ∀ (xs ys : List Rat), sumR (xs ++ ys) = sumR xs + sumR ys
  | [], ys => by show sumR ys = 0 + sumR ys; grind
  | x :: xs, ys => by
    show x + sumR (xs ++ ys) = x + sumR xs + sumR ys
    rw [sumR_app xs ys]; grind
theorem sumQ_nd {α : Type} (f : α → Rat) : ∀ l : List α, sumQ (l.map fun i => ((f i).num, ((f i).den : Int))) = sumR (l.map f)
  | [] => rfl
  | x :: l => by
    show pq _ + sumQ _ = f x + sumR _
    rw [pq_num_den, sumQ_nd f l]
theorem sumR_add {α : Type} (f g : α → Rat) : ∀ l : List α, sumR (l.map fun i => f i + g i) = sumR (l.map f) + sumR (l.map g)
  | [] => by show (0 : Rat) = 0 + 0; grind
  | x :: l => by
    show f x + g x + sumR _ = f x + sumR _ + (g x + sumR _)
    rw [sumR_add f g l]; grind
theorem sumR_ind (g : List Int) (c : Rat) : ∀ l : List Int, sumR (l.map fun i => if i ∈ g then c else 0) = (((l.filter fun i => decide (i ∈ g)).length : Nat) : Int) * c
  | [] => by show (0 : Rat) = ((0 : Int) : Rat) * c; grind
  | x :: l => by
    show (if x ∈ g then c else 0) + sumR _ = _
    rw [sumR_ind g c l]
    by_cases h : x ∈ g
    · rw [if_pos h, List.filter_cons_of_pos (by simpa using h), List.length_cons, Int.natCast_add, Rat.intCast_add]
      show _ = (_ + ((1 : Int) : Rat)) * c
      have : ((1 : Int) : Rat) = 1 := rfl
      rw [this]; grind
    · rw [if_neg h, List.filter_cons_of_neg (by simpa using h)]
      grind
theorem sumR_zero {α : Type} (f : α → Rat) : ∀ l : List α, (∀ i ∈ l, f i = 0) → sumR (l.map f) = 0
  | [], _ => rfl
  | x :: l, h => by
    show f x + sumR _ = 0
    rw [h x List.mem_cons_self, sumR_zero f l fun i hi => h i (List.mem_cons_of_mem _ hi)]
    grind
theorem sum_grp {m : Nat} {g : List Int} (hn : g.Nodup) (hm : ∀ x ∈ g, 0 ≤ x ∧ x < m) (c : Rat) : sumR ((upto m).map fun i => if i ∈ g then c else 0) = ((g.length : Nat) : Int) * c := by
  rw [sumR_ind, ← (upto_part hn hm).length_eq]
theorem place_out (pl : Int) : ∀ (gs : List (List Int)) (a i : Int), i ∉ gs.flatten → placeQ pl gs a i = 0
  | [], _, _, _ => rfl
  | g :: gs, a, i, h => by
    rw [List.flatten_cons, List.mem_append, not_or] at h
    rw [placeQ, if_neg h.1]
    exact place_out pl gs _ i h.2
def came (gs : List (List Int)) : Int := (gs.map fun g => (g.length : Int)).sum
theorem came_nn : ∀ gs : List (List Int), 0 ≤ came gs
  | [] => Int.le_refl _
  | g :: gs => by
    have := came_nn gs
    unfold came at *
    rw [List.map_cons, List.sum_cons]
    omega
theorem place_sum {m : Nat} (pl : Int) : ∀ (gs : List (List Int)) (a : Int), gs.flatten.Nodup → (∀ x ∈ gs.flatten, 0 ≤ x ∧ x < m) → (∀ g ∈ gs, g ≠ []) → sumR ((upto m).map (placeQ pl gs a)) = ((max 0 (min (pl - a) (came gs)) : Int) : Rat)
  | [], a, _, _, _ => by
    rw [sumR_zero (placeQ pl [] a) _ fun i _ => rfl]
    show (0 : Rat) = ((max 0 (min (pl - a) 0) : Int) : Rat)
    rw [show max 0 (min (pl - a) 0) = 0 by omega]; rfl
  | g :: gs, a, hn, hm, hne => by
    rw [List.flatten_cons] at hn hm
    have hn2 := List.nodup_append.mp hn
    have e : (upto m).map (placeQ pl (g :: gs) a) = (upto m).map fun i => (if i ∈ g then ((inQ pl a g : Int) : Rat) / ((g.length : Int) : Rat) else 0) + placeQ pl gs (a + g.length) i := by
      refine List.map_congr_left fun i _ => ?_
      rw [placeQ]
      by_cases h : i ∈ g
      · rw [if_pos h, if_pos h, place_out pl gs _ i fun h2 => hn2.2.2 i h i h2 rfl]
        grind
      · rw [if_neg h, if_neg h]
        grind
    have hl := glen_pos (hne g List.mem_cons_self)
    rw [e, sumR_add, sum_grp hn2.1 (fun x hx => hm x (List.mem_append.mpr (.inl hx))), place_sum pl gs _ hn2.2.1 (fun x hx => hm x (List.mem_append.mpr (.inr hx))) fun g' h' => hne g' (List.mem_cons_of_mem _ h')]
    have hc := cast_ne hl
    have h0 := came_nn gs
    have ec : came (g :: gs) = g.length + came gs := by unfold came; rw [List.map_cons, List.sum_cons]
    have : (((g.length : Nat) : Int) : Rat) * (((inQ pl a g : Int) : Rat) / ((g.length : Int) : Rat)) = ((inQ pl a g : Int) : Rat) := by grind
    rw [this, ← Rat.intCast_add, ec]
    congr 1
    unfold inQ
    omega
theorem win_sum {m : Nat} {r : Res} (hr : ResOk m r) : sumR ((upto m).map (winQ r)) = ((min (came r.ranks) 1 : Int) : Rat) := by
  have hn := (List.nodup_append.mp hr.nd).2.1
  have hm : ∀ x ∈ r.ranks.flatten, 0 ≤ x ∧ x < m := fun x hx => hr.rg x (List.mem_append.mpr (.inr hx))
  have hk := hr.ks
  obtain ⟨go, ranks⟩ := r
  cases ranks with
  | nil =>
    rw [sumR_zero (winQ ⟨go, []⟩) _ fun i _ => rfl]; rfl
  | cons g gs =>
    simp only [List.flatten_cons] at hn hm
    have hl := glen_pos (hk g List.mem_cons_self).2.1
    have hc := cast_ne hl
    show sumR ((upto m).map fun i => if i ∈ g then ((1 : Int) : Rat) / ((g.length : Int) : Rat) else 0) = _
    rw [sum_grp (List.nodup_append.mp hn).1 (fun x hx => hm x (List.mem_append.mpr (.inl hx)))]
    have h0 := came_nn gs
    have ec : came (g :: gs) = g.length + came gs := by unfold came; rw [List.map_cons, List.sum_cons]
    have : min (came (g :: gs)) 1 = 1 := by omega
    show _ = ((min (came (g :: gs)) 1 : Int) : Rat)
    rw [this]
    have h1 : ((1 : Int) : Rat) = 1 := rfl
    rw [h1]
    grind
theorem place_best (pl : Int) (h1 : 1 ≤ pl) {g : List Int} (gs : List (List Int)) (hg : g ≠ []) (hne : ∀ g ∈ gs, g ≠ []) (i : Int) : placeQ pl (g :: gs) 0 i ≤ ((inQ pl 0 g : Int) : Rat) / ((g.length : Int) : Rat) := by
  have hl := glen_pos hg
  have key : ∀ (gs : List (List Int)) (a : Int), (∀ g ∈ gs, g ≠ []) → (g.length : Int) ≤ a → placeQ pl gs a i ≤ ((inQ pl 0 g : Int) : Rat) / ((g.length : Int) : Rat) := by
    intro gs
    induction gs with
    | nil => exact fun a _ _ => q_nn (by unfold inQ; omega) hl
    | cons g' gs ih =>
      intro a hn ha
      rw [placeQ]
      have hl' := glen_pos (hn g' List.mem_cons_self)
      split
      · rcases Int.lt_or_le pl g.length with q | q
        · have : inQ pl a g' = 0 := by unfold inQ; omega
          rw [this]
          have : ((0 : Int) : Rat) / ((g'.length : Int) : Rat) = 0 := by show (0 : Rat) / _ = 0; grind
          rw [this]
          exact q_nn (by unfold inQ; omega) hl
        · have e : inQ pl 0 g = g.length := by unfold inQ; omega
          have e2 : inQ pl a g' ≤ g'.length := by unfold inQ; omega
          rw [e]
          have h1 := cast_ne hl
          have h3 : ((g.length : Int) : Rat) / ((g.length : Int) : Rat) = 1 := by grind
          rw [h3]
          have p := castpos hl'
          have l : ((inQ pl a g' : Int) : Rat) ≤ ((g'.length : Int) : Rat) := Rat.intCast_le_intCast.mpr e2
          have h4 := cast_ne hl'
          have h5 : ((inQ pl a g' : Int) : Rat) / ((g'.length : Int) : Rat) = 1 - (((g'.length : Int) : Rat) - ((inQ pl a g' : Int) : Rat)) * (((g'.length : Int) : Rat))⁻¹ := by grind
          have h6 : 0 ≤ (((g'.length : Int) : Rat) - ((inQ pl a g' : Int) : Rat)) * (((g'.length : Int) : Rat))⁻¹ := Rat.mul_nonneg (by grind) (Rat.le_of_lt (Rat.inv_pos.mpr p))
          rw [h5]
          grind
      · exact ih _ (fun g h => hn g (List.mem_cons_of_mem _ h)) (by omega)
  rw [placeQ]
  split
  · exact Rat.le_refl
  · exact key gs _ hne (by omega)
theorem win_sz2 {r : Res} (hr : ∀ g ∈ r.ranks, g ≠ [] ∧ g.length ≤ 3) (i : Int) : Szq 2 (winQ r i) := by
  unfold winQ
  split
  · exact szq_0 (by decide)
  · rename_i g gs eg
    have h := hr g (by rw [eg]; exact List.mem_cons_self)
    split
    · exact szq_of (by decide) (by omega) (glen_pos h.1)
    · exact szq_0 (by decide)
theorem place_sz2 (pl : Int) : ∀ (gs : List (List Int)) (ahead i : Int), (∀ g ∈ gs, g ≠ [] ∧ g.length ≤ 3) → Szq 2 (placeQ pl gs ahead i)
  | [], _, _, _ => szq_0 (by decide)
  | g :: gs, ahead, i, h => by
    rw [placeQ]
    have h1 := h g List.mem_cons_self
    split
    · exact szq_of (by unfold inQ; omega) (by omega) (glen_pos h1.1)
    · exact place_sz2 pl gs _ i fun g' h' => h g' (List.mem_cons_of_mem _ h')
end Pd

set_option Elab.async false
set_option linter.all false
set_option maxRecDepth 100000
set_option maxHeartbeats 4000000
set_option exponentiation.threshold 1000000
namespace Pd
open PySem
theorem drawsM_ok {α β : Type} {cl : Cl} {own : List Nat} {tg : Tg} {e : Ir} {c : Nat} (src : α → D) (emb : β → D) (ok : β → Prop) (R : List D → AE) :
    ∀ (xs : List α), (∀ x ∈ xs, ∀ (n : Nat) (t : List D), Tw n t → n + c ≤ 10000000 → ∃ r1 r3 y t', asg tg (src x) (wipeA own (R t)) = some r1 ∧ kFz (ev cl e r1) = some (emb y, r3) ∧ backA own (R t) r3 = R t' ∧ ok y ∧ Tw (n + c) t') →
      ∀ (n : Nat) (t : List D), Tw n t → n + c * xs.length ≤ 10000000 → ∃ (ys : List β) (t' : List D), lcS cl own tg .no e (xs.map src) (R t) = some (ys.map emb, R t') ∧ ys.length = xs.length ∧ (∀ y ∈ ys, ok y) ∧ Tw (n + c * xs.length) t'
  | [], _, n, t, ht, _ => ⟨[], t, rfl, rfl, (fun _ h => by cases h), by simpa using ht⟩
  | d :: ds, hstep, n, t, ht, hn => by
    rw [List.length_cons, Nat.mul_succ] at hn
    obtain ⟨r1, r3, x, t1, h1, h2, h3, h4, h5⟩ := hstep d List.mem_cons_self n t ht (by omega)
    obtain ⟨ys, t2, e1, e2, e3, e4⟩ := drawsM_ok src emb ok R ds (fun x hx => hstep x (List.mem_cons_of_mem _ hx)) (n + c) t1 h5 (by omega)
    refine ⟨x :: ys, t2, ?_, by simp [e2], fun y hy => ?_, e4.mono (by rw [List.length_cons, Nat.mul_succ]; omega)⟩
    · rw [List.map_cons, lc_cons, h1, kL1_s, evC_no, kL2_t, h2, kL3_s, h3, e1, kL4_s]; rfl
    · rcases List.mem_cons.mp hy with rfl | hy
      · exact h4
      · exact e3 y hy
def shQ (p : Int × Int) : Rat := (p.2 : Rat) / ((p.1 + p.2 : Int) : Rat)
theorem sh_pos {p : Int × Int} (h : PrOk p) : 0 < shQ p := by
  obtain ⟨h1, h2, h3, h4, h5⟩ := h
  exact q_pos (by omega) (by omega)
theorem sh_sz {p : Int × Int} (h : PrOk p) : Szq 12 (shQ p) := by
  obtain ⟨h1, h2, h3, h4, h5⟩ := h
  exact szq_of (by omega) (by omega) (by omega)
theorem sh_le {p q : Int × Int} (h : PrOk p) (h' : PrOk q) (l : pq p ≤ pq q) : shQ q ≤ shQ p := by
  obtain ⟨h1, h2, h3, h4, h5⟩ := h
  obtain ⟨g1, g2, g3, g4, g5⟩ := h'
  have a1 := castpos (show 0 < p.1 by omega)
  have a2 := castpos (show 0 < p.2 by omega)
  have b1 := castpos (show 0 < q.1 by omega)
  have b2 := castpos (show 0 < q.2 by omega)
  have c1 := castpos (show 0 < p.1 + p.2 by omega)
  have c2 := castpos (show 0 < q.1 + q.2 by omega)
  have k1 : ((p.1 + p.2 : Int) : Rat) = (p.1 : Rat) + (p.2 : Rat) := Rat.intCast_add ..
  have k2 : ((q.1 + q.2 : Int) : Rat) = (q.1 : Rat) + (q.2 : Rat) := Rat.intCast_add ..
  unfold pq at l
  have l2 : (p.1 : Rat) * (q.2 : Rat) ≤ (q.1 : Rat) * (p.2 : Rat) := by
    refine Rat.not_lt.mp fun h => ?_
    refine Rat.not_lt.mpr l ?_
    rw [Rat.div_lt_iff b2]
    have : (p.1 : Rat) / (p.2 : Rat) * (q.2 : Rat) = ((p.1 : Rat) * (q.2 : Rat)) / (p.2 : Rat) := by rw [Rat.div_def, Rat.div_def]; grind
    rw [this, Rat.lt_div_iff a2]
    exact h
  unfold shQ
  refine Rat.not_lt.mp fun h => ?_
  rw [Rat.div_lt_iff c1] at h
  have : (q.2 : Rat) / ((q.1 + q.2 : Int) : Rat) * ((p.1 + p.2 : Int) : Rat) = ((q.2 : Rat) * ((p.1 + p.2 : Int) : Rat)) / ((q.1 + q.2 : Int) : Rat) := by rw [Rat.div_def, Rat.div_def]; grind
  rw [this, Rat.lt_div_iff c2, k1, k2] at h
  grind
theorem sumR_nn : ∀ l : List Rat, (∀ x ∈ l, 0 ≤ x) → 0 ≤ sumR l
  | [], _ => Rat.le_refl
  | x :: l, h => by
    have h1 := h x List.mem_cons_self
    have h2 := sumR_nn l fun y hy => h y (List.mem_cons_of_mem _ hy)
    show 0 ≤ x + sumR l
    grind
theorem sumR_sz {s : Nat} : ∀ l : List Rat, (∀ x ∈ l, Szq s x) → Szq ((s + 1) * l.length + 1) (sumR l)
  | [], _ => szq_0 (by omega)
  | x :: l, h => by
    have h1 := h x List.mem_cons_self
    have h2 := sumR_sz l fun y hy => h y (List.mem_cons_of_mem _ hy)
    rw [List.length_cons, Nat.mul_succ]
    exact (szq_add h1 h2).mono (by omega)
theorem sumR_le {α : Type} (f g : α → Rat) : ∀ l : List α, (∀ i ∈ l, f i ≤ g i) → sumR (l.map f) ≤ sumR (l.map g)
  | [], _ => Rat.le_refl
  | x :: l, h => by
    have h1 := h x List.mem_cons_self
    have h2 := sumR_le f g l fun y hy => h y (List.mem_cons_of_mem _ hy)
    show f x + sumR _ ≤ g x + sumR _
    grind
theorem sumR_mul {α : Type} (c : Rat) (f : α → Rat) : ∀ l : List α, sumR (l.map fun i => c * f i) = c * sumR (l.map f)
  | [] => by show (0 : Rat) = c * 0; grind
  | x :: l => by
    show c * f x + sumR _ = c * (f x + sumR _)
    rw [sumR_mul c f l]; grind
def hE (es : List Ev) (j : Nat) : Ev := es.getD j ⟨[], 0, 0⟩
def hP (es : List Ev) (j i : Nat) : Int × Int := (hE es j).ps.getD i (1, 1)
structure Hs (m : Nat) (es : List Ev) : Prop where
  l1 : 1 ≤ es.length
  l4 : es.length ≤ 4
  m2 : 2 ≤ m
  m5 : m ≤ 5
  pl : ∀ e ∈ es, e.ps.length = m
  pr : ∀ e ∈ es, ∀ p ∈ e.ps, PrOk p
def bh (es : List Ev) (i : Nat) : Nat → Nat
  | 0 => 0
  | n + 1 => if pq (hP es (bh es i n) i) < pq (hP es (n + 1) i) then n + 1 else bh es i n
theorem bh_le (es : List Ev) (i : Nat) : ∀ n, bh es i n ≤ n
  | 0 => Nat.le_refl _
  | n + 1 => by
    rw [bh]
    have := bh_le es i n
    split <;> omega
theorem bh_max (es : List Ev) (i : Nat) : ∀ n j, j ≤ n → pq (hP es j i) ≤ pq (hP es (bh es i n) i)
  | 0, j, h => by
    have : j = 0 := by omega
    subst this
    exact Rat.le_refl
  | n + 1, j, h => by
    rw [bh]
    split
    · rename_i q
      rcases Nat.lt_or_eq_of_le h with h | rfl
      · exact Rat.le_trans (bh_max es i n j (by omega)) (Rat.le_of_lt q)
      · exact Rat.le_refl
    · rename_i q
      rcases Nat.lt_or_eq_of_le h with h | rfl
      · exact bh_max es i n j (by omega)
      · exact Rat.not_lt.mp q
theorem hE_mem {es : List Ev} {j : Nat} (h : j < es.length) : hE es j ∈ es := by
  unfold hE
  rw [List.getD_eq_getElem?_getD, List.getElem?_eq_getElem h]
  exact List.getElem_mem h
theorem hE_at {es : List Ev} {j : Nat} (h : j < es.length) : L2.atI (es.map dEv) (j : Int) = some (dEv (hE es j)) := by
  rw [ixx_at, if_pos (by omega), List.getElem?_map, Int.toNat_natCast]
  unfold hE
  rw [List.getD_eq_getElem?_getD, List.getElem?_eq_getElem h]; rfl
theorem hP_at {es : List Ev} {j i m : Nat} (hs : Hs m es) (h : j < es.length) (hi : i < m) : L2.atI ((hE es j).ps.map dP) (i : Int) = some (dP (hP es j i)) := by
  have := hs.pl _ (hE_mem h)
  rw [ixx_at, if_pos (by omega), List.getElem?_map, Int.toNat_natCast]
  unfold hP
  rw [List.getD_eq_getElem?_getD, List.getElem?_eq_getElem (by omega)]; rfl
theorem hP_ok {es : List Ev} {j i m : Nat} (hs : Hs m es) (h : j < es.length) (hi : i < m) : PrOk (hP es j i) := by
  have hl := hs.pl _ (hE_mem h)
  refine hs.pr _ (hE_mem h) _ ?_
  unfold hP
  rw [List.getD_eq_getElem?_getD, List.getElem?_eq_getElem (by omega)]
  exact List.getElem_mem _
def bH (es : List Ev) (i : Nat) : Nat := bh es i (es.length - 1)
def bP (es : List Ev) (i : Nat) : Int × Int := hP es (bH es i) i
theorem bH_lt {es : List Ev} {m : Nat} (hs : Hs m es) (i : Nat) : bH es i < es.length := by
  have := bh_le es i (es.length - 1)
  have := hs.l1
  unfold bH; omega
theorem bP_ok {es : List Ev} {i m : Nat} (hs : Hs m es) (hi : i < m) : PrOk (bP es i) := hP_ok hs (bH_lt hs i) hi
def bW (m : Nat) (es : List Ev) : Rat := sumR ((List.range m).map fun i => shQ (bP es i))
theorem bW_pos {es : List Ev} {m : Nat} (hs : Hs m es) : 0 < bW m es := by
  have h2 := hs.m2
  obtain ⟨k, rfl⟩ : ∃ k, m = k + 1 := ⟨m - 1, by omega⟩
  unfold bW
  rw [List.range_succ_eq_map, List.map_cons]
  show 0 < _ + sumR _
  have h0 := sh_pos (bP_ok hs (i := 0) (by omega))
  have h1 := sumR_nn (((List.range k).map Nat.succ).map fun i => shQ (bP es i)) fun x hx => by
    obtain ⟨i, hi, rfl⟩ := List.mem_map.mp hx
    obtain ⟨j, hj, rfl⟩ := List.mem_map.mp hi
    have := List.mem_range.mp hj
    exact Rat.le_of_lt (sh_pos (bP_ok hs (by omega)))
  grind
theorem bW_sz {es : List Ev} {m : Nat} (hs : Hs m es) : Szq 70 (bW m es) := by
  have h5 := hs.m5
  have := sumR_sz (s := 12) ((List.range m).map fun i => shQ (bP es i)) fun x hx => by
    obtain ⟨i, hi, rfl⟩ := List.mem_map.mp hx
    exact sh_sz (bP_ok hs (List.mem_range.mp hi))
  rw [List.length_map, List.length_range] at this
  exact this.mono (by omega)
theorem ft_pre {a : Int} {n : Nat} {pre post : List Int} {x : Int} (h : fromto a n = pre ++ x :: post) : x = a + pre.length ∧ pre.length < n := by
  have hl := congrArg List.length h
  unfold fromto at hl h
  rw [List.length_map, List.length_range, List.length_append, List.length_cons] at hl
  have hg := congrArg (fun l => l[pre.length]?) h
  simp only [List.getElem?_map, List.getElem?_append_right (Nat.le_refl _), Nat.sub_self, List.getElem?_cons_zero] at hg
  rw [List.getElem?_range (by omega)] at hg
  exact ⟨(Option.some.inj hg).symm, by omega⟩
theorem upto_pre {n : Nat} {pre post : List Int} {x : Int} (h : upto n = pre ++ x :: post) : x = pre.length ∧ pre.length < n := by
  have hl := congrArg List.length h
  rw [upto_len, List.length_append, List.length_cons] at hl
  have hg := congrArg (fun l => l[pre.length]?) h
  simp only [List.getElem?_append_right (Nat.le_refl _), Nat.sub_self, List.getElem?_cons_zero] at hg
  rw [upto_at (by omega)] at hg
  exact ⟨(Option.some.inj hg).symm, by omega⟩
section
variable {Φ : Tab} {k : Nat} {ns : List Int} {t : List D} {m : Nat} {es : List Ev}
theorem share_ok [H_share_of Φ] [H_lowest Φ] [H_divisor Φ] {p : Int × Int} (h : PrOk p) (hk : 3 ≤ k) : call Φ k "share_of" [] [] [dP p] = some (.v (dQ (shQ p)), []) := by
  rw [call_p H_share_of.eq (by omega) rfl rfl]
  obtain ⟨h1, h2, h3, h4, h5⟩ := h
  have e := lowest_q (Φ := Φ) (k := k - 1) (a := p.2) (b := p.1 + p.2) (by omega) (by omega) (sz63 (by decide) (by omega)) (by omega)
  have e : call Φ (k - 1) "lowest" [] [] [.int p.2, .int (p.1 + p.2)] = some (.v (dQ (shQ p)), []) := e
  generalize shQ p = W at *
  simp -implicitDefEqProofs [i_share_of, okT, okO, isO, upO, -List.map_map, dP, e]
theorem longer_ok [H_is_longer Φ] [H_is_less Φ] {p q : Int × Int} (h : PrOk p) (h' : PrOk q) (hk : 2 ≤ k) : call Φ k "is_longer" [] [] [dP p, dP q] = some (.v (.bool (decide (pq q < pq p))), []) := by
  rw [call_p H_is_longer.eq (by omega) rfl rfl]
  have e := less_ok (Φ := Φ) (k := k - 1) (pq_sz h') (pq_sz h) (by decide) (by omega)
  rw [← dP_q h', ← dP_q h] at e
  simp -implicitDefEqProofs [i_is_longer, okT, okO, isO, upO, -List.map_map, e]
theorem total_ok [H_total_of Φ] [H_plus Φ] [H_lowest Φ] [H_divisor Φ] {s : Nat} (qs : List Rat) (h0 : ∀ q ∈ qs, 0 ≤ q) (hs : ∀ q ∈ qs, Szq s q) (hz : (s + 1) * (qs.length + 1) + 1 ≤ 9000) (hk : 4 ≤ k) : call Φ k "total_of" [] [] [.list (qs.map dQ)] = some (.v (dQ (sumR qs)), []) := by
  rw [call_p H_total_of.eq (by omega) rfl rfl]
  have h := for_pre (cl := call Φ (k - 1)) (t := (.n 2)) (b := (.cons (.set 1 (.call "plus" (.cons (.nm 1) (.cons (.nm 2) .nil)))) .nil)) dQ (fun pre r => ∃ a2, r = [.val (.list (qs.map dQ)), .val (dQ (sumR pre)), a2]) qs (fun pre x post r hx ⟨a2, h⟩ => by
    subst h
    have hm : x ∈ qs := by rw [hx]; simp
    have hp : ∀ q ∈ pre, q ∈ qs := fun q hq => by rw [hx]; exact List.mem_append.mpr (.inl hq)
    have hl := congrArg List.length hx
    rw [List.length_append, List.length_cons] at hl
    have z := sumR_sz pre fun q hq => hs q (hp q hq)
    have hz2 : (s + 1) * (pre.length + 2) ≤ (s + 1) * (qs.length + 1) := Nat.mul_le_mul_left _ (by omega)
    rw [Nat.mul_add] at hz2
    have e := plus_ok (Φ := Φ) (k := k - 1) (sumR_nn pre fun q hq => h0 q (hp q hq)) (h0 x hm) z (hs x hm) (by omega) (by omega)
    have es : sumR (pre ++ [x]) = sumR pre + x := by
      rw [sumR_app]
      show _ + (x + 0) = _
      grind
    rw [← es] at e
    exact ⟨[.val (.list (qs.map dQ)), .val (dQ (sumR pre)), .val (dQ x)], [.val (.list (qs.map dQ)), .val (dQ (sumR (pre ++ [x]))), .val (dQ x)], by simp -implicitDefEqProofs [okT, okO, isO, upO, -List.map_map], by simp -implicitDefEqProofs [okT, okO, isO, upO, -List.map_map, e], _, rfl⟩)
  obtain ⟨r', s, a2, rfl⟩ := h _ ⟨.no, rfl⟩
  have s : forS (call Φ (k - 1)) (.n 2) (.cons (.set 1 (.call "plus" (.cons (.nm 1) (.cons (.nm 2) .nil)))) .nil) (qs.map dQ) [.val (.list (qs.map dQ)), .val (.tuple [.int 0, .int 1]), .no] = _ := s
  simp -implicitDefEqProofs [i_total_of, okT, okO, isO, upO, -List.map_map, s]
theorem best_ok [H_best_prices Φ] [H_is_longer Φ] [H_is_less Φ] (hs : Hs m es) (hk : 3 ≤ k) : call Φ k "best_prices" [] [] [.tuple (es.map dEv)] = some (.v (.tuple ((List.range m).map fun i => .tuple [dP (bP es i), .int (bH es i : Nat)])), []) := by
  rw [call_p H_best_prices.eq (by omega) rfl rfl]
  have l1 := hs.l1
  have l4 := hs.l4
  have m5 := hs.m5
  have inner : ∀ (i : Nat) (F : List D) (a4 : As), i < m → ∃ b4, forS (call Φ (k - 1)) (.n 4) (.cons (.ifs (.call "is_longer" (.cons (.ix (.ix (.ix (.nm 0) (.nm 4)) (.int 0)) (.nm 2)) (.cons (.ix (.ix (.ix (.nm 0) (.nm 3)) (.int 0)) (.nm 2)) .nil))) (.cons (.set 3 (.nm 4)) .nil) .nil) .nil) ((fromto 1 (es.length - 1)).map PyData.int) [.val (.tuple (es.map dEv)), .own F, .val (.int (i : Nat)), .val (.int 0), a4] = some (.nx [.val (.tuple (es.map dEv)), .own F, .val (.int (i : Nat)), .val (.int (bH es i : Nat)), b4]) := by
    intro i F a4 hi
    have h := for_pre (cl := call Φ (k - 1)) (t := (.n 4)) (b := (.cons (.ifs (.call "is_longer" (.cons (.ix (.ix (.ix (.nm 0) (.nm 4)) (.int 0)) (.nm 2)) (.cons (.ix (.ix (.ix (.nm 0) (.nm 3)) (.int 0)) (.nm 2)) .nil))) (.cons (.set 3 (.nm 4)) .nil) .nil) .nil)) PyData.int (fun pre r => ∃ b4, r = [.val (.tuple (es.map dEv)), .own F, .val (.int (i : Nat)), .val (.int (bh es i pre.length : Nat)), b4]) (fromto 1 (es.length - 1)) (fun pre x post r hx ⟨b4, h⟩ => by
      subst h
      obtain ⟨rfl, hlt⟩ := ft_pre hx
      have hb := bh_le es i pre.length
      have e1 := hE_at (es := es) (j := pre.length + 1) (by omega)
      have e2 := hP_at hs (j := pre.length + 1) (by omega) hi
      have e3 := hE_at (es := es) (j := bh es i pre.length) (by omega)
      have e4 := hP_at hs (j := bh es i pre.length) (by omega) hi
      have f := longer_ok (Φ := Φ) (k := k - 1) (hP_ok hs (j := pre.length + 1) (by omega) hi) (hP_ok hs (j := bh es i pre.length) (by omega) hi) (by omega)
      have ex : (1 : Int) + (pre.length : Nat) = ((pre.length + 1 : Nat) : Int) := by omega
      rw [ex]
      refine ⟨[.val (.tuple (es.map dEv)), .own F, .val (.int (i : Nat)), .val (.int (bh es i pre.length : Nat)), .val (.int ((pre.length + 1 : Nat) : Int))], [.val (.tuple (es.map dEv)), .own F, .val (.int (i : Nat)), .val (.int (bh es i (pre ++ [((pre.length + 1 : Nat) : Int)]).length : Nat)), .val (.int ((pre.length + 1 : Nat) : Int))], by simp -implicitDefEqProofs [okT, okO, isO, upO, -List.map_map], ?_, _, rfl⟩
      rw [show (pre ++ [((pre.length + 1 : Nat) : Int)]).length = pre.length + 1 by simp, bh]
      generalize ((pre.length + 1 : Nat) : Int) = X at *
      generalize hN : bh es i pre.length = N at *
      generalize hM : pre.length + 1 = M at *
      have hX : X = (M : Nat) := by omega
      subst hX
      by_cases q : pq (hP es N i) < pq (hP es M i)
      · simp -implicitDefEqProofs [okT, okO, isO, upO, -List.map_map, e1, e3, dEv, e2, e4, f, q]
      · simp -implicitDefEqProofs [okT, okO, isO, upO, -List.map_map, e1, e3, dEv, e2, e4, f, q])
    obtain ⟨r', s, b4, rfl⟩ := h _ ⟨a4, rfl⟩
    refine ⟨b4, ?_⟩
    have hl : (fromto 1 (es.length - 1)).length = es.length - 1 := by unfold fromto; rw [List.length_map, List.length_range]
    rw [hl] at s
    exact s
  have h := for_pre (cl := call Φ (k - 1)) (t := (.n 2)) (b := (.cons (.set 3 (.int 0)) (.cons (.for_ (.n 4) (.r2 (.int 1) (.bi .len (.nm 0))) (.cons (.ifs (.call "is_longer" (.cons (.ix (.ix (.ix (.nm 0) (.nm 4)) (.int 0)) (.nm 2)) (.cons (.ix (.ix (.ix (.nm 0) (.nm 3)) (.int 0)) (.nm 2)) .nil))) (.cons (.set 3 (.nm 4)) .nil) .nil) .nil)) (.cons (.app 1 (.tup (.cons (.ix (.ix (.ix (.nm 0) (.nm 3)) (.int 0)) (.nm 2)) (.cons (.nm 3) .nil)))) .nil)))) PyData.int (fun pre r => ∃ b2 b3 b4, r = [.val (.tuple (es.map dEv)), .own ((List.range pre.length).map fun i => .tuple [dP (bP es i), .int (bH es i : Nat)]), b2, b3, b4]) (upto m) (fun pre x post r hx ⟨b2, b3, b4, h⟩ => by
    subst h
    obtain ⟨rfl, hlt⟩ := upto_pre hx
    obtain ⟨c4, s⟩ := inner pre.length ((List.range pre.length).map fun i => .tuple [dP (bP es i), .int (bH es i : Nat)]) b4 hlt
    have hb := bH_lt hs pre.length
    have e1 := hE_at (es := es) hb
    have e2 := hP_at hs hb hlt
    have hz : (List.range pre.length).length < lineN := by rw [List.length_range, lineV]; omega
    rw [List.length_range] at hz
    have hr : dRange (.int 1) (.int es.length) = some ((fromto 1 (es.length - 1)).map PyData.int) := by
      rw [dRange_ok (by omega) (by omega) (by omega) (by omega), ft_rg]
      congr 3; omega
    refine ⟨[.val (.tuple (es.map dEv)), .own ((List.range pre.length).map fun i => .tuple [dP (bP es i), .int (bH es i : Nat)]), .val (.int (pre.length : Nat)), b3, b4], [.val (.tuple (es.map dEv)), .own ((List.range (pre ++ [(pre.length : Int)]).length).map fun i => .tuple [dP (bP es i), .int (bH es i : Nat)]), .val (.int (pre.length : Nat)), .val (.int (bH es pre.length : Nat)), c4], by simp -implicitDefEqProofs [okT, okO, isO, upO, -List.map_map], ?_, _, _, _, rfl⟩
    rw [show (pre ++ [((pre.length : Nat) : Int)]).length = pre.length + 1 by simp, List.range_succ, List.map_append]
    generalize hF : (List.range pre.length).map (fun i => PyData.tuple [dP (bP es i), .int (bH es i : Nat)]) = F at *
    have hFl : F.length = pre.length := by rw [← hF, List.length_map, List.length_range]
    have e2 : L2.atI ((hE es (bH es pre.length)).ps.map dP) ((pre.length : Nat) : Int) = some (dP (bP es pre.length)) := e2
    rw [dEv] at e1
    simp -implicitDefEqProofs [okT, okO, isO, upO, -List.map_map, hr, s, e1, e2, dApp, hFl, hz])
  obtain ⟨r', s, b2, b3, b4, rfl⟩ := h _ ⟨.no, .no, .no, rfl⟩
  rw [upto_len] at s
  have e0 := hE_at (es := es) (j := 0) (by omega)
  have hp := hs.pl _ (hE_mem (es := es) (j := 0) (by omega))
  have hr := rg_is (n := m) (by omega)
  simp only [List.length_nil, List.range_zero, List.map_nil] at s
  rw [dEv] at e0
  have e0 : L2.atI (es.map dEv) 0 = _ := e0
  cases es with
  | nil => exact absurd l1 (by decide)
  | cons e es =>
    have hp : e.ps.length = m := hp
    generalize (List.range m).map (fun i => PyData.tuple [dP (bP (e :: es) i), .int (bH (e :: es) i : Nat)]) = F at *
    simp only [List.map_cons, dEv] at s ⊢
    simp -implicitDefEqProofs [i_best_prices, okT, okO, isO, upO, -List.map_map, hp, hr, s]
theorem round_best_ok [H_best_round Φ] [H_best_prices Φ] [H_is_longer Φ] [H_is_less Φ] [H_share_of Φ] [H_lowest Φ] [H_divisor Φ] [H_total_of Φ] [H_plus Φ] (hs : Hs m es) (hk : 5 ≤ k) : call Φ k "best_round" [] [] [.tuple (es.map dEv)] = some (.v (dQ (bW m es)), []) := by
  rw [call_p H_best_round.eq (by omega) rfl rfl]
  have m5 := hs.m5
  have e1 := best_ok (Φ := Φ) (k := k - 1) hs (by omega)
  have lc : lcS (call Φ (k - 1)) [1, 2] (.t2 (.n 1) (.n 2)) .no (.call "share_of" (.cons (.nm 1) .nil)) ((List.range m).map fun i => .tuple [dP (bP es i), .int (bH es i : Nat)]) [.val (.tuple (es.map dEv)), .no, .no] = some ((List.range m).map (fun i => dQ (shQ (bP es i))), [.val (.tuple (es.map dEv)), .no, .no]) := by
    refine lcS_map _ _ _ fun i hi => ⟨[.val (.tuple (es.map dEv)), .val (dP (bP es i)), .val (.int (bH es i : Nat))], [.val (.tuple (es.map dEv)), .val (dP (bP es i)), .val (.int (bH es i : Nat))], [.val (.tuple (es.map dEv)), .val (dP (bP es i)), .val (.int (bH es i : Nat))], by simp -implicitDefEqProofs [okT, okO, isO, upO, -List.map_map, wipeA], by simp -implicitDefEqProofs [okT, okO, isO, upO, -List.map_map], ?_, rfl⟩
    have f := share_ok (Φ := Φ) (k := k - 1) (bP_ok hs (List.mem_range.mp hi)) (by omega)
    simp -implicitDefEqProofs [okT, okO, isO, upO, -List.map_map, f]
  have e2 := total_ok (Φ := Φ) (k := k - 1) (s := 12) ((List.range m).map fun i => shQ (bP es i)) (fun x hx => by
    obtain ⟨i, hi, rfl⟩ := List.mem_map.mp hx
    exact Rat.le_of_lt (sh_pos (bP_ok hs (List.mem_range.mp hi)))) (fun x hx => by
    obtain ⟨i, hi, rfl⟩ := List.mem_map.mp hx
    exact sh_sz (bP_ok hs (List.mem_range.mp hi))) (by rw [List.length_map, List.length_range]; omega) (by omega)
  have ee : ((List.range m).map fun i => shQ (bP es i)).map dQ = (List.range m).map fun i => dQ (shQ (bP es i)) := by rw [List.map_map]; rfl
  rw [ee] at e2
  have hz : ((List.range m).map fun i => PyData.tuple [dP (bP es i), .int (bH es i : Nat)]).length ≤ lineN := by rw [List.length_map, List.length_range]; exact lt_line (by omega)
  have e2 : call Φ (k - 1) "total_of" [] [] [.list ((List.range m).map fun i => dQ (shQ (bP es i)))] = some (.v (dQ (bW m es)), []) := e2
  generalize (List.range m).map (fun i => dQ (shQ (bP es i))) = X at *
  generalize (List.range m).map (fun i => PyData.tuple [dP (bP es i), .int (bH es i : Nat)]) = Y at *
  simp -implicitDefEqProofs [i_best_round, okT, okO, isO, upO, -List.map_map, e1, hz, lc, e2]
end
end Pd

set_option Elab.async false
set_option linter.all false
set_option maxRecDepth 100000
set_option maxHeartbeats 4000000
set_option exponentiation.threshold 1000000
namespace Pd
open PySem
structure Leg where
  ev : Int
  run : Int
  pr : Int × Int
structure Slip where
  legs : List Leg
  sizes : List Int
  stake : Int
  both : Bool
def dLeg (l : Leg) : D := .tuple [.int l.ev, .int l.run, dP l.pr]
def dSlip (s : Slip) : D := .tuple [.tuple (s.legs.map dLeg), dT s.sizes, .int s.stake, .bool s.both]
def hmI (many : Int) : Nat → Int
  | 0 => 1
  | k + 1 => hmI many k * (many - k) / (k + 1)
def ch : Nat → Nat → Nat
  | _, 0 => 1
  | 0, _ + 1 => 0
  | n + 1, k + 1 => ch n k + ch n (k + 1)
theorem hm_ch : ∀ n < 10, ∀ k < 10, hmI (n : Nat) k = (ch n k : Nat) := by decide
theorem hm_bd : ∀ n < 10, ∀ k < 10, 0 ≤ hmI (n : Nat) k ∧ hmI (n : Nat) k ≤ 1000 := by decide
def es : List Rat → Nat → Rat
  | _, 0 => 1
  | [], _ + 1 => 0
  | x :: xs, k + 1 => es xs (k + 1) + x * es xs k
theorem es_0 : ∀ xs : List Rat, es xs 0 = 1
  | [] => rfl
  | _ :: _ => rfl
theorem es_snoc (y : Rat) : ∀ (xs : List Rat) (k : Nat), es (xs ++ [y]) (k + 1) = es xs (k + 1) + es xs k * y
  | [], 0 => by
    show (0 : Rat) + y * 1 = 0 + 1 * y
    grind
  | [], k + 1 => by
    show (0 : Rat) + y * 0 = 0 + 0 * y
    grind
  | x :: xs, 0 => by
    show es (xs ++ [y]) 1 + x * es (xs ++ [y]) 0 = es xs 1 + x * es xs 0 + 1 * y
    rw [es_snoc y xs 0, es_0, es_0]
    grind
  | x :: xs, k + 1 => by
    show es (xs ++ [y]) (k + 2) + x * es (xs ++ [y]) (k + 1) = es xs (k + 2) + x * es xs (k + 1) + (es xs (k + 1) + x * es xs k) * y
    rw [es_snoc y xs (k + 1), es_snoc y xs k]
    grind
theorem es_big : ∀ (xs : List Rat) (k : Nat), xs.length < k → es xs k = 0
  | [], k + 1, _ => rfl
  | x :: xs, k + 1, h => by
    rw [List.length_cons] at h
    show es xs (k + 1) + x * es xs k = 0
    rw [es_big xs (k + 1) (by omega), es_big xs k (by omega)]
    grind
theorem es_nn : ∀ (xs : List Rat) (k : Nat), (∀ x ∈ xs, 0 ≤ x) → 0 ≤ es xs k
  | xs, 0, _ => by rw [es_0]; decide
  | [], k + 1, _ => Rat.le_refl
  | x :: xs, k + 1, h => by
    have h1 := es_nn xs (k + 1) fun y hy => h y (List.mem_cons_of_mem _ hy)
    have h2 := Rat.mul_nonneg (h x List.mem_cons_self) (es_nn xs k fun y hy => h y (List.mem_cons_of_mem _ hy))
    show 0 ≤ es xs (k + 1) + x * es xs k
    grind
def Cq (n : Nat) (d : Int) (q : Rat) : Prop := ∃ a : Int, Sz n a ∧ q = (a : Rat) / (d : Rat)
theorem cq_sz {n : Nat} {d : Int} {q : Rat} (h : Cq n d q) (h0 : 0 < d) (hd : Sz n d) : Szq n q := by
  obtain ⟨a, ha, rfl⟩ := h
  exact szq_div ha hd h0
theorem Cq.mono {n m : Nat} {d : Int} {q : Rat} (h : Cq n d q) (l : n ≤ m) : Cq m d q := by
  obtain ⟨a, ha, e⟩ := h
  exact ⟨a, ha.mono l, e⟩
theorem cq_add {n : Nat} {d : Int} {x y : Rat} (h0 : 0 < d) (hx : Cq n d x) (hy : Cq n d y) : Cq (n + 1) d (x + y) := by
  obtain ⟨a, ha, rfl⟩ := hx
  obtain ⟨b, hb, rfl⟩ := hy
  refine ⟨a + b, ha.add hb, ?_⟩
  have := cast_ne h0
  rw [Rat.intCast_add]
  grind
theorem cq_up {n m : Nat} {d c : Int} {q : Rat} (h0 : 0 < d) (hc0 : 0 < c) (hq : Cq n d q) (hc : Sz m c) : Cq (n + m) (d * c) q := by
  obtain ⟨a, ha, rfl⟩ := hq
  refine ⟨a * c, ha.mul hc, ?_⟩
  have := cast_ne h0
  have := cast_ne hc0
  rw [Rat.intCast_mul, Rat.intCast_mul]
  grind
theorem cq_mul {n m : Nat} {d : Int} {q x : Rat} (h0 : 0 < d) (hq : Cq n d q) (hx : Sz m x.num) : Cq (n + m) (d * ((x.den : Nat) : Int)) (x * q) := by
  obtain ⟨a, ha, rfl⟩ := hq
  refine ⟨a * x.num, ha.mul hx, ?_⟩
  have := cast_ne h0
  have := den_ne x
  have := q_self x
  rw [Rat.intCast_mul, Rat.intCast_mul]
  grind
def dens : List Rat → Int
  | [] => 1
  | x :: xs => dens xs * ((x.den : Nat) : Int)
theorem dens_pos : ∀ xs : List Rat, 0 < dens xs
  | [] => by decide
  | x :: xs => Int.mul_pos (dens_pos xs) (den0 x)
theorem dens_sz {s : Nat} : ∀ xs : List Rat, (∀ x ∈ xs, Szq s x) → Sz (s * xs.length + 1) (dens xs)
  | [], _ => show (1 : Nat) < 2 ^ (0 + 1) by decide
  | x :: xs, h => by
    have h1 := dens_sz xs fun y hy => h y (List.mem_cons_of_mem _ hy)
    have h2 := (h x List.mem_cons_self).2
    rw [List.length_cons, Nat.mul_succ]
    exact (h1.mul h2).mono (by omega)
theorem es_cq {s : Nat} : ∀ (xs : List Rat) (k : Nat), (∀ x ∈ xs, Szq s x) → Cq ((s + 1) * xs.length + 1) (dens xs) (es xs k)
  | [], 0, _ => ⟨1, show (1 : Nat) < 2 ^ (0 + 1) by decide, by show (1 : Rat) = 1 / 1; grind⟩
  | [], k + 1, _ => ⟨0, show (0 : Nat) < 2 ^ (0 + 1) by decide, by show (0 : Rat) = 0 / 1; grind⟩
  | x :: xs, k, h => by
    have hx := h x List.mem_cons_self
    have ih := fun k => es_cq xs k fun y hy => h y (List.mem_cons_of_mem _ hy)
    have p := dens_pos xs
    rw [List.length_cons, Nat.mul_succ]
    cases k with
    | zero =>
      rw [es_0]
      have h0 := ih 0
      rw [es_0] at h0
      exact (cq_up p (den0 x) h0 hx.2).mono (by omega)
    | succ k =>
      have a := cq_up p (den0 x) (ih (k + 1)) hx.2
      have b := cq_mul p (ih k) hx.1
      exact (cq_add (Int.mul_pos p (den0 x)) a b).mono (by omega)
section
variable {Φ : Tab} {k : Nat} {ns : List Int} {t : List D}
theorem how_many_ok [H_how_many Φ] {n : Nat} (hn : n < 10) {c : Nat} (hc : c < 10) (hk : 1 ≤ k) : call Φ k "how_many" [] [] [.int (n : Nat), .int (c : Nat)] = some (.v (.int (hmI (n : Nat) c)), []) := by
  rw [call_p H_how_many.eq (by omega) rfl rfl]
  have h := for_pre (cl := call Φ (k - 1)) (t := (.n 3)) (b := (.cons (.set 2 (.bin .div (.bin .mul (.nm 2) (.bin .sub (.nm 0) (.nm 3))) (.bin .add (.nm 3) (.int 1)))) .nil)) PyData.int (fun pre r => ∃ a3, r = [.val (.int (n : Nat)), .val (.int (c : Nat)), .val (.int (hmI (n : Nat) pre.length)), a3]) (upto c) (fun pre x post r hx ⟨a3, h⟩ => by
    subst h
    obtain ⟨rfl, hlt⟩ := upto_pre hx
    have b := hm_bd n hn pre.length (by omega)
    have m1 := mul_is (i := hmI (n : Nat) pre.length) (j := (n : Nat) - (pre.length : Nat)) (sz63 (by decide) (by omega)) (sz63 (by decide) (by omega))
    have d1 := div_is (i := hmI (n : Nat) pre.length * ((n : Nat) - (pre.length : Nat))) (j := (pre.length : Nat) + 1) (by omega) (.inr (sz63 (by decide) (by omega)))
    refine ⟨[.val (.int (n : Nat)), .val (.int (c : Nat)), .val (.int (hmI (n : Nat) pre.length)), .val (.int (pre.length : Nat))], [.val (.int (n : Nat)), .val (.int (c : Nat)), .val (.int (hmI (n : Nat) (pre ++ [((pre.length : Nat) : Int)]).length)), .val (.int (pre.length : Nat))], by simp -implicitDefEqProofs [okT, okO, isO, upO, -List.map_map], ?_, _, rfl⟩
    rw [show (pre ++ [((pre.length : Nat) : Int)]).length = pre.length + 1 by simp, hmI]
    generalize hmI (n : Nat) pre.length = H at *
    simp -implicitDefEqProofs [okT, okO, isO, upO, -List.map_map, m1, d1])
  obtain ⟨r', s, a3, rfl⟩ := h _ ⟨.no, rfl⟩
  rw [upto_len] at s
  have s : forS (call Φ (k - 1)) (.n 3) (.cons (.set 2 (.bin .div (.bin .mul (.nm 2) (.bin .sub (.nm 0) (.nm 3))) (.bin .add (.nm 3) (.int 1)))) .nil) ((upto c).map PyData.int) [.val (.int (n : Nat)), .val (.int (c : Nat)), .val (.int 1), .no] = _ := s
  have hr := rg_is (n := c) (by omega)
  simp -implicitDefEqProofs [i_how_many, okT, okO, isO, upO, -List.map_map, hr, s]
def rowD (n : Nat) (f : Nat → Rat) : List D := (List.range (n + 1)).map fun k => dQ (f k)
theorem rowD_len (n : Nat) (f : Nat → Rat) : (rowD n f).length = n + 1 := by unfold rowD; rw [List.length_map, List.length_range]
theorem rowD_at {n : Nat} {f : Nat → Rat} {i : Nat} (h : i ≤ n) : L2.atI (rowD n f) (i : Int) = some (dQ (f i)) := by
  unfold rowD
  rw [ixx_at, if_pos (by omega), List.getElem?_map, Int.toNat_natCast, List.getElem?_range (by omega)]; rfl
theorem rowD_put {n : Nat} {f : Nat → Rat} {i : Nat} (h : i ≤ n) (q : Rat) : dPut (rowD n f) (.int (i : Int)) (dQ q) = some (rowD n fun k => if k = i then q else f k) := by
  rw [put_int _ (by omega) (by rw [rowD_len]; omega)]
  congr 1
  unfold rowD
  refine List.ext_getElem (by simp) fun m a b => ?_
  have hm : m < n + 1 := by simpa using b
  rw [List.getElem_set, List.getElem_map, List.getElem_map, List.getElem_range]
  show _ = dQ (if m = i then q else f m)
  by_cases e : i = m
  · rw [if_pos (by omega), if_pos e.symm]
  · have e2 : ¬ m = i := fun h => e h.symm
    rw [if_neg (by omega), if_neg e2]
theorem rowD_ext {n : Nat} {f g : Nat → Rat} (h : ∀ k, k ≤ n → f k = g k) : rowD n f = rowD n g := by
  unfold rowD
  refine List.map_congr_left fun k hk => ?_
  rw [h k (by have := List.mem_range.mp hk; omega)]
def mixF (pre : List Rat) (x : Rat) (j k : Nat) : Rat := if j < k then es (pre ++ [x]) k else es pre k
theorem rgdn_is {n : Nat} (h : n ≤ 1000000) : dRangeDn (.int ((n : Nat) : Int)) (.int 0) = some (rgD (n : Nat) (-1) n) := by
  simp only [dRangeDn]
  rw [if_pos (by omega), Int.sub_zero, Int.toNat_natCast]
theorem together_ok [H_together Φ] [H_plus Φ] [H_lowest Φ] [H_divisor Φ] [H_times Φ] (s : Slip) (fs : List Rat) {z : Nat} (h0 : ∀ x ∈ fs, 0 ≤ x) (hz : ∀ x ∈ fs, Szq z x) (hl : fs.length ≤ 10) (hzl : (z + 1) * fs.length + 20 ≤ 2900) (hs : ∀ c ∈ s.sizes, 0 ≤ c ∧ c ≤ fs.length) (hsl : s.sizes.length ≤ 10) (st0 : 0 ≤ s.stake) (st1 : s.stake ≤ 10000000) (hk : 5 ≤ k) :
    call Φ k "together" [] [] [dSlip s, .list (fs.map dQ)] = some (.v (dQ (sumR (s.sizes.map fun c => es fs c.toNat) * (s.stake : Rat))), []) := by
  rw [call_p H_together.eq (by omega) rfl rfl]
  have nn : ∀ pre : List Rat, (∀ x ∈ pre, x ∈ fs) → ∀ k, 0 ≤ es pre k := fun pre hp k => es_nn pre k fun x hx => h0 x (hp x hx)
  have sz : ∀ pre : List Rat, (∀ x ∈ pre, x ∈ fs) → pre.length ≤ fs.length → ∀ k, Szq ((z + 1) * fs.length + 1) (es pre k) := fun pre hp hlen k => by
    have h1 := es_cq (s := z) pre k fun x hx => hz x (hp x hx)
    have h2 := dens_sz (s := z) pre fun x hx => hz x (hp x hx)
    have h3 : (z + 1) * pre.length ≤ (z + 1) * fs.length := Nat.mul_le_mul_left _ hlen
    have h4 : z * pre.length ≤ (z + 1) * pre.length := Nat.mul_le_mul_right _ (by omega)
    exact cq_sz (h1.mono (by omega)) (dens_pos pre) (h2.mono (by omega))
  have inner : ∀ (pre : List Rat) (x : Rat) (a6 : As), (∀ y ∈ pre, y ∈ fs) → x ∈ fs → pre.length < fs.length → ∀ (j : Nat), j ≤ pre.length + 1 → ∀ a5 : As, ∃ b5, forS (call Φ (k - 1)) (.n 5) (.cons (.put 2 (.nm 5) (.call "plus" (.cons (.ix (.nm 2) (.nm 5)) (.cons (.call "times" (.cons (.ix (.nm 2) (.bin .sub (.nm 5) (.int 1))) (.cons (.nm 4) .nil))) .nil)))) .nil) (rgD (j : Nat) (-1) j) [.val (dSlip s), .val (.list (fs.map dQ)), .own (rowD fs.length (mixF pre x j)), .val (.int (pre.length : Nat)), .val (dQ x), a5, a6] = some (.nx [.val (dSlip s), .val (.list (fs.map dQ)), .own (rowD fs.length (mixF pre x 0)), .val (.int (pre.length : Nat)), .val (dQ x), b5, a6]) := by
    intro pre x a6 hp hx hlt j
    induction j with
    | zero => exact fun _ a5 => ⟨a5, rfl⟩
    | succ j ih =>
      intro hj a5
      obtain ⟨b5, e⟩ := ih (by omega) (.val (.int ((j + 1 : Nat) : Int)))
      have er : rgD ((j + 1 : Nat) : Int) (-1) (j + 1) = .int ((j + 1 : Nat) : Int) :: rgD (j : Nat) (-1) j := by
        unfold rgD
        rw [List.range_succ_eq_map, List.map_cons, List.map_map]
        refine congr (congrArg List.cons ?_) (List.map_congr_left fun i _ => ?_)
        · exact congrArg PyData.int (show ((j + 1 : Nat) : Int) + ((0 : Nat) : Int) * -1 = ((j + 1 : Nat) : Int) by omega)
        · refine congrArg PyData.int ?_
          show ((j + 1 : Nat) : Int) + ((i + 1 : Nat) : Int) * -1 = (j : Int) + (i : Int) * -1
          omega
      refine ⟨b5, ?_⟩
      rw [er, for_cons]
      have r1 := rowD_at (n := fs.length) (f := mixF pre x (j + 1)) (i := j + 1) (by omega)
      have r2 := rowD_at (n := fs.length) (f := mixF pre x (j + 1)) (i := j) (by omega)
      have v1 : mixF pre x (j + 1) (j + 1) = es pre (j + 1) := if_neg (by omega)
      have v2 : mixF pre x (j + 1) j = es pre j := if_neg (by omega)
      rw [v1] at r1
      rw [v2] at r2
      have t1 := times_ok (Φ := Φ) (k := k - 1) (nn pre hp j) (h0 x hx) (sz pre hp (by omega) j) ((hz x hx)) (n := (z + 1) * fs.length + 1) (m := z) (by
        have : z + 1 ≤ (z + 1) * fs.length := Nat.le_mul_of_pos_right _ (by omega)
        omega) (by omega)
      have zz := szq_mul (sz pre hp (by omega) j) (hz x hx)
      have p1 := plus_ok (Φ := Φ) (k := k - 1) (nn pre hp (j + 1)) (Rat.mul_nonneg (nn pre hp j) (h0 x hx)) (sz pre hp (by omega) (j + 1)) zz (by
        have : z + 1 ≤ (z + 1) * fs.length := Nat.le_mul_of_pos_right _ (by omega)
        omega) (by omega)
      rw [← es_snoc] at p1
      have u1 := rowD_put (n := fs.length) (f := mixF pre x (j + 1)) (i := j + 1) (by omega) (es (pre ++ [x]) (j + 1))
      have u2 : rowD fs.length (fun k => if k = j + 1 then es (pre ++ [x]) (j + 1) else mixF pre x (j + 1) k) = rowD fs.length (mixF pre x j) := rowD_ext fun k _ => by
        unfold mixF
        by_cases q : k = j + 1
        · subst q; rw [if_pos rfl, if_pos (by omega)]
        · rw [if_neg q]
          by_cases q2 : j + 1 < k
          · rw [if_pos q2, if_pos (by omega)]
          · rw [if_neg q2, if_neg (by omega)]
      rw [u2] at u1
      have ej : ((j + 1 : Nat) : Int) - 1 = (j : Int) := by omega
      generalize rowD fs.length (mixF pre x (j + 1)) = R1 at *
      generalize rowD fs.length (mixF pre x j) = R0 at *
      generalize es pre j * x = X1 at *
      generalize ((j + 1 : Nat) : Int) = J1 at *
      simp -implicitDefEqProofs [okT, okO, isO, upO, -List.map_map, r1, ej, r2, t1, p1, u1, kF2_n, e]
  have mid := for_pre (cl := call Φ (k - 1)) (t := (.t2 (.n 3) (.n 4))) (b := (.cons (.for_ (.n 5) (.rd (.bin .add (.nm 3) (.int 1)) (.int 0)) (.cons (.put 2 (.nm 5) (.call "plus" (.cons (.ix (.nm 2) (.nm 5)) (.cons (.call "times" (.cons (.ix (.nm 2) (.bin .sub (.nm 5) (.int 1))) (.cons (.nm 4) .nil))) .nil)))) .nil)) .nil)) (fun p : Rat × Nat => .tuple [.int (p.2 : Nat), dQ p.1]) (fun pre r => ∃ a3 a4 a5, r = [.val (dSlip s), .val (.list (fs.map dQ)), .own (rowD fs.length (es (pre.map Prod.fst))), a3, a4, a5, .no]) fs.zipIdx (fun pre x post r hx ⟨a3, a4, a5, h⟩ => by
    subst h
    have hl := congrArg List.length hx
    rw [List.length_zipIdx, List.length_append, List.length_cons] at hl
    have hg := congrArg (fun l => l[pre.length]?) hx
    simp only [List.getElem?_append_right (Nat.le_refl _), Nat.sub_self, List.getElem?_cons_zero, List.getElem?_zipIdx] at hg
    have hmap := congrArg (List.map Prod.fst) hx
    rw [List.zipIdx_map_fst, List.map_append, List.map_cons] at hmap
    have hx2 : x.2 = pre.length := by
      rw [List.getElem?_eq_getElem (by omega)] at hg
      have := Option.some.inj hg
      rw [← this]; simp
    have hxm : x.1 ∈ fs := by rw [hmap]; simp
    have hpm : ∀ y ∈ pre.map Prod.fst, y ∈ fs := fun y hy => by rw [hmap]; exact List.mem_append.mpr (.inl hy)
    have hpl : (pre.map Prod.fst).length = pre.length := List.length_map ..
    obtain ⟨b5, e⟩ := inner (pre.map Prod.fst) x.1 .no hpm hxm (by omega) (pre.length + 1) (by omega) a5
    rw [hpl] at e
    have w1 : rowD fs.length (mixF (pre.map Prod.fst) x.1 (pre.length + 1)) = rowD fs.length (es (pre.map Prod.fst)) := rowD_ext fun k _ => by
      unfold mixF
      by_cases q : pre.length + 1 < k
      · rw [if_pos q, es_big _ _ (by rw [List.length_append, hpl, List.length_singleton]; omega), es_big _ _ (by omega)]
      · rw [if_neg q]
    have w2 : rowD fs.length (mixF (pre.map Prod.fst) x.1 0) = rowD fs.length (es ((pre ++ [x]).map Prod.fst)) := rowD_ext fun k _ => by
      unfold mixF
      by_cases q : 0 < k
      · rw [if_pos q, List.map_append]; rfl
      · have : k = 0 := by omega
        subst this
        rw [if_neg q, es_0, es_0]
    rw [w1, w2] at e
    have hr := rgdn_is (n := pre.length + 1) (by omega)
    have ej : ((pre.length : Nat) : Int) + 1 = ((pre.length + 1 : Nat) : Int) := by omega
    refine ⟨[.val (dSlip s), .val (.list (fs.map dQ)), .own (rowD fs.length (es (pre.map Prod.fst))), .val (.int (pre.length : Nat)), .val (dQ x.1), a5, .no], [.val (dSlip s), .val (.list (fs.map dQ)), .own (rowD fs.length (es ((pre ++ [x]).map Prod.fst))), .val (.int (pre.length : Nat)), .val (dQ x.1), b5, .no], by simp -implicitDefEqProofs [okT, okO, isO, upO, -List.map_map, hx2], ?_, _, _, _, rfl⟩
    generalize rowD fs.length (es (pre.map Prod.fst)) = R1 at *
    generalize rowD fs.length (es ((pre ++ [x]).map Prod.fst)) = R2 at *
    generalize ((pre.length + 1 : Nat) : Int) = J1 at *
    simp -implicitDefEqProofs [okT, okO, isO, upO, -List.map_map, ej, hr, e])
  obtain ⟨r1, e1, a3, a4, a5, rfl⟩ := mid _ ⟨.no, .no, .no, rfl⟩
  rw [List.zipIdx_map_fst] at e1
  have last := for_pre (cl := call Φ (k - 1)) (t := (.n 5)) (b := (.cons (.set 6 (.call "plus" (.cons (.nm 6) (.cons (.ix (.nm 2) (.nm 5)) .nil)))) .nil)) PyData.int (fun pre r => ∃ a5, r = [.val (dSlip s), .val (.list (fs.map dQ)), .own (rowD fs.length (es fs)), a3, a4, a5, .val (dQ (sumR (pre.map fun c => es fs c.toNat)))]) s.sizes (fun pre x post r hx ⟨a5, h⟩ => by
    subst h
    have hxm := hs x (by rw [hx]; simp)
    have hpm : ∀ c ∈ pre, c ∈ s.sizes := fun c hc => by rw [hx]; exact List.mem_append.mpr (.inl hc)
    have hl := congrArg List.length hx
    rw [List.length_append, List.length_cons] at hl
    have r1 := rowD_at (n := fs.length) (f := es fs) (i := x.toNat) (by omega)
    rw [Int.toNat_of_nonneg hxm.1] at r1
    have cq : ∀ l : List Int, Cq ((z + 1) * fs.length + 1 + l.length) (dens fs) (sumR (l.map fun c => es fs c.toNat)) := by
      intro l
      induction l with
      | nil => exact ⟨0, show (0 : Nat) < 2 ^ _ from Nat.two_pow_pos _, by show (0 : Rat) = ((0 : Int) : Rat) / _; rw [show ((0 : Int) : Rat) = 0 from rfl]; grind⟩
      | cons c l ih =>
        have h1 := (es_cq (s := z) fs c.toNat hz).mono (show (z + 1) * fs.length + 1 ≤ (z + 1) * fs.length + 1 + l.length by omega)
        exact (cq_add (dens_pos fs) h1 ih).mono (by rw [List.length_cons]; omega)
    have dz := dens_sz (s := z) fs hz
    have h4 : z * fs.length ≤ (z + 1) * fs.length := Nat.mul_le_mul_right _ (by omega)
    have z1 := cq_sz (cq pre) (dens_pos fs) (dz.mono (by omega))
    have n1 := sumR_nn (pre.map fun c => es fs c.toNat) fun q hq => by
      obtain ⟨c, _, rfl⟩ := List.mem_map.mp hq
      exact nn fs (fun _ h => h) _
    have p1 := plus_ok (Φ := Φ) (k := k - 1) n1 (nn fs (fun _ h => h) x.toNat) z1 (sz fs (fun _ h => h) (Nat.le_refl _) x.toNat) (by omega) (by omega)
    have es' : sumR ((pre ++ [x]).map fun c => es fs c.toNat) = sumR (pre.map fun c => es fs c.toNat) + es fs x.toNat := by
      rw [List.map_append, sumR_app]
      show _ + (_ + 0) = _
      grind
    rw [← es'] at p1
    refine ⟨[.val (dSlip s), .val (.list (fs.map dQ)), .own (rowD fs.length (es fs)), a3, a4, .val (.int x), .val (dQ (sumR (pre.map fun c => es fs c.toNat)))], [.val (dSlip s), .val (.list (fs.map dQ)), .own (rowD fs.length (es fs)), a3, a4, .val (.int x), .val (dQ (sumR ((pre ++ [x]).map fun c => es fs c.toNat)))], by simp -implicitDefEqProofs [okT, okO, isO, upO, -List.map_map], ?_, _, rfl⟩
    generalize rowD fs.length (es fs) = R1 at *
    simp -implicitDefEqProofs [okT, okO, isO, upO, -List.map_map, r1, p1])
  obtain ⟨r2, e2, b5, rfl⟩ := last _ ⟨a5, rfl⟩
  have hrow : ([PyData.tuple [.int 1, .int 1]] : List D) ++ (List.replicate fs.length [PyData.tuple [.int 0, .int 1]]).flatten = rowD fs.length (es []) := by
    unfold rowD
    rw [List.range_succ_eq_map, List.map_cons, List.map_map]
    have : ∀ n : Nat, (List.replicate n [PyData.tuple [.int 0, .int 1]]).flatten = (List.range n).map ((fun k => dQ (es [] k)) ∘ Nat.succ) := by
      intro n
      induction n with
      | zero => rfl
      | succ n ih =>
        rw [List.range_succ, List.map_append, ← ih, List.replicate_succ', List.flatten_append]
        rfl
    rw [this]; rfl
  have b1 : bop .mul (.list [PyData.tuple [.int 0, .int 1]]) (.int fs.length) = some (.f (List.replicate fs.length [PyData.tuple [.int 0, .int 1]]).flatten) := by
    rw [bop_rep, if_pos ⟨by omega, by omega, by decide⟩, Int.toNat_natCast]
  have hfl : (List.replicate fs.length [PyData.tuple [.int 0, .int 1]]).flatten.length = fs.length := by simp
  have b2 : bop .add (.list [PyData.tuple [.int 1, .int 1]]) (.list (List.replicate fs.length [PyData.tuple [.int 0, .int 1]]).flatten) = some (.f (rowD fs.length (es []))) := by
    rw [bop_lst, hfl, if_pos (by rw [lineV, List.length_singleton]; omega), hrow]
  have cq : ∀ l : List Int, Cq ((z + 1) * fs.length + 1 + l.length) (dens fs) (sumR (l.map fun c => es fs c.toNat)) := by
    intro l
    induction l with
    | nil => exact ⟨0, show (0 : Nat) < 2 ^ _ from Nat.two_pow_pos _, by show (0 : Rat) = ((0 : Int) : Rat) / _; rw [show ((0 : Int) : Rat) = 0 from rfl]; grind⟩
    | cons c l ih =>
      have h1 := (es_cq (s := z) fs c.toNat hz).mono (show (z + 1) * fs.length + 1 ≤ (z + 1) * fs.length + 1 + l.length by omega)
      exact (cq_add (dens_pos fs) h1 ih).mono (by rw [List.length_cons]; omega)
  have dz := dens_sz (s := z) fs hz
  have h4 : z * fs.length ≤ (z + 1) * fs.length := Nat.mul_le_mul_right _ (by omega)
  have z1 := cq_sz (cq s.sizes) (dens_pos fs) (dz.mono (by omega))
  have n1 := sumR_nn (s.sizes.map fun c => es fs c.toNat) fun q hq => by
    obtain ⟨c, _, rfl⟩ := List.mem_map.mp hq
    exact nn fs (fun _ h => h) _
  have sz1 : Szq 30 (s.stake : Rat) := ⟨by rw [Rat.num_intCast]; exact Sz.of (by omega), by rw [Rat.den_intCast]; exact Sz.of (by decide)⟩
  have t1 := times_ok (Φ := Φ) (k := k - 1) n1 (castnn st0) z1 sz1 (by omega) (by omega)
  rw [dQ_int] at t1
  have hen : enumD 0 (fs.map dQ) = fs.zipIdx.map fun p => .tuple [.int (p.2 : Nat), dQ p.1] := enum_zip dQ fs 0
  simp only [List.map_nil] at e1
  have e2 : forS (call Φ (k - 1)) (.n 5) (.cons (.set 6 (.call "plus" (.cons (.nm 6) (.cons (.ix (.nm 2) (.nm 5)) .nil)))) .nil) (s.sizes.map PyData.int) [.val (dSlip s), .val (.list (fs.map dQ)), .own (rowD fs.length (es fs)), a3, a4, a5, .val (.tuple [.int 0, .int 1])] = _ := e2
  generalize rowD fs.length (es []) = R0 at *
  generalize rowD fs.length (es fs) = R1 at *
  generalize (List.replicate fs.length [PyData.tuple [.int 0, .int 1]]).flatten = RR at *
  simp only [dSlip, dT] at e1 e2 ⊢
  simp -implicitDefEqProofs [i_together, okT, okO, isO, upO, -List.map_map, b1, b2, hen, e1, e2, t1]
end
end Pd

set_option Elab.async false
set_option linter.all false
set_option maxRecDepth 100000
set_option maxHeartbeats 4000000
set_option exponentiation.threshold 1000000
namespace Pd
open PySem
theorem ne_oq0 (o : Option Rat) : cop .ne (dOQ o) (.tuple [.int 0, .int 1]) = some (!decide (o = some 0)) := by
  cases o with
  | none => rfl
  | some q =>
    have := il_neq q 0
    rw [dQ_0] at this
    show cop .ne (dQ q) _ = _
    rw [this]
    congr 2
    simp
def hmS (n : Nat) (sizes : List Int) : Int := (sizes.map fun c => hmI (n : Nat) c.toNat).sum
def leftF (fs : List (Option Rat)) : List (Option Rat) := fs.filter fun o => !decide (o = some 0)
def endedF (fs : List (Option Rat)) : List (Option Rat) := (leftF fs).filter fun o => o.isSome
section
variable {Φ : Tab} {k : Nat} {ns : List Int} {t : List D}
theorem times_of_ok [H_times_of Φ] (s : Slip) (hk : 1 ≤ k) : call Φ k "times_of" [] [] [dSlip s] = some (.v (.int (if s.both = true then 2 else 1)), []) := by
  rw [call_p H_times_of.eq (by omega) rfl rfl]
  cases h : s.both <;> simp -implicitDefEqProofs [i_times_of, okT, okO, isO, upO, -List.map_map, dSlip, h]
def sidesOf (s : Slip) : List Bool := if s.both = true then [false, true] else [false]
theorem sides_ok [H_sides Φ] (s : Slip) (hk : 1 ≤ k) : call Φ k "sides" [] [] [dSlip s] = some (.v (.tuple ((sidesOf s).map PyData.bool)), []) := by
  rw [call_p H_sides.eq (by omega) rfl rfl]
  cases h : s.both <;> simp -implicitDefEqProofs [i_sides, okT, okO, isO, upO, -List.map_map, dSlip, h, sidesOf]
theorem line_count_ok [H_line_count Φ] [H_how_many Φ] [H_times_of Φ] (s : Slip) (hl : s.legs.length < 10) (hs : ∀ c ∈ s.sizes, 0 ≤ c ∧ c < 10) (hn : s.sizes.length ≤ 10) (hk : 2 ≤ k) : call Φ k "line_count" [] [] [dSlip s] = some (.v (.int ((if s.both = true then 2 else 1) * hmS s.legs.length s.sizes)), []) := by
  rw [call_p H_line_count.eq (by omega) rfl rfl]
  have e1 := times_of_ok (Φ := Φ) (k := k - 1) s (by omega)
  have lc : lcS (call Φ (k - 1)) [1] (.n 1) .no (.call "how_many" (.cons (.bi .len (.ix (.nm 0) (.int 0))) (.cons (.nm 1) .nil))) (s.sizes.map PyData.int) [.val (dSlip s), .no] = some (s.sizes.map (fun c => .int (hmI (s.legs.length : Nat) c.toNat)), [.val (dSlip s), .no]) := by
    refine lcS_map _ _ _ fun c hc => ⟨[.val (dSlip s), .val (.int c)], [.val (dSlip s), .val (.int c)], [.val (dSlip s), .val (.int c)], by simp -implicitDefEqProofs [okT, okO, isO, upO, -List.map_map, wipeA], by simp -implicitDefEqProofs [okT, okO, isO, upO, -List.map_map], ?_, rfl⟩
    have h := hs c hc
    have f := how_many_ok (Φ := Φ) (k := k - 1) hl (c := c.toNat) (by omega) (by omega)
    rw [Int.toNat_of_nonneg h.1] at f
    simp -implicitDefEqProofs [okT, okO, isO, upO, -List.map_map, dSlip, f]
  have ec : s.sizes.map (fun c => PyData.int (hmI (s.legs.length : Nat) c.toNat)) = (s.sizes.map fun c => hmI (s.legs.length : Nat) c.toNat).map PyData.int := by rw [List.map_map]; rfl
  rw [ec] at lc
  have hz : s.sizes.length ≤ lineN := lt_line (by omega)
  have hb := sum_bd (B := 1000) (l := s.sizes.map fun c => hmI (s.legs.length : Nat) c.toNat) fun x hx => by
    obtain ⟨c, hc, rfl⟩ := List.mem_map.mp hx
    exact hm_bd _ hl _ (by have := hs c hc; omega)
  rw [List.length_map] at hb
  have m1 := mul_is (i := if s.both = true then 2 else 1) (j := (s.sizes.map fun c => hmI (s.legs.length : Nat) c.toNat).sum) (sz63 (by decide) (by split <;> omega)) (sz63 (by decide) (by omega))
  unfold hmS
  generalize (if s.both = true then (2 : Int) else 1) = T at *
  simp only [dSlip, dT] at lc e1 ⊢
  simp -implicitDefEqProofs [i_line_count, okT, okO, isO, upO, -List.map_map, e1, hz, lc, m1]
theorem counted_ok [H_counted Φ] [H_how_many Φ] (s : Slip) (fs : List (Option Rat)) (hl : fs.length < 10) (hs : ∀ c ∈ s.sizes, 0 ≤ c ∧ c < 10) (hn : s.sizes.length ≤ 10) (hk : 2 ≤ k) : call Φ k "counted" [] [] [dSlip s, .list (fs.map dOQ)] = some (.v (dT [hmS fs.length s.sizes - hmS (leftF fs).length s.sizes, hmS (leftF fs).length s.sizes - hmS (endedF fs).length s.sizes, hmS (endedF fs).length s.sizes]), []) := by
  rw [call_p H_counted.eq (by omega) rfl rfl]
  have l1 : (leftF fs).length ≤ fs.length := List.length_filter_le ..
  have l2 : (endedF fs).length ≤ (leftF fs).length := List.length_filter_le ..
  have hz : s.sizes.length ≤ lineN := lt_line (by omega)
  have hz1 : fs.length ≤ lineN := lt_line (by omega)
  have hz2 : (leftF fs).length ≤ lineN := lt_line (by omega)
  have lcL : lcS (call Φ (k - 1)) [3] (.n 3) (.yes (.cmp .ne (.nm 3) (.tup (.cons (.int 0) (.cons (.int 1) .nil))))) (.nm 3) (fs.map dOQ) [.val (dSlip s), .val (.list (fs.map dOQ)), .no, .no, .no, .no, .no, .no] = some ((leftF fs).map dOQ, [.val (dSlip s), .val (.list (fs.map dOQ)), .no, .no, .no, .no, .no, .no]) := by
    refine lcS_filter _ _ _ _ fun o ho => ⟨[.val (dSlip s), .val (.list (fs.map dOQ)), .no, .val (dOQ o), .no, .no, .no, .no], [.val (dSlip s), .val (.list (fs.map dOQ)), .no, .val (dOQ o), .no, .no, .no, .no], by simp -implicitDefEqProofs [okT, okO, isO, upO, -List.map_map, wipeA], by simp -implicitDefEqProofs [okT, okO, isO, upO, -List.map_map, ne_oq0], fun _ => ⟨[.val (dSlip s), .val (.list (fs.map dOQ)), .no, .val (dOQ o), .no, .no, .no, .no], by simp -implicitDefEqProofs [okT, okO, isO, upO, -List.map_map], rfl⟩, fun _ => rfl⟩
  have lcE : lcS (call Φ (k - 1)) [3] (.n 3) (.yes (.cmp .isnot (.nm 3) .non)) (.nm 3) ((leftF fs).map dOQ) [.val (dSlip s), .val (.list (fs.map dOQ)), .val (.list ((leftF fs).map dOQ)), .no, .no, .no, .no, .no] = some ((endedF fs).map dOQ, [.val (dSlip s), .val (.list (fs.map dOQ)), .val (.list ((leftF fs).map dOQ)), .no, .no, .no, .no, .no]) := by
    refine lcS_filter _ _ _ _ fun o ho => ⟨[.val (dSlip s), .val (.list (fs.map dOQ)), .val (.list ((leftF fs).map dOQ)), .val (dOQ o), .no, .no, .no, .no], [.val (dSlip s), .val (.list (fs.map dOQ)), .val (.list ((leftF fs).map dOQ)), .val (dOQ o), .no, .no, .no, .no], by simp -implicitDefEqProofs [okT, okO, isO, upO, -List.map_map, wipeA], ?_, fun _ => ⟨[.val (dSlip s), .val (.list (fs.map dOQ)), .val (.list ((leftF fs).map dOQ)), .val (dOQ o), .no, .no, .no, .no], by simp -implicitDefEqProofs [okT, okO, isO, upO, -List.map_map], rfl⟩, fun _ => rfl⟩
    cases o <;> simp -implicitDefEqProofs [okT, okO, isO, upO, -List.map_map, dOQ, dQ]
  have sums : ∀ (n : Nat) (hn : n < 10) (e : Ir) (r : AE) (hr : ∀ c ∈ s.sizes, ∃ r1 r3, asg (.n 6) (.int c) (wipeA [6] r) = some r1 ∧ kFz (ev (call Φ (k - 1)) e r1) = kFz (some (.v (.int (hmI (n : Nat) c.toNat)), r3)) ∧ backA [6] r r3 = r), lcS (call Φ (k - 1)) [6] (.n 6) .no e (s.sizes.map PyData.int) r = some ((s.sizes.map fun c => hmI (n : Nat) c.toNat).map PyData.int, r) := by
    intro n hn e r hr
    rw [List.map_map]
    refine lcS_map PyData.int _ _ fun c hc => ?_
    obtain ⟨r1, r3, h1, h2, h3⟩ := hr c hc
    exact ⟨r1, r1, r3, h1, evC_no, h2, h3⟩
  have hm : ∀ (n : Nat) (hn : n < 10) c, c ∈ s.sizes → call Φ (k - 1) "how_many" [] [] [.int (n : Nat), .int c] = some (.v (.int (hmI (n : Nat) c.toNat)), []) := by
    intro n hn c hc
    have h := hs c hc
    have f := how_many_ok (Φ := Φ) (k := k - 1) hn (c := c.toNat) (by omega) (by omega)
    rw [Int.toNat_of_nonneg h.1] at f
    exact f
  have q1 := sums (leftF fs).length (by omega) (.call "how_many" (.cons (.bi .len (.nm 2)) (.cons (.nm 6) .nil))) [.val (dSlip s), .val (.list (fs.map dOQ)), .val (.list ((leftF fs).map dOQ)), .no, .own ((endedF fs).map dOQ), .no, .no, .no] fun c hc => ⟨[.val (dSlip s), .val (.list (fs.map dOQ)), .val (.list ((leftF fs).map dOQ)), .no, .own ((endedF fs).map dOQ), .no, .val (.int c), .no], [.val (dSlip s), .val (.list (fs.map dOQ)), .val (.list ((leftF fs).map dOQ)), .no, .own ((endedF fs).map dOQ), .no, .val (.int c), .no], by simp -implicitDefEqProofs [okT, okO, isO, upO, -List.map_map, wipeA], by simp -implicitDefEqProofs [okT, okO, isO, upO, -List.map_map, hm (leftF fs).length (by omega) c hc], rfl⟩
  have q2 := sums (endedF fs).length (by omega) (.call "how_many" (.cons (.bi .len (.nm 4)) (.cons (.nm 6) .nil))) [.val (dSlip s), .val (.list (fs.map dOQ)), .val (.list ((leftF fs).map dOQ)), .no, .own ((endedF fs).map dOQ), .val (.int (hmS (leftF fs).length s.sizes)), .no, .no] fun c hc => ⟨[.val (dSlip s), .val (.list (fs.map dOQ)), .val (.list ((leftF fs).map dOQ)), .no, .own ((endedF fs).map dOQ), .val (.int (hmS (leftF fs).length s.sizes)), .val (.int c), .no], [.val (dSlip s), .val (.list (fs.map dOQ)), .val (.list ((leftF fs).map dOQ)), .no, .own ((endedF fs).map dOQ), .val (.int (hmS (leftF fs).length s.sizes)), .val (.int c), .no], by simp -implicitDefEqProofs [okT, okO, isO, upO, -List.map_map, wipeA], by simp -implicitDefEqProofs [okT, okO, isO, upO, -List.map_map, hm (endedF fs).length (by omega) c hc], rfl⟩
  have q3 := sums fs.length hl (.call "how_many" (.cons (.bi .len (.nm 1)) (.cons (.nm 6) .nil))) [.val (dSlip s), .val (.list (fs.map dOQ)), .val (.list ((leftF fs).map dOQ)), .no, .own ((endedF fs).map dOQ), .val (.int (hmS (leftF fs).length s.sizes)), .no, .val (.int (hmS (endedF fs).length s.sizes))] fun c hc => ⟨[.val (dSlip s), .val (.list (fs.map dOQ)), .val (.list ((leftF fs).map dOQ)), .no, .own ((endedF fs).map dOQ), .val (.int (hmS (leftF fs).length s.sizes)), .val (.int c), .val (.int (hmS (endedF fs).length s.sizes))], [.val (dSlip s), .val (.list (fs.map dOQ)), .val (.list ((leftF fs).map dOQ)), .no, .own ((endedF fs).map dOQ), .val (.int (hmS (leftF fs).length s.sizes)), .val (.int c), .val (.int (hmS (endedF fs).length s.sizes))], by simp -implicitDefEqProofs [okT, okO, isO, upO, -List.map_map, wipeA], by simp -implicitDefEqProofs [okT, okO, isO, upO, -List.map_map, hm fs.length hl c hc], rfl⟩
  have s0 : exS (call Φ (k - 1)) (.set 2 (.lc [3] (.n 3) (.e (.nm 1)) (.yes (.cmp .ne (.nm 3) (.tup (.cons (.int 0) (.cons (.int 1) .nil))))) (.nm 3))) [.val (dSlip s), .val (.list (fs.map dOQ)), .no, .no, .no, .no, .no, .no] = some (.nx [.val (dSlip s), .val (.list (fs.map dOQ)), .own ((leftF fs).map dOQ), .no, .no, .no, .no, .no]) := by
    simp -implicitDefEqProofs [okT, okO, isO, upO, -List.map_map, hz1, lcL]
  have s1 : exS (call Φ (k - 1)) (.set 4 (.lc [3] (.n 3) (.e (.nm 2)) (.yes (.cmp .isnot (.nm 3) .non)) (.nm 3))) [.val (dSlip s), .val (.list (fs.map dOQ)), .own ((leftF fs).map dOQ), .no, .no, .no, .no, .no] = some (.nx [.val (dSlip s), .val (.list (fs.map dOQ)), .val (.list ((leftF fs).map dOQ)), .no, .own ((endedF fs).map dOQ), .no, .no, .no]) := by
    simp -implicitDefEqProofs [okT, okO, isO, upO, -List.map_map, hz2, lcE]
  have s2 : exS (call Φ (k - 1)) (.set 5 (.bi .sum (.lc [6] (.n 6) (.e (.ix (.nm 0) (.int 1))) .no (.call "how_many" (.cons (.bi .len (.nm 2)) (.cons (.nm 6) .nil)))))) [.val (dSlip s), .val (.list (fs.map dOQ)), .val (.list ((leftF fs).map dOQ)), .no, .own ((endedF fs).map dOQ), .no, .no, .no] = some (.nx [.val (dSlip s), .val (.list (fs.map dOQ)), .val (.list ((leftF fs).map dOQ)), .no, .own ((endedF fs).map dOQ), .val (.int (hmS (leftF fs).length s.sizes)), .no, .no]) := by
    simp only [dSlip, dT] at q1 ⊢
    simp -implicitDefEqProofs [okT, okO, isO, upO, -List.map_map, hz, q1, hmS]
  have s3 : exS (call Φ (k - 1)) (.set 7 (.bi .sum (.lc [6] (.n 6) (.e (.ix (.nm 0) (.int 1))) .no (.call "how_many" (.cons (.bi .len (.nm 4)) (.cons (.nm 6) .nil)))))) [.val (dSlip s), .val (.list (fs.map dOQ)), .val (.list ((leftF fs).map dOQ)), .no, .own ((endedF fs).map dOQ), .val (.int (hmS (leftF fs).length s.sizes)), .no, .no] = some (.nx [.val (dSlip s), .val (.list (fs.map dOQ)), .val (.list ((leftF fs).map dOQ)), .no, .own ((endedF fs).map dOQ), .val (.int (hmS (leftF fs).length s.sizes)), .no, .val (.int (hmS (endedF fs).length s.sizes))]) := by
    generalize hmS (leftF fs).length s.sizes = X at q2 ⊢
    simp only [dSlip, dT] at q2 ⊢
    simp -implicitDefEqProofs [okT, okO, isO, upO, -List.map_map, hz, q2, hmS]
  have s4 : exS (call Φ (k - 1)) (.ret (.tup (.cons (.bin .sub (.bi .sum (.lc [6] (.n 6) (.e (.ix (.nm 0) (.int 1))) .no (.call "how_many" (.cons (.bi .len (.nm 1)) (.cons (.nm 6) .nil))))) (.nm 5)) (.cons (.bin .sub (.nm 5) (.nm 7)) (.cons (.nm 7) .nil))))) [.val (dSlip s), .val (.list (fs.map dOQ)), .val (.list ((leftF fs).map dOQ)), .no, .own ((endedF fs).map dOQ), .val (.int (hmS (leftF fs).length s.sizes)), .no, .val (.int (hmS (endedF fs).length s.sizes))] = some (.rt (.v (dT [hmS fs.length s.sizes - hmS (leftF fs).length s.sizes, hmS (leftF fs).length s.sizes - hmS (endedF fs).length s.sizes, hmS (endedF fs).length s.sizes])) [.val (dSlip s), .val (.list (fs.map dOQ)), .val (.list ((leftF fs).map dOQ)), .no, .own ((endedF fs).map dOQ), .val (.int (hmS (leftF fs).length s.sizes)), .no, .val (.int (hmS (endedF fs).length s.sizes))]) := by
    generalize hmS (leftF fs).length s.sizes = X at *
    generalize hmS (endedF fs).length s.sizes = Y at *
    simp only [dSlip, dT] at q3 ⊢
    simp -implicitDefEqProofs [okT, okO, isO, upO, -List.map_map, hz, q3, hmS]
  simp [i_counted, exSs_cons, s0, s1, s2, s3, s4]
structure SlipOk (c : List Ev) (s : Slip) : Prop where
  l1 : 1 ≤ s.legs.length
  l9 : s.legs.length < 10
  lg : ∀ l ∈ s.legs, 0 ≤ l.ev ∧ l.ev < c.length ∧ PrOk l.pr
  ss : ∀ x ∈ s.sizes, 1 ≤ x ∧ x ≤ s.legs.length
  sl : s.sizes.length ≤ 10
  s1 : 1 ≤ s.stake
  s2 : s.stake ≤ 1000000
def dOs (os : List (Option Res)) : D := .tuple (os.map dOR)
def dCard (c : List Ev) : D := .tuple (c.map dEv)
def facL (c : List Ev) (os : List (Option Res)) (placed : Bool) (l : Leg) : Option Rat := facQ (hE c l.ev.toNat) (os.getD l.ev.toNat none) l.run l.pr placed
def cntL (s : Slip) (fs : List (Option Rat)) : List Int := [hmS fs.length s.sizes - hmS (leftF fs).length s.sizes, hmS (leftF fs).length s.sizes - hmS (endedF fs).length s.sizes, hmS (endedF fs).length s.sizes]
theorem facL_ok [H_factor Φ] [H_back_of Φ] [H_lowest Φ] [H_divisor Φ] [H_place_back Φ] [H_place_share Φ] [H_times Φ] [H_win_share Φ] {c : List Ev} {os : List (Option Res)} {M most : Nat} (hf : Fits M c os) (hc : ∀ e ∈ c, EvOk most e) {s : Slip} (hs : SlipOk c s) {l : Leg} (hl : l ∈ s.legs) (placed : Bool) (hk : 4 ≤ k) :
    call Φ k "factor" [] [] [dCard c, dLeg l, dOs os, .bool placed] = some (.v (dOQ (facL c os placed l)), []) := by
  obtain ⟨h0, h1, hp⟩ := hs.lg l hl
  have he : c[l.ev.toNat]? = some (hE c l.ev.toNat) := by
    unfold hE
    rw [List.getD_eq_getElem?_getD, List.getElem?_eq_getElem (by omega)]; rfl
  have hlen := hf.len
  have ho : os[l.ev.toNat]? = some (os.getD l.ev.toNat none) := by
    rw [List.getD_eq_getElem?_getD, List.getElem?_eq_getElem (by omega)]; rfl
  exact factor_ok (Φ := Φ) c os h0 h1 (by omega) he ho (m := (hE c l.ev.toNat).ps.length) (fun r hr => (hf.ok _ _ _ he ho r hr).1) (hc _ (List.mem_of_getElem? he)) l.run hp placed hk
theorem hmS_bd {n : Nat} (hn : n < 10) {l : List Int} (hl : ∀ c ∈ l, 0 ≤ c ∧ c < 10) (hz : l.length ≤ 10) : 0 ≤ hmS n l ∧ hmS n l ≤ 10000 := by
  have h := sum_bd (B := 1000) (l := l.map fun c => hmI (n : Nat) c.toNat) fun x hx => by
    obtain ⟨c, hc, rfl⟩ := List.mem_map.mp hx
    exact hm_bd _ hn _ (by have := hl c hc; omega)
  rw [List.length_map] at h
  unfold hmS
  omega
theorem standing_body [H_standing Φ] [H_counted Φ] [H_how_many Φ] [H_factor Φ] [H_back_of Φ] [H_lowest Φ] [H_divisor Φ] [H_place_back Φ] [H_place_share Φ] [H_times Φ] [H_win_share Φ] [H_sides Φ] {c : List Ev} {os : List (Option Res)} {M most : Nat} (hf : Fits M c os) (hc : ∀ e ∈ c, EvOk most e) {s : Slip} (hs : SlipOk c s) (placed : Bool) (x y w : Int) (a4 a5 : As) (hk : 4 ≤ k) :
    ∃ b5, exSs (call Φ k) (.cons (.set 5 (.call "counted" (.cons (.nm 1) (.cons (.lc [6] (.n 6) (.e (.ix (.nm 1) (.int 0))) .no (.call "factor" (.cons (.nm 0) (.cons (.nm 6) (.cons (.nm 2) (.cons (.nm 4) .nil)))))) .nil)))) (.cons (.set 3 (.bi .tup (.lc [7, 8] (.t2 (.n 7) (.n 8)) (.zip (.nm 3) (.nm 5)) .no (.bin .add (.nm 7) (.nm 8))))) .nil)) [.val (dCard c), .val (dSlip s), .val (dOs os), .val (dT [x, y, w]), .val (.bool placed), a5, .no, .no, .no] = some (.nx [.val (dCard c), .val (dSlip s), .val (dOs os), .val (dT [x + (hmS s.legs.length s.sizes - hmS (leftF (s.legs.map (facL c os placed))).length s.sizes), y + (hmS (leftF (s.legs.map (facL c os placed))).length s.sizes - hmS (endedF (s.legs.map (facL c os placed))).length s.sizes), w + hmS (endedF (s.legs.map (facL c os placed))).length s.sizes]), .val (.bool placed), b5, .no, .no, .no]) := by
  have l9 := hs.l9
  have lc : lcS (call Φ k) [6] (.n 6) .no (.call "factor" (.cons (.nm 0) (.cons (.nm 6) (.cons (.nm 2) (.cons (.nm 4) .nil))))) (s.legs.map dLeg) [.val (dCard c), .val (dSlip s), .val (dOs os), .val (dT [x, y, w]), .val (.bool placed), a5, .no, .no, .no] = some (s.legs.map (fun l => dOQ (facL c os placed l)), [.val (dCard c), .val (dSlip s), .val (dOs os), .val (dT [x, y, w]), .val (.bool placed), a5, .no, .no, .no]) := by
    refine lcS_map _ _ _ fun l hl => ⟨[.val (dCard c), .val (dSlip s), .val (dOs os), .val (dT [x, y, w]), .val (.bool placed), a5, .val (dLeg l), .no, .no], [.val (dCard c), .val (dSlip s), .val (dOs os), .val (dT [x, y, w]), .val (.bool placed), a5, .val (dLeg l), .no, .no], [.val (dCard c), .val (dSlip s), .val (dOs os), .val (dT [x, y, w]), .val (.bool placed), a5, .val (dLeg l), .no, .no], by simp -implicitDefEqProofs [okT, okO, isO, upO, -List.map_map, wipeA], by simp -implicitDefEqProofs [okT, okO, isO, upO, -List.map_map], ?_, rfl⟩
    have f := facL_ok (Φ := Φ) hf hc hs hl placed hk
    simp -implicitDefEqProofs [okT, okO, isO, upO, -List.map_map, f]
  have ec : s.legs.map (fun l => dOQ (facL c os placed l)) = (s.legs.map (facL c os placed)).map dOQ := by rw [List.map_map]; rfl
  rw [ec] at lc
  have e1 := counted_ok (Φ := Φ) (k := k) s (s.legs.map (facL c os placed)) (by rw [List.length_map]; omega) (fun c hc => by have := hs.ss c hc; omega) hs.sl (by omega)
  rw [List.length_map] at e1
  have hz : s.legs.length ≤ lineN := lt_line (by omega)
  refine ⟨.val (dT [hmS s.legs.length s.sizes - hmS (leftF (s.legs.map (facL c os placed))).length s.sizes, hmS (leftF (s.legs.map (facL c os placed))).length s.sizes - hmS (endedF (s.legs.map (facL c os placed))).length s.sizes, hmS (endedF (s.legs.map (facL c os placed))).length s.sizes]), ?_⟩
  generalize hmS s.legs.length s.sizes = A at *
  generalize hmS (leftF (s.legs.map (facL c os placed))).length s.sizes = B at *
  generalize hmS (endedF (s.legs.map (facL c os placed))).length s.sizes = C at *
  generalize (s.legs.map (facL c os placed)).map dOQ = FS at *
  simp only [dSlip, dT, List.map_cons, List.map_nil] at lc e1 ⊢
  have h3 : (3 : Nat) ≤ lineN := lt_line (by decide)
  simp -implicitDefEqProofs [okT, okO, isO, upO, -List.map_map, hz, lc, e1, dZip, zipD, h3, lc_cons, lc_nil, kL1_s, kL2_t, kL3_s, kL4_s, wipeA, backA]
end
end Pd

set_option Elab.async false
set_option linter.all false
set_option maxRecDepth 100000
set_option maxHeartbeats 4000000
set_option exponentiation.threshold 1000000
namespace Pd
open PySem
def onSides (s : Slip) (f : Bool → Int) : Int := if s.both = true then f false + f true else f false
def slA (c : List Ev) (os : List (Option Res)) (s : Slip) (p : Bool) : Int := hmS s.legs.length s.sizes - hmS (leftF (s.legs.map (facL c os p))).length s.sizes
def slB (c : List Ev) (os : List (Option Res)) (s : Slip) (p : Bool) : Int := hmS (leftF (s.legs.map (facL c os p))).length s.sizes - hmS (endedF (s.legs.map (facL c os p))).length s.sizes
def slC (c : List Ev) (os : List (Option Res)) (s : Slip) (p : Bool) : Int := hmS (endedF (s.legs.map (facL c os p))).length s.sizes
def bestL (c : List Ev) (p : Bool) (l : Leg) : Rat := if p = true then ((l.pr.2 * (hE c l.ev.toNat).pt + l.pr.1 : Int) : Rat) / ((l.pr.2 * (hE c l.ev.toNat).pt : Int) : Rat) else pq l.pr + 1
def openL (c : List Ev) (os : List (Option Res)) (wins p : Bool) (l : Leg) : Rat := match facL c os p l with
  | some q => q
  | none => if wins = true then bestL c p l else 0
def sideQ (c : List Ev) (os : List (Option Res)) (s : Slip) (wins p : Bool) : Rat := sumR (s.sizes.map fun n => es (s.legs.map (openL c os wins p)) n.toNat) * (s.stake : Rat)
def openQ (c : List Ev) (os : List (Option Res)) (s : Slip) (wins : Bool) : Rat := if s.both = true then sideQ c os s wins false + sideQ c os s wins true else sideQ c os s wins false
section
variable {Φ : Tab} {k : Nat} {ns : List Int} {t : List D} {c : List Ev} {os : List (Option Res)} {M most : Nat} {s : Slip}
theorem standing_ok [H_standing Φ] [H_counted Φ] [H_how_many Φ] [H_factor Φ] [H_back_of Φ] [H_lowest Φ] [H_divisor Φ] [H_place_back Φ] [H_place_share Φ] [H_times Φ] [H_win_share Φ] [H_sides Φ] (hf : Fits M c os) (hc : ∀ e ∈ c, EvOk most e) (hs : SlipOk c s) (hk : 5 ≤ k) :
    call Φ k "standing" [] [] [dCard c, dSlip s, dOs os] = some (.v (dT [onSides s (slA c os s), onSides s (slB c os s), onSides s (slC c os s)]), []) := by
  rw [call_p H_standing.eq (by omega) rfl rfl]
  have e1 := sides_ok (Φ := Φ) (k := k - 1) s (by omega)
  obtain ⟨b5, s1⟩ := standing_body (Φ := Φ) (k := k - 1) hf hc hs false 0 0 0 .no .no (by omega)
  obtain ⟨c5, s2⟩ := standing_body (Φ := Φ) (k := k - 1) hf hc hs true (0 + slA c os s false) (0 + slB c os s false) (0 + slC c os s false) .no b5 (by omega)
  have s1 : exSs (call Φ (k - 1)) (.cons (.set 5 (.call "counted" (.cons (.nm 1) (.cons (.lc [6] (.n 6) (.e (.ix (.nm 1) (.int 0))) .no (.call "factor" (.cons (.nm 0) (.cons (.nm 6) (.cons (.nm 2) (.cons (.nm 4) .nil)))))) .nil)))) (.cons (.set 3 (.bi .tup (.lc [7, 8] (.t2 (.n 7) (.n 8)) (.zip (.nm 3) (.nm 5)) .no (.bin .add (.nm 7) (.nm 8))))) .nil)) [.val (dCard c), .val (dSlip s), .val (dOs os), .val (dT [0, 0, 0]), .val (.bool false), .no, .no, .no, .no] = some (.nx [.val (dCard c), .val (dSlip s), .val (dOs os), .val (dT [0 + slA c os s false, 0 + slB c os s false, 0 + slC c os s false]), .val (.bool false), b5, .no, .no, .no]) := s1
  have s2 : exSs (call Φ (k - 1)) (.cons (.set 5 (.call "counted" (.cons (.nm 1) (.cons (.lc [6] (.n 6) (.e (.ix (.nm 1) (.int 0))) .no (.call "factor" (.cons (.nm 0) (.cons (.nm 6) (.cons (.nm 2) (.cons (.nm 4) .nil)))))) .nil)))) (.cons (.set 3 (.bi .tup (.lc [7, 8] (.t2 (.n 7) (.n 8)) (.zip (.nm 3) (.nm 5)) .no (.bin .add (.nm 7) (.nm 8))))) .nil)) [.val (dCard c), .val (dSlip s), .val (dOs os), .val (dT [0 + slA c os s false, 0 + slB c os s false, 0 + slC c os s false]), .val (.bool true), b5, .no, .no, .no] = some (.nx [.val (dCard c), .val (dSlip s), .val (dOs os), .val (dT [0 + slA c os s false + slA c os s true, 0 + slB c os s false + slB c os s true, 0 + slC c os s false + slC c os s true]), .val (.bool true), c5, .no, .no, .no]) := s2
  have f0 : forS (call Φ (k - 1)) (.n 4) (.cons (.set 5 (.call "counted" (.cons (.nm 1) (.cons (.lc [6] (.n 6) (.e (.ix (.nm 1) (.int 0))) .no (.call "factor" (.cons (.nm 0) (.cons (.nm 6) (.cons (.nm 2) (.cons (.nm 4) .nil)))))) .nil)))) (.cons (.set 3 (.bi .tup (.lc [7, 8] (.t2 (.n 7) (.n 8)) (.zip (.nm 3) (.nm 5)) .no (.bin .add (.nm 7) (.nm 8))))) .nil)) ((sidesOf s).map PyData.bool) [.val (dCard c), .val (dSlip s), .val (dOs os), .val (.tuple [.int 0, .int 0, .int 0]), .no, .no, .no, .no, .no] = some (.nx [.val (dCard c), .val (dSlip s), .val (dOs os), .val (dT [onSides s (slA c os s), onSides s (slB c os s), onSides s (slC c os s)]), .val (.bool s.both), if s.both = true then c5 else b5, .no, .no, .no]) := by
    have a1 : asg (.n 4) (.bool false) [.val (dCard c), .val (dSlip s), .val (dOs os), .val (dT [0, 0, 0]), .no, .no, .no, .no, .no] = some [.val (dCard c), .val (dSlip s), .val (dOs os), .val (dT [0, 0, 0]), .val (.bool false), .no, .no, .no, .no] := by simp -implicitDefEqProofs [okT, okO, isO, upO, -List.map_map]
    have a2 : asg (.n 4) (.bool true) [.val (dCard c), .val (dSlip s), .val (dOs os), .val (dT [0 + slA c os s false, 0 + slB c os s false, 0 + slC c os s false]), .val (.bool false), b5, .no, .no, .no] = some [.val (dCard c), .val (dSlip s), .val (dOs os), .val (dT [0 + slA c os s false, 0 + slB c os s false, 0 + slC c os s false]), .val (.bool true), b5, .no, .no, .no] := by simp -implicitDefEqProofs [okT, okO, isO, upO, -List.map_map]
    show forS _ _ _ _ [.val (dCard c), .val (dSlip s), .val (dOs os), .val (dT [0, 0, 0]), .no, .no, .no, .no, .no] = _
    unfold sidesOf onSides
    cases s.both with
    | true =>
      rw [if_pos rfl, List.map_cons, List.map_cons, List.map_nil, for_cons, a1, kF1_s, s1, kF2_n, for_cons, a2, kF1_s, s2, kF2_n, for_nil]
      simp
    | false =>
      rw [if_neg (by decide), List.map_cons, List.map_nil, for_cons, a1, kF1_s, s1, kF2_n, for_nil]
      simp
  generalize (sidesOf s).map PyData.bool = SS at *
  simp -implicitDefEqProofs [i_standing, okT, okO, isO, upO, -List.map_map, e1, f0]
theorem facL_sz (hf : Fits M c os) (hM : M ≤ 1000) (hc : ∀ e ∈ c, EvOk most e) (hs : SlipOk c s) {l : Leg} (hl : l ∈ s.legs) (p : Bool) {q : Rat} (h : facL c os p l = some q) : 0 ≤ q ∧ Szq 60 q := by
  obtain ⟨h0, h1, hp⟩ := hs.lg l hl
  have he : c[l.ev.toNat]? = some (hE c l.ev.toNat) := by
    unfold hE
    rw [List.getD_eq_getElem?_getD, List.getElem?_eq_getElem (by omega)]; rfl
  have hlen := hf.len
  have ho : os[l.ev.toNat]? = some (os.getD l.ev.toNat none) := by
    rw [List.getD_eq_getElem?_getD, List.getElem?_eq_getElem (by omega)]; rfl
  have hev := hc _ (List.mem_of_getElem? he)
  have hok := fun r hr => (hf.ok _ _ _ he ho r hr).1
  unfold facL at h
  generalize os.getD l.ev.toNat none = o at *
  generalize hE c l.ev.toNat = e at *
  cases o with
  | none => cases h
  | some r =>
    have hr := hok r rfl
    have rl : ∀ g ∈ r.ranks, g ≠ [] ∧ g.length ≤ 1000 := fun g hg => ⟨(ranks_le hr g hg).1, by have := (ranks_le hr g hg).2; omega⟩
    unfold facQ at h
    dsimp only at h
    split at h
    · cases h
      exact ⟨by decide, szq_1 (by decide)⟩
    · split at h
      · cases h
        obtain ⟨g1, g2, g3, g4, g5⟩ := hp
        have t1 := hev.t1
        have t5 := hev.t5
        have b := mulB (show 0 ≤ l.pr.2 by omega) g4 (show 0 ≤ e.pt by omega) t5
        have b2 : 0 < l.pr.2 * e.pt := Int.mul_pos (by omega) (by omega)
        exact ⟨Rat.mul_nonneg (place_nn _ _ _ _ (ranks_ne hr)) (q_nn (by omega) b2), szq_mul (place_sz _ _ _ _ rl) (szq_int (by omega) (by omega) b2)⟩
      · cases h
        have pn : 0 ≤ pq l.pr + 1 := by have := Rat.le_of_lt (pq_pos hp); grind
        exact ⟨Rat.mul_nonneg (win_nn (ranks_ne hr) _) pn, (szq_mul (win_sz rl _) (szq_add (pq_sz hp) (szq_1 (n := 1) (by decide)))).mono (by omega)⟩
theorem bestL_sz (hc : ∀ e ∈ c, EvOk most e) (hs : SlipOk c s) {l : Leg} (hl : l ∈ s.legs) (p : Bool) : 0 ≤ bestL c p l ∧ Szq 60 (bestL c p l) := by
  obtain ⟨h0, h1, hp⟩ := hs.lg l hl
  have hev := hc _ (hE_mem (es := c) (j := l.ev.toNat) (by omega))
  unfold bestL
  generalize hE c l.ev.toNat = e at *
  have t1 := hev.t1
  have t5 := hev.t5
  cases p with
  | true =>
    rw [if_pos rfl]
    obtain ⟨g1, g2, g3, g4, g5⟩ := hp
    have b := mulB (show 0 ≤ l.pr.2 by omega) g4 (show 0 ≤ e.pt by omega) t5
    have b2 : 0 < l.pr.2 * e.pt := Int.mul_pos (by omega) (by omega)
    exact ⟨q_nn (by omega) b2, (szq_int (by omega) (by omega) b2).mono (by decide)⟩
  | false =>
    rw [if_neg (by decide)]
    have pn : 0 ≤ pq l.pr + 1 := by have := Rat.le_of_lt (pq_pos hp); grind
    exact ⟨pn, (szq_add (pq_sz hp) (szq_1 (n := 1) (by decide))).mono (by decide)⟩
theorem openL_sz (hf : Fits M c os) (hM : M ≤ 1000) (hc : ∀ e ∈ c, EvOk most e) (hs : SlipOk c s) {l : Leg} (hl : l ∈ s.legs) (w p : Bool) : 0 ≤ openL c os w p l ∧ Szq 60 (openL c os w p l) := by
  unfold openL
  split
  · rename_i q h
    exact facL_sz hf hM hc hs hl p h
  · split
    · exact bestL_sz hc hs hl p
    · exact ⟨Rat.le_refl, szq_0 (by decide)⟩
theorem side_sz {w p : Bool} (hf : Fits M c os) (hM : M ≤ 1000) (hc : ∀ e ∈ c, EvOk most e) (hs : SlipOk c s) : 0 ≤ sideQ c os s w p ∧ Szq 1000 (sideQ c os s w p) := by
  have l9 := hs.l9
  have oz : ∀ y ∈ s.legs.map (openL c os w p), 0 ≤ y ∧ Szq 60 y := fun y hy => by
    obtain ⟨l, hl, rfl⟩ := List.mem_map.mp hy
    exact openL_sz hf hM hc hs hl w p
  have hll : (s.legs.map (openL c os w p)).length = s.legs.length := List.length_map ..
  generalize hfs : s.legs.map (openL c os w p) = fs at *
  have hz : ∀ x ∈ fs, Szq 60 x := fun y hy => (oz y hy).2
  have cq : ∀ l : List Int, Cq ((60 + 1) * fs.length + 1 + l.length) (dens fs) (sumR (l.map fun c => es fs c.toNat)) := by
    intro l
    induction l with
    | nil => exact ⟨0, show (0 : Nat) < 2 ^ _ from Nat.two_pow_pos _, by show (0 : Rat) = ((0 : Int) : Rat) / _; rw [show ((0 : Int) : Rat) = 0 from rfl]; grind⟩
    | cons c l ih =>
      have h1 := (es_cq (s := 60) fs c.toNat hz).mono (show (60 + 1) * fs.length + 1 ≤ (60 + 1) * fs.length + 1 + l.length by omega)
      exact (cq_add (dens_pos fs) h1 ih).mono (by rw [List.length_cons]; omega)
  have sl := hs.sl
  have z1 := cq_sz ((cq s.sizes).mono (show _ ≤ 900 by omega)) (dens_pos fs) ((dens_sz (s := 60) fs hz).mono (by omega))
  have n1 := sumR_nn (s.sizes.map fun c => es fs c.toNat) fun q hq => by
    obtain ⟨c, _, rfl⟩ := List.mem_map.mp hq
    exact es_nn fs _ fun y hy => (oz y hy).1
  have s1 := hs.s1
  have s2 := hs.s2
  have sz1 : Szq 30 (s.stake : Rat) := ⟨by rw [Rat.num_intCast]; exact Sz.of (by omega), by rw [Rat.den_intCast]; exact Sz.of (by decide)⟩
  unfold sideQ
  rw [hfs]
  exact ⟨Rat.mul_nonneg n1 (castnn (by omega)), (szq_mul z1 sz1).mono (by decide)⟩
theorem open_side [H_with_open Φ] [H_back_of Φ] [H_lowest Φ] [H_divisor Φ] [H_factor Φ] [H_place_back Φ] [H_place_share Φ] [H_times Φ] [H_win_share Φ] [H_plus Φ] [H_sides Φ] [H_together Φ] (hf : Fits M c os) (hM : M ≤ 1000) (hc : ∀ e ∈ c, EvOk most e) (hs : SlipOk c s) (w p : Bool) {x : Rat} (x0 : 0 ≤ x) (xz : Szq 3000 x) (a6 a7 a8 a9 : As) (hk : 6 ≤ k) :
    ∃ b6 b7 b8 b9, exSs (call Φ k) (.cons (.set 6 (.lst .nil)) (.cons (.for_ (.n 7) (.e (.ix (.nm 1) (.int 0))) (.cons (.set 8 (.call "factor" (.cons (.nm 0) (.cons (.nm 7) (.cons (.nm 2) (.cons (.nm 5) .nil)))))) (.cons (.ifs (.cmp .is (.nm 8) .non) (.cons (.set 9 (.ite (.nm 5) (.call "place_back" (.cons (.ix (.nm 7) (.int 2)) (.cons (.ix (.ix (.nm 0) (.ix (.nm 7) (.int 0))) (.int 2)) .nil))) (.call "back_of" (.cons (.ix (.nm 7) (.int 2)) .nil)))) (.cons (.set 8 (.ite (.nm 3) (.nm 9) (.tup (.cons (.int 0) (.cons (.int 1) .nil))))) .nil)) .nil) (.cons (.app 6 (.nm 8)) .nil)))) (.cons (.set 4 (.call "plus" (.cons (.nm 4) (.cons (.call "together" (.cons (.nm 1) (.cons (.nm 6) .nil))) .nil)))) .nil))) [.val (dCard c), .val (dSlip s), .val (dOs os), .val (.bool w), .val (dQ x), .val (.bool p), a6, a7, a8, a9] = some (.nx [.val (dCard c), .val (dSlip s), .val (dOs os), .val (.bool w), .val (dQ (x + sideQ c os s w p)), .val (.bool p), b6, b7, b8, b9]) := by
  have l9 := hs.l9
  have lp := for_pre (cl := call Φ k) (t := (.n 7)) (b := (.cons (.set 8 (.call "factor" (.cons (.nm 0) (.cons (.nm 7) (.cons (.nm 2) (.cons (.nm 5) .nil)))))) (.cons (.ifs (.cmp .is (.nm 8) .non) (.cons (.set 9 (.ite (.nm 5) (.call "place_back" (.cons (.ix (.nm 7) (.int 2)) (.cons (.ix (.ix (.nm 0) (.ix (.nm 7) (.int 0))) (.int 2)) .nil))) (.call "back_of" (.cons (.ix (.nm 7) (.int 2)) .nil)))) (.cons (.set 8 (.ite (.nm 3) (.nm 9) (.tup (.cons (.int 0) (.cons (.int 1) .nil))))) .nil)) .nil) (.cons (.app 6 (.nm 8)) .nil)))) dLeg (fun pre r => ∃ a7 a8 a9, r = [.val (dCard c), .val (dSlip s), .val (dOs os), .val (.bool w), .val (dQ x), .val (.bool p), .own ((pre.map (openL c os w p)).map dQ), a7, a8, a9]) s.legs (fun pre l post r hx ⟨a7, a8, a9, h⟩ => by
    subst h
    have hl : l ∈ s.legs := by rw [hx]; simp
    have hlen := congrArg List.length hx
    rw [List.length_append, List.length_cons] at hlen
    have hz : pre.length < lineN := by rw [lineV]; omega
    have f := facL_ok (Φ := Φ) (k := k) hf hc hs hl p (by omega)
    obtain ⟨h0, h1, hp⟩ := hs.lg l hl
    have i1 := hE_at (es := c) (j := l.ev.toNat) (by omega)
    rw [Int.toNat_of_nonneg h0] at i1
    have hev := hc _ (hE_mem (es := c) (j := l.ev.toNat) (by omega))
    have hoL : openL c os w p l = match facL c os p l with
      | some q => q
      | none => if w = true then bestL c p l else 0 := rfl
    cases hq : facL c os p l with
    | some q =>
      rw [hq] at f hoL
      have hoL : openL c os w p l = q := hoL
      refine ⟨[.val (dCard c), .val (dSlip s), .val (dOs os), .val (.bool w), .val (dQ x), .val (.bool p), .own ((pre.map (openL c os w p)).map dQ), .val (dLeg l), a8, a9], [.val (dCard c), .val (dSlip s), .val (dOs os), .val (.bool w), .val (dQ x), .val (.bool p), .own (((pre ++ [l]).map (openL c os w p)).map dQ), .val (dLeg l), .val (dQ q), a9], by simp -implicitDefEqProofs [okT, okO, isO, upO, -List.map_map], ?_, _, _, _, rfl⟩
      have f : call Φ k "factor" [] [] [dCard c, dLeg l, dOs os, .bool p] = some (.v (dQ q), []) := f
      unfold dQ at *
      simp -implicitDefEqProofs [okT, okO, isO, upO, -List.map_map, f, dApp, hz, hoL]
    | none =>
      rw [hq] at f hoL
      have f : call Φ k "factor" [] [] [dCard c, dLeg l, dOs os, .bool p] = some (.v .none, []) := f
      have hoL : openL c os w p l = if w = true then bestL c p l else 0 := hoL
      refine ⟨[.val (dCard c), .val (dSlip s), .val (dOs os), .val (.bool w), .val (dQ x), .val (.bool p), .own ((pre.map (openL c os w p)).map dQ), .val (dLeg l), a8, a9], [.val (dCard c), .val (dSlip s), .val (dOs os), .val (.bool w), .val (dQ x), .val (.bool p), .own (((pre ++ [l]).map (openL c os w p)).map dQ), .val (dLeg l), .val (dQ (openL c os w p l)), .val (dQ (bestL c p l))], by simp -implicitDefEqProofs [okT, okO, isO, upO, -List.map_map], ?_, _, _, _, rfl⟩
      have fb : (p = false → call Φ k "back_of" [] [] [dP l.pr] = some (.v (dQ (bestL c p l)), [])) ∧ (p = true → call Φ k "place_back" [] [] [dP l.pr, .int (hE c l.ev.toNat).pt] = some (.v (dQ (bestL c p l)), [])) := by
        constructor
        · rintro rfl
          exact back_ok (Φ := Φ) (k := k) hp (by omega)
        · rintro rfl
          exact place_back_ok (Φ := Φ) (k := k) hp hev.t1 (by have := hev.t5; omega) (by omega)
      generalize bestL c p l = bl at *
      simp only [dLeg, dCard] at f ⊢
      rw [dEv] at i1
      cases p with
      | false =>
        have fb := fb.1 rfl
        cases w with
        | false =>
          rw [if_neg (by decide)] at hoL
          simp -implicitDefEqProofs [okT, okO, isO, upO, -List.map_map, f, fb, dApp, hz, hoL, dQ_0]
        | true =>
          rw [if_pos rfl] at hoL
          simp -implicitDefEqProofs [okT, okO, isO, upO, -List.map_map, f, fb, dApp, hz, hoL]
      | true =>
        have fb := fb.2 rfl
        cases w with
        | false =>
          rw [if_neg (by decide)] at hoL
          simp -implicitDefEqProofs [okT, okO, isO, upO, -List.map_map, f, fb, i1, dApp, hz, hoL, dQ_0]
        | true =>
          rw [if_pos rfl] at hoL
          simp -implicitDefEqProofs [okT, okO, isO, upO, -List.map_map, f, fb, i1, dApp, hz, hoL])
  obtain ⟨r', e1, b7, b8, b9, rfl⟩ := lp _ ⟨a7, a8, a9, rfl⟩
  have oz : ∀ y ∈ s.legs.map (openL c os w p), 0 ≤ y ∧ Szq 60 y := fun y hy => by
    obtain ⟨l, hl, rfl⟩ := List.mem_map.mp hy
    exact openL_sz hf hM hc hs hl w p
  have hll : (s.legs.map (openL c os w p)).length = s.legs.length := List.length_map ..
  have t1 := together_ok (Φ := Φ) (k := k) s (s.legs.map (openL c os w p)) (z := 60) (fun y hy => (oz y hy).1) (fun y hy => (oz y hy).2) (by omega) (by omega) (fun n hn => by have := hs.ss n hn; omega) hs.sl (by have := hs.s1; omega) (by have := hs.s2; omega) (by omega)
  obtain ⟨q0, qz⟩ := side_sz (c := c) (os := os) (w := w) (p := p) hf hM hc hs
  have t1 : call Φ k "together" [] [] [dSlip s, .list ((s.legs.map (openL c os w p)).map dQ)] = some (.v (dQ (sideQ c os s w p)), []) := t1
  have p1 := plus_ok (Φ := Φ) (k := k) x0 q0 xz qz (by decide) (by omega)
  refine ⟨.val (.list ((s.legs.map (openL c os w p)).map dQ)), b7, b8, b9, ?_⟩
  simp only [List.map_nil] at e1
  generalize (s.legs.map (openL c os w p)).map dQ = FS at *
  generalize sideQ c os s w p = SQ at *
  generalize hds : dSlip s = DS at *
  have hds2 : DS = .tuple [.tuple (s.legs.map dLeg), dT s.sizes, .int s.stake, .bool s.both] := by rw [← hds]; rfl
  have i0 : dIx DS (.int 0) = some (.tuple (s.legs.map dLeg)) := by rw [hds2]; simp -implicitDefEqProofs [okT, okO, isO, upO, -List.map_map]
  simp -implicitDefEqProofs [okT, okO, isO, upO, -List.map_map, i0, e1, t1, p1]
theorem open_ok [H_with_open Φ] [H_back_of Φ] [H_lowest Φ] [H_divisor Φ] [H_factor Φ] [H_place_back Φ] [H_place_share Φ] [H_times Φ] [H_win_share Φ] [H_plus Φ] [H_sides Φ] [H_together Φ] (hf : Fits M c os) (hM : M ≤ 1000) (hc : ∀ e ∈ c, EvOk most e) (hs : SlipOk c s) (w : Bool) (hk : 7 ≤ k) : call Φ k "with_open" [] [] [dCard c, dSlip s, dOs os, .bool w] = some (.v (dQ (openQ c os s w)), []) := by
  rw [call_p H_with_open.eq (by omega) rfl rfl]
  have e1 := sides_ok (Φ := Φ) (k := k - 1) s (by omega)
  obtain ⟨q0, qz⟩ := side_sz (c := c) (os := os) (w := w) (p := false) hf hM hc hs
  obtain ⟨b6, b7, b8, b9, s1⟩ := open_side (Φ := Φ) (k := k - 1) hf hM hc hs w false (x := 0) Rat.le_refl (szq_0 (by decide)) .no .no .no .no (by omega)
  have z0 : (0 : Rat) + sideQ c os s w false = sideQ c os s w false := by grind
  rw [z0] at s1
  obtain ⟨c6, c7, c8, c9, s2⟩ := open_side (Φ := Φ) (k := k - 1) hf hM hc hs w true (x := sideQ c os s w false) q0 (qz.mono (by decide)) b6 b7 b8 b9 (by omega)
  have f0 : ∃ d5 d6 d7 d8 d9, forS (call Φ (k - 1)) (.n 5) (.cons (.set 6 (.lst .nil)) (.cons (.for_ (.n 7) (.e (.ix (.nm 1) (.int 0))) (.cons (.set 8 (.call "factor" (.cons (.nm 0) (.cons (.nm 7) (.cons (.nm 2) (.cons (.nm 5) .nil)))))) (.cons (.ifs (.cmp .is (.nm 8) .non) (.cons (.set 9 (.ite (.nm 5) (.call "place_back" (.cons (.ix (.nm 7) (.int 2)) (.cons (.ix (.ix (.nm 0) (.ix (.nm 7) (.int 0))) (.int 2)) .nil))) (.call "back_of" (.cons (.ix (.nm 7) (.int 2)) .nil)))) (.cons (.set 8 (.ite (.nm 3) (.nm 9) (.tup (.cons (.int 0) (.cons (.int 1) .nil))))) .nil)) .nil) (.cons (.app 6 (.nm 8)) .nil)))) (.cons (.set 4 (.call "plus" (.cons (.nm 4) (.cons (.call "together" (.cons (.nm 1) (.cons (.nm 6) .nil))) .nil)))) .nil))) ((sidesOf s).map PyData.bool) [.val (dCard c), .val (dSlip s), .val (dOs os), .val (.bool w), .val (.tuple [.int 0, .int 1]), .no, .no, .no, .no, .no] = some (.nx [.val (dCard c), .val (dSlip s), .val (dOs os), .val (.bool w), .val (dQ (openQ c os s w)), d5, d6, d7, d8, d9]) := by
    have a1 : asg (.n 5) (.bool false) [.val (dCard c), .val (dSlip s), .val (dOs os), .val (.bool w), .val (dQ 0), .no, .no, .no, .no, .no] = some [.val (dCard c), .val (dSlip s), .val (dOs os), .val (.bool w), .val (dQ 0), .val (.bool false), .no, .no, .no, .no] := by simp -implicitDefEqProofs [okT, okO, isO, upO, -List.map_map]
    have a2 : asg (.n 5) (.bool true) [.val (dCard c), .val (dSlip s), .val (dOs os), .val (.bool w), .val (dQ (sideQ c os s w false)), .val (.bool false), b6, b7, b8, b9] = some [.val (dCard c), .val (dSlip s), .val (dOs os), .val (.bool w), .val (dQ (sideQ c os s w false)), .val (.bool true), b6, b7, b8, b9] := by simp -implicitDefEqProofs [okT, okO, isO, upO, -List.map_map]
    show ∃ d5 d6 d7 d8 d9, forS _ _ _ _ [.val (dCard c), .val (dSlip s), .val (dOs os), .val (.bool w), .val (dQ 0), .no, .no, .no, .no, .no] = _
    unfold sidesOf openQ
    cases s.both with
    | true => exact ⟨_, _, _, _, _, by rw [if_pos rfl, if_pos rfl, List.map_cons, List.map_cons, List.map_nil, for_cons, a1, kF1_s, s1, kF2_n, for_cons, a2, kF1_s, s2, kF2_n, for_nil]⟩
    | false => exact ⟨_, _, _, _, _, by rw [if_neg (by decide), if_neg (by decide), List.map_cons, List.map_nil, for_cons, a1, kF1_s, s1, kF2_n, for_nil]⟩
  obtain ⟨d5, d6, d7, d8, d9, f0⟩ := f0
  generalize (sidesOf s).map PyData.bool = SS at *
  simp -implicitDefEqProofs [i_with_open, okT, okO, isO, upO, -List.map_map, e1, f0]
theorem brings_ok [H_brings Φ] [H_standing Φ] [H_counted Φ] [H_how_many Φ] [H_factor Φ] [H_back_of Φ] [H_lowest Φ] [H_divisor Φ] [H_place_back Φ] [H_place_share Φ] [H_times Φ] [H_win_share Φ] [H_sides Φ] [H_with_open Φ] [H_plus Φ] [H_together Φ] (hf : Fits M c os) (hM : M ≤ 1000) (hc : ∀ e ∈ c, EvOk most e) (hs : SlipOk c s) (hk : 8 ≤ k) : call Φ k "brings" [] [] [dCard c, dSlip s, dOs os] = some (.v (dOQ (if 0 < onSides s (slB c os s) then none else some (openQ c os s false))), []) := by
  rw [call_p H_brings.eq (by omega) rfl rfl]
  have e1 := standing_ok (Φ := Φ) (k := k - 1) hf hc hs (by omega)
  have e2 := open_ok (Φ := Φ) (k := k - 1) hf hM hc hs false (by omega)
  simp only [dT, List.map_cons, List.map_nil] at e1
  by_cases h : 0 < onSides s (slB c os s)
  · rw [if_pos h]
    simp -implicitDefEqProofs [i_brings, okT, okO, isO, upO, -List.map_map, e1, h, dOQ]
  · rw [if_neg h]
    simp -implicitDefEqProofs [i_brings, okT, okO, isO, upO, -List.map_map, e1, e2, h, dOQ]
end
end Pd

set_option Elab.async false
set_option linter.all false
set_option maxRecDepth 100000
set_option maxHeartbeats 4000000
set_option exponentiation.threshold 1000000
namespace Pd
open PySem
section
variable {Φ : Tab} {k : Nat} {ns : List Int} {t : List D} {c : List Ev} {os : List (Option Res)} {M most : Nat} {s : Slip}
theorem rounded_ok [H_rounded Φ] (q : Rat) (hz : Szq 9000 q) (hk : 1 ≤ k) : call Φ k "rounded" [] [] [dQ q] = some (.v (.int (q.num / (q.den : Int))), []) := by
  rw [call_p H_rounded.eq (by omega) rfl rfl]
  have d1 := div_is (i := q.num) (j := ((q.den : Nat) : Int)) (den0 q) (.inr hz.2)
  unfold dQ
  simp -implicitDefEqProofs [i_rounded, okT, okO, isO, upO, -List.map_map, d1]
def dOF : Option Rat → D
  | none => .none
  | some q => .int (q.num / (q.den : Int))
theorem openQ_sz {w : Bool} (hf : Fits M c os) (hM : M ≤ 1000) (hc : ∀ e ∈ c, EvOk most e) (hs : SlipOk c s) : 0 ≤ openQ c os s w ∧ Szq 2001 (openQ c os s w) := by
  obtain ⟨a0, az⟩ := side_sz (w := w) (p := false) hf hM hc hs
  obtain ⟨b0, bz⟩ := side_sz (w := w) (p := true) hf hM hc hs
  unfold openQ
  split
  · exact ⟨Rat.add_nonneg a0 b0, szq_add az bz⟩
  · exact ⟨a0, az.mono (by decide)⟩
theorem returned_ok [H_returned Φ] [H_brings Φ] [H_standing Φ] [H_counted Φ] [H_how_many Φ] [H_factor Φ] [H_back_of Φ] [H_lowest Φ] [H_divisor Φ] [H_place_back Φ] [H_place_share Φ] [H_times Φ] [H_win_share Φ] [H_sides Φ] [H_with_open Φ] [H_plus Φ] [H_together Φ] [H_rounded Φ] (hf : Fits M c os) (hM : M ≤ 1000) (hc : ∀ e ∈ c, EvOk most e) (hs : SlipOk c s) (hk : 9 ≤ k) : call Φ k "returned" [] [] [dCard c, dSlip s, dOs os] = some (.v (dOF (if 0 < onSides s (slB c os s) then none else some (openQ c os s false))), []) := by
  rw [call_p H_returned.eq (by omega) rfl rfl]
  have e1 := brings_ok (Φ := Φ) (k := k - 1) hf hM hc hs (by omega)
  obtain ⟨q0, qz⟩ := openQ_sz (w := false) hf hM hc hs
  have e2 := rounded_ok (Φ := Φ) (k := k - 1) _ (qz.mono (by decide)) (by omega)
  by_cases h : 0 < onSides s (slB c os s)
  · rw [if_pos h] at e1 ⊢
    have e1 : call Φ (k - 1) "brings" [] [] [dCard c, dSlip s, dOs os] = some (.v .none, []) := e1
    simp -implicitDefEqProofs [i_returned, okT, okO, isO, upO, -List.map_map, e1, dOF]
  · rw [if_neg h] at e1 ⊢
    generalize openQ c os s false = q at *
    have e1 : call Φ (k - 1) "brings" [] [] [dCard c, dSlip s, dOs os] = some (.v (dQ q), []) := e1
    unfold dQ at e1 e2
    simp -implicitDefEqProofs [i_returned, okT, okO, isO, upO, -List.map_map, e1, e2, dOF]
theorem drawsF_ok {cl : Cl} {own : List Nat} {tg : Tg} {cnd : Iro} {e : Ir} {d : Nat} (R : List D → AE)
    (hstep : ∀ (x : Int) (n : Nat) (t : List D), Tw n t → n + d ≤ 10000000 → ∃ r1 b r2 t', asg tg (.int x) (wipeA own (R t)) = some r1 ∧ evC cl cnd r1 = some (b, r2) ∧ backA own (R t) r2 = R t' ∧ (b = true → kFz (ev cl e r2) = some (.int x, r2)) ∧ Tw (n + d) t') :
    ∀ (xs : List Int) (n : Nat) (t : List D), Tw n t → n + d * xs.length ≤ 10000000 → ∃ (ys : List Int) (t' : List D), lcS cl own tg cnd e (xs.map PyData.int) (R t) = some (ys.map PyData.int, R t') ∧ ys.Sublist xs ∧ Tw (n + d * xs.length) t'
  | [], n, t, ht, _ => ⟨[], t, rfl, List.Sublist.refl _, by simpa using ht⟩
  | x :: xs, n, t, ht, hn => by
    rw [List.length_cons, Nat.mul_succ] at hn
    obtain ⟨r1, b, r2, t1, h1, h2, h3, h4, h5⟩ := hstep x n t ht (by omega)
    obtain ⟨ys, t2, e1, e2, e3⟩ := drawsF_ok R hstep xs (n + d) t1 h5 (by omega)
    have w := e3.mono (show _ ≤ n + d * (x :: xs).length by rw [List.length_cons, Nat.mul_succ]; omega)
    cases b with
    | true => exact ⟨x :: ys, t2, by rw [List.map_cons, lc_cons, h1, kL1_s, h2, kL2_t, h4 rfl, kL3_s, h3, e1, kL4_s]; rfl, e2.cons_cons x, w⟩
    | false => exact ⟨ys, t2, by rw [List.map_cons, lc_cons, h1, kL1_s, h2, kL2_f, h3, e1], e2.cons x, w⟩
structure SlipD (c : List Ev) (most : Nat) (s : Slip) : Prop extends SlipOk c s where
  lm : s.legs.length ≤ most
  sp : s.sizes.Pairwise (· < ·)
  sn : s.sizes ≠ []
  lp : (s.legs.map Leg.ev).Pairwise (· < ·)
  rn : ∀ l ∈ s.legs, 0 ≤ l.run ∧ l.run < (hE c l.ev.toNat).ps.length
theorem slip_ok [H_l_drawn_slip Φ] [H_l_draw Φ] [H_l_drawn_price Φ] [H_l_low Φ] [H_l_pick Φ] [H_l_mixed Φ] {n : Nat} (h63 : ns.length ≤ 63) (ht : Tw n t) (hcl : 1 ≤ c.length) (hcm : c.length ≤ 9) {mx : Nat} (hc : ∀ e ∈ c, EvOk mx e) (hmx : mx ≤ 8) {most : Nat} (h1 : 1 ≤ most) (h9 : most ≤ 9) (hn : n + 200 ≤ 10000000) (hk : 4 ≤ k) :
    ∃ (s : Slip) (t' : List D), call Φ k "_law_drawn_slip" ns t [dCard c, .int most] = some (.v (dSlip s), t') ∧ SlipD c most s ∧ Tw (n + 200) t' := by
  rw [call_d H_l_drawn_slip.eq (by omega) rfl rfl]
  obtain ⟨v, t1, e1, v0, v1, w1⟩ := draw_ok (Φ := Φ) (k := k - 1) h63 ht (by omega) (m := min (most : Int) c.length) (by omega) (by omega)
  obtain ⟨m, hm⟩ : ∃ m : Int, m = 1 + v := ⟨_, rfl⟩
  obtain ⟨ys, t2, e2, p2, w2⟩ := mixed_ok PyData.int (Φ := Φ) (k := k - 1) h63 w1 (upto c.length) (by rw [upto_len]; omega) (by rw [upto_len]; omega) (by omega)
  rw [upto_len] at w2
  have hyl : ys.length = c.length := by rw [p2.length_eq, upto_len]
  obtain ⟨evs, sg1, sg2, sg3⟩ := sorted_ex (ys.take m.toNat)
  have hsub : (ys.take m.toNat).Sublist ys := List.take_sublist ..
  have hnd : evs.Nodup := sg2.nodup_iff.mpr (hsub.nodup (p2.nodup_iff.mpr (upto_nodup _)))
  have hev := strict sg3 hnd
  have hem : ∀ x ∈ evs, 0 ≤ x ∧ x < c.length := fun x hx => mem_upto.mp (p2.subset (hsub.subset (sg2.subset hx)))
  have hel : (evs.length : Int) = m := by rw [sg2.length_eq, List.length_take, hyl]; omega
  have lp := for_pre (cl := call Φ (k - 1)) (t := (.n 7)) (b := (.cons (.set 8 (.callT "_law_draw" 0 1 (.cons (.bi .len (.ix (.ix (.nm 2) (.nm 7)) (.int 0))) .nil))) (.cons (.set 9 (.ix (.ix (.ix (.nm 2) (.nm 7)) (.int 0)) (.nm 8))) (.cons (.ifs (.cmp .eq (.callT "_law_draw" 0 1 (.cons (.int 4) .nil)) (.int 0)) (.cons (.set 9 (.callT "_law_drawn_price" 0 1 .nil)) .nil) .nil) (.cons (.app 6 (.tup (.cons (.nm 7) (.cons (.nm 8) (.cons (.nm 9) .nil))))) .nil))))) PyData.int (fun pre r => ∃ (t : List D) (ls : List Leg) (a7 a8 a9 : As), r = [.scr ns, .twn t, .val (dCard c), .val (.int most), .val (.int m), .val (.list (evs.map PyData.int)), .own (ls.map dLeg), a7, a8, a9, .no, .no, .no] ∧ ls.map Leg.ev = pre ∧ (∀ l ∈ ls, PrOk l.pr ∧ 0 ≤ l.run ∧ l.run < (hE c l.ev.toNat).ps.length) ∧ Tw (n + 10 + 6 * pre.length) t) evs (fun pre x post r hx ⟨t, ls, a7, a8, a9, h, hls, hlo, w⟩ => by
    subst h
    have hxm := hem x (by rw [hx]; simp)
    have hlen := congrArg List.length hx
    rw [List.length_append, List.length_cons] at hlen
    have hll : ls.length = pre.length := by rw [← hls, List.length_map]
    have hz : ls.length < lineN := by rw [lineV]; omega
    have i1 := hE_at (es := c) (j := x.toNat) (by omega)
    rw [Int.toNat_of_nonneg hxm.1] at i1
    have hEo := hc _ (hE_mem (es := c) (j := x.toNat) (by omega))
    have l2 := hEo.l2
    have lm := hEo.lm
    obtain ⟨u, t3, e3, u0, u1, w3⟩ := draw_ok (Φ := Φ) (k := k - 1) h63 w (by omega) (m := (hE c x.toNat).ps.length) (by omega) (by omega)
    have i2 := at_map dP (hE c x.toNat).ps u0 u1
    have hq := hEo.pr _ (List.getElem_mem (by omega : u.toNat < (hE c x.toNat).ps.length))
    generalize (hE c x.toNat).ps[u.toNat] = q at i2 hq
    obtain ⟨y, t4, e4, y0, y1, w4⟩ := draw_ok (Φ := Φ) (k := k - 1) h63 w3 (by omega) (m := 4) (by decide) (by omega)
    rw [dEv] at i1
    by_cases hy : y = 0
    · subst hy
      obtain ⟨p, t5, e5, hp, w5⟩ := price_ok (Φ := Φ) (k := k - 1) h63 w4 (by omega) (by omega)
      refine ⟨[.scr ns, .twn t, .val (dCard c), .val (.int most), .val (.int m), .val (.list (evs.map PyData.int)), .own (ls.map dLeg), .val (.int x), a8, a9, .no, .no, .no], [.scr ns, .twn t5, .val (dCard c), .val (.int most), .val (.int m), .val (.list (evs.map PyData.int)), .own ((ls ++ [(⟨x, u, p⟩ : Leg)]).map dLeg), .val (.int x), .val (.int u), .val (dP p), .no, .no, .no], by simp -implicitDefEqProofs [okT, okO, isO, upO, -List.map_map], ?_, t5, ls ++ [(⟨x, u, p⟩ : Leg)], _, _, _, rfl, by simp [hls], fun l hl => ?_, w5.mono (by rw [List.length_append, List.length_singleton]; omega)⟩
      · simp only [dCard]
        simp -implicitDefEqProofs [okT, okO, isO, upO, -List.map_map, i1, e3, i2, e4, e5, dApp, hz, dLeg]
      · rcases List.mem_append.mp hl with hl | hl
        · exact hlo l hl
        · rcases List.mem_singleton.mp hl with rfl
          exact ⟨hp, u0, u1⟩
    · refine ⟨[.scr ns, .twn t, .val (dCard c), .val (.int most), .val (.int m), .val (.list (evs.map PyData.int)), .own (ls.map dLeg), .val (.int x), a8, a9, .no, .no, .no], [.scr ns, .twn t4, .val (dCard c), .val (.int most), .val (.int m), .val (.list (evs.map PyData.int)), .own ((ls ++ [(⟨x, u, q⟩ : Leg)]).map dLeg), .val (.int x), .val (.int u), .val (dP q), .no, .no, .no], by simp -implicitDefEqProofs [okT, okO, isO, upO, -List.map_map], ?_, t4, ls ++ [(⟨x, u, q⟩ : Leg)], _, _, _, rfl, by simp [hls], fun l hl => ?_, w4.mono (by rw [List.length_append, List.length_singleton]; omega)⟩
      · simp only [dCard]
        simp -implicitDefEqProofs [okT, okO, isO, upO, -List.map_map, i1, e3, i2, e4, hy, dApp, hz, dLeg]
      · rcases List.mem_append.mp hl with hl | hl
        · exact hlo l hl
        · rcases List.mem_singleton.mp hl with rfl
          exact ⟨hq, u0, u1⟩)
  obtain ⟨r', s3, t3, ls, a7, a8, a9, rfl, hls, hlo, w3⟩ := lp [.scr ns, .twn t2, .val (dCard c), .val (.int most), .val (.int m), .val (.list (evs.map PyData.int)), .own [], .no, .no, .no, .no, .no, .no] ⟨t2, [], .no, .no, .no, rfl, rfl, (fun l h => by cases h), w2.mono (by rw [List.length_nil]; omega)⟩
  have hll : ls.length = evs.length := by rw [← hls, List.length_map]
  have hfl : (fromto 1 ls.length).length = ls.length := by unfold fromto; rw [List.length_map, List.length_range]
  obtain ⟨zs, t4, e4, hzs, w4⟩ := drawsF_ok (cl := call Φ (k - 1)) (own := [11]) (tg := (.n 11)) (cnd := (.yes (.cmp .eq (.callT "_law_draw" 0 1 (.cons (.int 2) .nil)) (.int 0)))) (e := (.nm 11)) (d := 1) (fun t => [.scr ns, .twn t, .val (dCard c), .val (.int most), .val (.int m), .val (.list (evs.map PyData.int)), .own (ls.map dLeg), a7, a8, a9, .no, .no, .no]) (fun x n t ht hn => by
    obtain ⟨y, t', e, y0, y1, w⟩ := draw_ok (Φ := Φ) (k := k - 1) h63 ht (by omega) (m := 2) (by decide) (by omega)
    exact ⟨[.scr ns, .twn t, .val (dCard c), .val (.int most), .val (.int m), .val (.list (evs.map PyData.int)), .own (ls.map dLeg), a7, a8, a9, .no, .val (.int x), .no], decide (y = 0), [.scr ns, (.twn t'), .val (dCard c), .val (.int most), .val (.int m), .val (.list (evs.map PyData.int)), .own (ls.map dLeg), a7, a8, a9, .no, .val (.int x), .no], t', by simp -implicitDefEqProofs [okT, okO, isO, upO, -List.map_map, wipeA], by simp -implicitDefEqProofs [okT, okO, isO, upO, -List.map_map, e], rfl, fun _ => by simp -implicitDefEqProofs [okT, okO, isO, upO, -List.map_map], w⟩) (fromto 1 ls.length) _ t3 w3 (by rw [hfl]; omega)
  rw [hfl] at w4
  obtain ⟨sk, t5, e5, hsk, w5⟩ := pickI_ok (Φ := Φ) (k := k - 1) h63 w4 (by omega) (ds := [1, 2, 7, 100, 250, 1000000]) (by simp) (by omega)
  obtain ⟨y, t6, e6, y0, y1, w6⟩ := draw_ok (Φ := Φ) (k := k - 1) h63 w5 (by omega) (m := 2) (by decide) (by omega)
  simp only [List.mem_cons, List.not_mem_nil, or_false] at hsk
  simp only [List.map_cons, List.map_nil] at e5
  have hft : ∀ x ∈ fromto 1 ls.length, 1 ≤ x ∧ x ≤ ls.length := fun x hx => by
    obtain ⟨j, hj, rfl⟩ := List.mem_map.mp hx
    have := List.mem_range.mp hj
    show 1 ≤ 1 + (j : Int) ∧ 1 + (j : Int) ≤ ls.length
    omega
  have hfp : (fromto 1 ls.length).Pairwise (· < ·) := by
    unfold fromto
    rw [List.pairwise_map]
    refine List.pairwise_lt_range.imp ?_
    intro a b h
    show 1 + (a : Int) < 1 + (b : Int)
    omega
  have hzl := hzs.length_le
  rw [hfl] at hzl
  have hms : ∀ l ∈ ls, 0 ≤ l.ev ∧ l.ev < c.length := fun l hl => hem _ (by rw [← hls]; exact List.mem_map_of_mem hl)
  refine ⟨⟨ls, if zs = [] then [(ls.length : Int)] else zs, sk, decide (y = 0)⟩, t6, ?_, ?_, w6.mono (by omega)⟩
  · have hz1 : (evs.map PyData.int).length ≤ lineN := by rw [List.length_map]; exact lt_line (by omega)
    have hz2 : (fromto 1 ls.length).length ≤ lineN := by rw [hfl]; exact lt_line (by omega)
    have hr : dRange (.int 1) (.int ((ls.length : Int) + 1)) = some ((fromto 1 ls.length).map PyData.int) := by
      rw [dRange_ok (by omega) (by omega) (by omega) (by omega), ft_rg]
      congr 3; omega
    have h4 : (1 : Int) + v = m := hm.symm
    have hcut : cutD (ys.map PyData.int) none (some m) = (ys.map PyData.int).take m.toNat := cut_hi _ (by omega)
    have sg1 : dSorted (.list ((ys.map PyData.int).take m.toNat)) = some (evs.map PyData.int) := by rw [← List.map_take]; exact sg1
    simp only [dCard] at s3 e4 ⊢
    have hlc : (c.map dEv).length = c.length := List.length_map ..
    generalize c.map dEv = CD at *
    by_cases hze : zs = []
    · subst hze
      rw [if_pos rfl]
      simp -implicitDefEqProofs [i_l_drawn_slip, okT, okO, isO, upO, -List.map_map, hlc, e1, h4, lrg_f (show c.length ≤ 1000000 by omega), e2, dPart, hcut, sg1, s3, hr, hz2, e4, e5, e6, dSlip, dT]
    · rw [if_neg hze]
      have hie : zs.isEmpty = false := by cases zs with
        | nil => exact absurd rfl hze
        | cons _ _ => rfl
      simp -implicitDefEqProofs [i_l_drawn_slip, okT, okO, isO, upO, -List.map_map, hlc, e1, h4, lrg_f (show c.length ≤ 1000000 by omega), e2, dPart, hcut, sg1, s3, hr, hz2, e4, e5, e6, dSlip, dT, hie]
  · have key : ∀ x ∈ (if zs = [] then [(ls.length : Int)] else zs), 1 ≤ x ∧ x ≤ ls.length := fun x hx => by
      split at hx
      · rcases List.mem_singleton.mp hx with rfl
        omega
      · exact hft x (hzs.subset hx)
    refine { l1 := show 1 ≤ ls.length by omega, l9 := show ls.length < 10 by omega, lg := fun l hl => ⟨(hms l hl).1, (hms l hl).2, (hlo l hl).1⟩, ss := key, sl := ?_, s1 := show 1 ≤ sk by omega, s2 := show sk ≤ 1000000 by omega, lm := show ls.length ≤ most by omega, sp := ?_, sn := ?_, lp := show (ls.map Leg.ev).Pairwise (· < ·) by rw [hls]; exact hev, rn := fun l hl => (hlo l hl).2 }
    · show (if zs = [] then [(ls.length : Int)] else zs).length ≤ 10
      split
      · simp
      · omega
    · show (if zs = [] then [(ls.length : Int)] else zs).Pairwise (· < ·)
      split
      · simp
      · exact hfp.sublist hzs
    · show (if zs = [] then [(ls.length : Int)] else zs) ≠ []
      split
      · simp
      · assumption
end
end Pd

set_option Elab.async false
set_option linter.all false
set_option maxRecDepth 100000
set_option maxHeartbeats 4000000
set_option exponentiation.threshold 1000000
namespace Pd
open PySem
def rowsT : Nat → List (List Int)
  | 0 => []
  | n + 1 => (rowsT n ++ (rowsT n).map fun t => t ++ [(n : Int)]) ++ [[(n : Int)]]
theorem rowsT_mem : ∀ {n : Nat} {t : List Int}, t ∈ rowsT n → 1 ≤ t.length ∧ t.length ≤ n ∧ ∀ x ∈ t, 0 ≤ x ∧ x < n
  | 0, t, h => by cases h
  | n + 1, t, h => by
    rcases List.mem_append.mp h with h | h
    · rcases List.mem_append.mp h with h | h
      · obtain ⟨a, b, c⟩ := rowsT_mem h
        exact ⟨a, by omega, fun x hx => by have := c x hx; omega⟩
      · obtain ⟨u, hu, rfl⟩ := List.mem_map.mp h
        obtain ⟨a, b, c⟩ := rowsT_mem hu
        refine ⟨by rw [List.length_append, List.length_singleton]; omega, by rw [List.length_append, List.length_singleton]; omega, fun x hx => ?_⟩
        rcases List.mem_append.mp hx with hx | hx
        · have := c x hx; omega
        · rw [List.mem_singleton.mp hx]; omega
    · rw [List.mem_singleton.mp h]
      refine ⟨Nat.le_refl _, by rw [List.length_singleton]; omega, fun x hx => ?_⟩
      rw [List.mem_singleton.mp hx]; omega
theorem rowsT_len : ∀ n : Nat, (rowsT n).length + 1 = 2 ^ n
  | 0 => rfl
  | n + 1 => by
    have := rowsT_len n
    show ((rowsT n ++ (rowsT n).map fun t => t ++ [(n : Int)]) ++ [[(n : Int)]]).length + 1 = _
    rw [List.length_append, List.length_append, List.length_map, List.length_singleton, Nat.pow_succ]
    omega
def ofSize (c : Int) (t : List Int) : Bool := decide ((t.length : Int) = c)
def linesOf (n : Nat) (sizes : List Int) : List (List Int) := sizes.flatMap fun c => sortT ((rowsT n).filter (ofSize c))
theorem sortT_perm (ts : List (List Int)) : (sortT ts).Perm ts := List.mergeSort_perm ts _
theorem linesOf_mem {n : Nat} {sizes : List Int} {t : List Int} (h : t ∈ linesOf n sizes) : 1 ≤ t.length ∧ t.length ≤ n ∧ (∀ x ∈ t, 0 ≤ x ∧ x < n) ∧ (t.length : Int) ∈ sizes := by
  obtain ⟨c, hc, h⟩ := List.mem_flatMap.mp h
  obtain ⟨h1, h2⟩ := List.mem_filter.mp ((sortT_perm _).subset h)
  obtain ⟨a, b, d⟩ := rowsT_mem h1
  have : (t.length : Int) = c := of_decide_eq_true h2
  exact ⟨a, b, d, by rw [this]; exact hc⟩
theorem sorted_tups {ts : List (List Int)} {d : Nat} (h64 : ts.length < 64) (hd : 1 ≤ d) (h : ∀ t ∈ ts, t.length = d ∧ ∀ m ∈ t, 0 ≤ m ∧ m < 65536) : dSorted (.list (ts.map dT)) = some ((sortT ts).map dT) := by
  cases ts with
  | nil => simp [dSorted, dInts, sortI, sortT]
  | cons t ts =>
    have e1 : dTups ((t :: ts).map dT) = some (t :: ts) := by
      generalize t :: ts = l
      induction l with
      | nil => rfl
      | cons a l ih =>
        show (dInts (a.map PyData.int)).bind _ = _
        rw [il_ints]
        show (dTups (l.map dT)).bind _ = _
        rw [ih]; rfl
    have e2 : tupsFit (t :: ts) = true := by
      unfold tupsFit
      rw [Bool.and_eq_true, Bool.and_eq_true]
      refine ⟨decide_eq_true h64, decide_eq_true ?_, List.all_eq_true.mpr fun u hu => ?_⟩
      · show 1 ≤ t.length; rw [(h t List.mem_cons_self).1]; exact hd
      · rw [Bool.and_eq_true]
        refine ⟨decide_eq_true ?_, List.all_eq_true.mpr fun m hm => ?_⟩
        · show u.length = t.length; rw [(h t List.mem_cons_self).1, (h u hu).1]
        · rw [Bool.and_eq_true]
          have := (h u hu).2 m hm
          exact ⟨decide_eq_true this.1, decide_eq_true this.2⟩
    show dSortT ((t :: ts).map dT) = _
    unfold dSortT
    rw [e1]
    show (if tupsFit (t :: ts) = true then _ else _) = _
    rw [if_pos e2]; rfl
def prodR : List Rat → Rat
  | [] => 1
  | x :: xs => x * prodR xs
theorem prodR_app : ∀ xs ys : List Rat, prodR (xs ++ ys) = prodR xs * prodR ys
  | [], ys => by show prodR ys = 1 * prodR ys; grind
  | x :: xs, ys => by
    show x * prodR (xs ++ ys) = x * prodR xs * prodR ys
    rw [prodR_app xs ys]; grind
theorem sumR_perm {xs ys : List Rat} (p : xs.Perm ys) : sumR xs = sumR ys := by
  induction p with
  | nil => rfl
  | cons x p ih => show x + _ = x + _; rw [ih]
  | swap x y l => show y + (x + _) = x + (y + _); grind
  | trans _ _ h1 h2 => exact h1.trans h2
theorem sumR_flat {α : Type} (f : α → Rat) : ∀ l : List (List α), sumR (l.flatten.map f) = sumR (l.map fun x => sumR (x.map f))
  | [] => rfl
  | x :: l => by
    rw [List.flatten_cons, List.map_append, sumR_app, sumR_flat f l]; rfl
theorem sumR_scale (c : Rat) : ∀ l : List Rat, sumR (l.map fun x => x * c) = sumR l * c
  | [] => by show (0 : Rat) = 0 * c; grind
  | x :: l => by
    show x * c + sumR (l.map _) = (x + sumR l) * c
    rw [sumR_scale c l]; grind
def prodF (f : Int → Rat) (t : List Int) : Rat := prodR (t.map f)
theorem upto_succ (n : Nat) : upto (n + 1) = upto n ++ [(n : Int)] := by
  unfold upto
  rw [List.range_succ, List.map_append]; rfl
theorem rows_es (f : Int → Rat) : ∀ (n k : Nat), sumR (((rowsT n).filter (ofSize ((k + 1 : Nat) : Int))).map (prodF f)) = es ((upto n).map f) (k + 1)
  | 0, k => rfl
  | n + 1, k => by
    have ih := rows_es f n
    rw [upto_succ, List.map_append, List.map_singleton, es_snoc, ← ih k]
    show sumR ((((rowsT n ++ (rowsT n).map fun t => t ++ [(n : Int)]) ++ [[(n : Int)]]).filter (ofSize ((k + 1 : Nat) : Int))).map (prodF f)) = _
    rw [List.filter_append, List.filter_append, List.map_append, List.map_append, sumR_app, sumR_app]
    have pl : ∀ t : List Int, prodF f (t ++ [(n : Int)]) = prodF f t * f n := fun t => by
      unfold prodF
      rw [List.map_append, prodR_app]
      show _ * (f n * 1) = _
      grind
    have e2 : ((rowsT n).map fun t => t ++ [(n : Int)]).filter (ofSize ((k + 1 : Nat) : Int)) = ((rowsT n).filter (ofSize (k : Int))).map fun t => t ++ [(n : Int)] := by
      rw [List.filter_map]
      congr 1
      refine List.filter_congr fun t _ => ?_
      show decide (((t ++ [(n : Int)]).length : Int) = _) = decide ((t.length : Int) = k)
      rw [List.length_append, List.length_singleton]
      exact decide_eq_decide.mpr (by omega)
    have e3 : (((rowsT n).filter (ofSize (k : Int))).map fun t => t ++ [(n : Int)]).map (prodF f) = (((rowsT n).filter (ofSize (k : Int))).map (prodF f)).map fun x => x * f n := by
      rw [List.map_map, List.map_map]
      exact List.map_congr_left fun t _ => pl t
    rw [e2, e3, sumR_scale]
    cases k with
    | zero =>
      have z : (rowsT n).filter (ofSize ((0 : Nat) : Int)) = [] := by
        rw [List.filter_eq_nil_iff]
        intro t ht h
        have := (rowsT_mem ht).1
        have h := of_decide_eq_true h
        omega
      rw [z, es_0]
      have : prodF f [(n : Int)] = f n := by show f n * 1 = _; grind
      show sumR _ + (0 : Rat) * f n + sumR ([prodF f [(n : Int)]]) = sumR _ + 1 * f n
      rw [this]
      show _ + _ + (f n + 0) = _
      grind
    | succ k =>
      have z : [[(n : Int)]].filter (ofSize ((k + 1 + 1 : Nat) : Int)) = [] := by
        rw [List.filter_eq_nil_iff]
        intro t ht h
        rw [List.mem_singleton.mp ht] at h
        have h := of_decide_eq_true h
        simp at h; omega
      rw [z, ih k]
      show _ + _ + (0 : Rat) = _
      grind
theorem lines_es (f : Int → Rat) (n : Nat) {sizes : List Int} (hs : ∀ c ∈ sizes, 1 ≤ c) : sumR ((linesOf n sizes).map (prodF f)) = sumR (sizes.map fun c => es ((upto n).map f) c.toNat) := by
  unfold linesOf
  rw [List.flatMap, sumR_flat, List.map_map]
  congr 1
  refine List.map_congr_left fun c hc => ?_
  obtain ⟨j, rfl⟩ : ∃ j : Nat, c = ((j + 1 : Nat) : Int) := ⟨(c - 1).toNat, by have := hs c hc; omega⟩
  show sumR ((sortT _).map (prodF f)) = es _ (j + 1)
  rw [sumR_perm ((sortT_perm _).map _), rows_es]
theorem es_count (p : Int → Bool) : ∀ (l : List Int) (k : Nat), es (l.map fun i => if p i = true then 1 else 0) k = ((ch (l.filter p).length k : Nat) : Rat)
  | l, 0 => by rw [es_0]; cases (l.filter p).length <;> rfl
  | [], k + 1 => rfl
  | x :: l, k + 1 => by
    show es (l.map _) (k + 1) + (if p x = true then (1 : Rat) else 0) * es (l.map _) k = _
    rw [es_count p l (k + 1), es_count p l k]
    by_cases h : p x = true
    · rw [if_pos h, List.filter_cons_of_pos h, List.length_cons]
      show _ = ((ch _ k + ch _ (k + 1) : Nat) : Rat)
      rw [Rat.natCast_add]; grind
    · rw [if_neg h, List.filter_cons_of_neg h]; grind
theorem prod_ind (p : Int → Bool) : ∀ t : List Int, prodF (fun i => if p i = true then 1 else 0) t = if t.all p = true then 1 else 0
  | [] => rfl
  | x :: t => by
    show (if p x = true then (1 : Rat) else 0) * prodF _ t = _
    rw [prod_ind p t, List.all_cons]
    cases p x <;> cases t.all p <;> simp <;> grind
theorem sum_ind {α : Type} (p : α → Bool) : ∀ l : List α, sumR (l.map fun t => if p t = true then 1 else 0) = (((l.filter p).length : Nat) : Rat)
  | [] => rfl
  | x :: l => by
    show (if p x = true then (1 : Rat) else 0) + sumR _ = _
    rw [sum_ind p l]
    by_cases h : p x = true
    · rw [if_pos h, List.filter_cons_of_pos h, List.length_cons, Rat.natCast_add]
      show (1 : Rat) + _ = _ + 1
      grind
    · rw [if_neg h, List.filter_cons_of_neg h]; grind
theorem lines_count (p : Int → Bool) {n : Nat} (hn : n < 10) {sizes : List Int} (hs : ∀ c ∈ sizes, 1 ≤ c ∧ c < 10) : (((linesOf n sizes).filter fun t => t.all p).length : Int) = hmS ((upto n).filter p).length sizes := by
  have h := lines_es (fun i => if p i = true then 1 else 0) n fun c hc => (hs c hc).1
  have e1 : (linesOf n sizes).map (prodF fun i => if p i = true then 1 else 0) = (linesOf n sizes).map fun t => if t.all p = true then 1 else 0 := List.map_congr_left fun t _ => prod_ind p t
  rw [e1, sum_ind] at h
  have hl : ((upto n).filter p).length < 10 := by
    have := List.length_filter_le p (upto n)
    rw [upto_len] at this; omega
  have e2 : sumR (sizes.map fun c => es ((upto n).map fun i => if p i = true then 1 else 0) c.toNat) = ((hmS ((upto n).filter p).length sizes : Int) : Rat) := by
    unfold hmS
    clear h e1
    induction sizes with
    | nil => rfl
    | cons c cs ih =>
      show es _ c.toNat + sumR _ = _
      rw [ih fun x hx => hs x (List.mem_cons_of_mem _ hx), es_count, List.map_cons, List.sum_cons, hm_ch _ hl _ (by have := hs c List.mem_cons_self; omega), Rat.intCast_add]
      rfl
  rw [e2] at h
  have h : ((((linesOf n sizes).filter fun t => t.all p).length : Int) : Rat) = _ := h
  exact Rat.intCast_inj.mp h
theorem lines_len {n : Nat} (hn : n < 10) {sizes : List Int} (hs : ∀ c ∈ sizes, 1 ≤ c ∧ c < 10) : ((linesOf n sizes).length : Int) = hmS n sizes := by
  have h := lines_count (fun _ => true) hn hs
  rw [List.filter_eq_self.mpr (fun _ _ => rfl), upto_len] at h
  have e : (linesOf n sizes).filter (fun t => t.all fun _ => true) = linesOf n sizes := List.filter_eq_self.mpr fun t _ => by simp
  rw [e] at h
  exact h
end Pd

set_option Elab.async false
set_option linter.all false
set_option maxRecDepth 100000
set_option maxHeartbeats 4000000
set_option exponentiation.threshold 1000000
namespace Pd
open PySem
theorem sum_le {q : Int} (f : Int → Int) : ∀ l : List Int, (∀ i ∈ l, f i ≤ q) → (l.map f).sum ≤ q * l.length
  | [], _ => by simp
  | x :: l, h => by
    have h1 := h x List.mem_cons_self
    have h2 := sum_le (q := q) f l fun y hy => h y (List.mem_cons_of_mem _ hy)
    have e : q * ((x :: l).length : Nat) = q * (l.length : Nat) + q := by rw [List.length_cons, Int.natCast_succ, Int.mul_add, Int.mul_one]
    rw [List.map_cons, List.sum_cons, e]; omega
theorem sum_ge {q : Int} (f g : Int → Int) : ∀ l : List Int, (∀ i ∈ l, q - g i ≤ f i) → q * l.length - (l.map g).sum ≤ (l.map f).sum
  | [], _ => by simp
  | x :: l, h => by
    have h1 := h x List.mem_cons_self
    have h2 := sum_ge (q := q) f g l fun y hy => h y (List.mem_cons_of_mem _ hy)
    have e : q * ((x :: l).length : Nat) = q * (l.length : Nat) + q := by rw [List.length_cons, Int.natCast_succ, Int.mul_add, Int.mul_one]
    rw [List.map_cons, List.sum_cons, List.map_cons, List.sum_cons, e]; omega
theorem sum_nn (f : Int → Int) : ∀ l : List Int, (∀ i ∈ l, 0 ≤ f i) → 0 ≤ (l.map f).sum
  | [], _ => by simp
  | x :: l, h => by
    have h1 := h x List.mem_cons_self
    have h2 := sum_nn f l fun y hy => h y (List.mem_cons_of_mem _ hy)
    rw [List.map_cons, List.sum_cons]; omega
theorem sorted_eq : ∀ {a b : List Int}, a.Pairwise (· < ·) → b.Pairwise (· < ·) → (∀ x, x ∈ a ↔ x ∈ b) → a = b
  | [], [], _, _, _ => rfl
  | [], y :: b, _, _, h => absurd ((h y).mpr List.mem_cons_self) (by simp)
  | x :: a, [], _, _, h => absurd ((h x).mp List.mem_cons_self) (by simp)
  | x :: a, y :: b, ha, hb, h => by
    obtain ⟨a1, a2⟩ := List.pairwise_cons.mp ha
    obtain ⟨b1, b2⟩ := List.pairwise_cons.mp hb
    have e : x = y := by
      rcases List.mem_cons.mp ((h x).mp List.mem_cons_self) with e | e
      · exact e
      · rcases List.mem_cons.mp ((h y).mpr List.mem_cons_self) with e' | e'
        · exact e'.symm
        · have := b1 x e
          have := a1 y e'
          omega
    subst e
    rw [sorted_eq a2 b2 fun z => ?_]
    constructor
    · intro hz
      have := a1 z hz
      rcases List.mem_cons.mp ((h z).mp (List.mem_cons_of_mem _ hz)) with e | e
      · omega
      · exact e
    · intro hz
      have := b1 z hz
      rcases List.mem_cons.mp ((h z).mpr (List.mem_cons_of_mem _ hz)) with e | e
      · omega
      · exact e
theorem upto_sorted (m : Nat) : (upto m).Pairwise (· < ·) := by
  unfold upto
  rw [List.pairwise_map]
  exact List.pairwise_lt_range.imp fun h => Int.ofNat_lt.mpr h
section
variable {p : Pool} {r : Res} {m : Nat} {C : Int}
theorem firsts_eq (hp : PoolOk m C p) (hr : ResOk m r) : (upto m).filter (fun i => decide (i ∈ firstsOf p r)) = firstsOf p r := by
  refine sorted_eq ((upto_sorted m).filter _) ?_ fun x => ?_
  · unfold firstsOf
    split
    · exact List.Pairwise.nil
    · rename_i g gs eg
      exact (hr.ks g (by rw [eg]; exact List.mem_cons_self)).1.filter _
  · rw [List.mem_filter, decide_eq_true_eq]
    exact ⟨fun h => h.2, fun h => ⟨mem_upto.mpr (by have := firsts_mem hp hr h; rw [hp.len] at this; exact ⟨this.1, this.2.1⟩), h⟩⟩
theorem term_bd (hp : PoolOk m C p) (hr : ResOk m r) {i : Int} (h : i ∈ firstsOf p r) : gI p.st i * rowOf p r i ≤ 100 * (netOf p r / (firstsOf p r).length) ∧ 0 ≤ gI p.st i * rowOf p r i ∧ gI p.st i * rowOf p r i / 100 ≤ netOf p r / (firstsOf p r).length ∧ netOf p r / (firstsOf p r).length - (gI p.st i / 100 + 1) ≤ gI p.st i * rowOf p r i / 100 := by
  have hf := firsts_mem hp hr h
  have hb := netOf_bd (r := r) hp
  have hl : (0 : Int) < (firstsOf p r).length := by
    have := List.length_pos_of_mem h
    omega
  have q0 := Int.ediv_nonneg hb.1 (show 0 ≤ ((firstsOf p r).length : Int) by omega)
  unfold rowOf
  rw [if_neg hf.2.2.2, if_pos h]
  generalize netOf p r / ((firstsOf p r).length : Int) = q at *
  have s0 := hf.2.2.1
  generalize gI p.st i = st at *
  have e1 := Int.mul_ediv_add_emod (q * 100) st
  have e2 := Int.emod_nonneg (q * 100) (show st ≠ 0 by omega)
  have e3 := Int.emod_lt_of_pos (q * 100) s0
  have e4 : 0 ≤ st * (q * 100 / st) := Int.mul_nonneg (by omega) (Int.ediv_nonneg (by omega) (by omega))
  generalize st * (q * 100 / st) = y at *
  generalize q * 100 % st = z at *
  omega
theorem paid_bd (hp : PoolOk m C p) (hr : ResOk m r) : 0 ≤ paidOf p r ∧ paidOf p r ≤ netOf p r ∧ (firstsOf p r = [] → paidOf p r = 0) ∧ (firstsOf p r ≠ [] → netOf p r - paidOf p r < (firstsOf p r).length + ((firstsOf p r).map fun i => gI p.st i / 100 + 2).sum) := by
  have hb := netOf_bd (r := r) hp
  have h0 := sum_nn (fun i => gI p.st i * rowOf p r i / 100) (firstsOf p r) fun i hi => by
    have := (term_bd hp hr hi).2.1
    show 0 ≤ gI p.st i * rowOf p r i / 100
    omega
  refine ⟨h0, ?_, fun h => by unfold paidOf; rw [h]; rfl, fun h => ?_⟩
  · by_cases h : firstsOf p r = []
    · unfold paidOf
      rw [h]
      exact hb.1
    · have h1 := sum_le (fun i => gI p.st i * rowOf p r i / 100) (firstsOf p r) fun i hi => (term_bd hp hr hi).2.2.1
      have h2 := Int.ediv_mul_le (netOf p r) (show ((firstsOf p r).length : Int) ≠ 0 by have := List.length_pos_iff.mpr h; omega)
      unfold paidOf
      exact Int.le_trans h1 h2
  · have hl := List.length_pos_iff.mpr h
    have h1 := sum_ge (fun i => gI p.st i * rowOf p r i / 100) (fun i => gI p.st i / 100 + 1) (firstsOf p r) fun i hi => (term_bd hp hr hi).2.2.2
    have h2 := Int.mul_ediv_add_emod (netOf p r) ((firstsOf p r).length : Int)
    have h3 := Int.emod_lt_of_pos (netOf p r) (show 0 < ((firstsOf p r).length : Int) by omega)
    have h4 : ((firstsOf p r).map fun i => gI p.st i / 100 + 2).sum = ((firstsOf p r).map fun i => gI p.st i / 100 + 1).sum + (firstsOf p r).length := by
      generalize firstsOf p r = F
      induction F with
      | nil => rfl
      | cons x F ih => rw [List.map_cons, List.sum_cons, ih, List.map_cons, List.sum_cons, List.length_cons]; omega
    have e : netOf p r / ((firstsOf p r).length : Int) * ((firstsOf p r).length : Int) = ((firstsOf p r).length : Int) * (netOf p r / ((firstsOf p r).length : Int)) := Int.mul_comm _ _
    rw [e] at h1
    show netOf p r - ((firstsOf p r).map fun i => gI p.st i * rowOf p r i / 100).sum < _
    omega
theorem staked_perm {p p' : Pool} (hl : p'.st.length = p.st.length) {L : List Int} (hn : L.Nodup) (hL : ∀ x ∈ L, 0 ≤ x ∧ x < p.st.length ∧ x ∉ r.gone) (ho : ∀ i : Int, 0 ≤ i → i < p.st.length → i ∉ L → gI p'.st i = gI p.st i) (hs : (L.map (gI p'.st)).sum = (L.map (gI p.st)).sum) : staked p' r = staked p r := by
  unfold staked
  rw [hl]
  have s1 := sum_split (fun i => decide (i ∈ L)) (gI p'.st) ((upto p.st.length).filter fun i => !decide (i ∈ r.gone))
  have s2 := sum_split (fun i => decide (i ∈ L)) (gI p.st) ((upto p.st.length).filter fun i => !decide (i ∈ r.gone))
  have pm : (((upto p.st.length).filter fun i => !decide (i ∈ r.gone)).filter fun i => decide (i ∈ L)).Perm L := nodup_perm (((upto_nodup _).filter _).filter _) hn fun x => by
    rw [List.mem_filter, List.mem_filter, mem_upto]
    simp only [decide_eq_true_eq, Bool.not_eq_true', decide_eq_false_iff_not]
    exact ⟨fun h => h.2, fun h => ⟨⟨⟨(hL x h).1, (hL x h).2.1⟩, (hL x h).2.2⟩, h⟩⟩
  have p1 := sum_perm (pm.map (gI p'.st))
  have p2 := sum_perm (pm.map (gI p.st))
  have p3 : ((((upto p.st.length).filter fun i => !decide (i ∈ r.gone)).filter fun i => !decide (i ∈ L)).map (gI p'.st)) = ((((upto p.st.length).filter fun i => !decide (i ∈ r.gone)).filter fun i => !decide (i ∈ L)).map (gI p.st)) := List.map_congr_left fun i hi => by
    obtain ⟨h1, h2⟩ := List.mem_filter.mp hi
    obtain ⟨h3, h4⟩ := List.mem_filter.mp h1
    have := mem_upto.mp h3
    exact ho i this.1 this.2 (by simpa using h2)
  rw [p3] at s1
  omega
theorem rows_same {p p' : Pool} (hl : p'.st.length = p.st.length) (hc : p'.cut = p.cut) (hk : p'.car = p.car) {L : List Int} (hn : L.Nodup) (hL : ∀ x ∈ L, 0 ≤ x ∧ x < p.st.length ∧ x ∉ r.gone ∧ ∀ g gs, r.ranks = g :: gs → x ∉ g) (hr : ResOk p.st.length r) (ho : ∀ i : Int, 0 ≤ i → i < p.st.length → i ∉ L → gI p'.st i = gI p.st i) (hs : (L.map (gI p'.st)).sum = (L.map (gI p.st)).sum) (i : Int) : rowOf p' r i = rowOf p r i := by
  have e1 := staked_perm (r := r) hl hn (fun x hx => ⟨(hL x hx).1, (hL x hx).2.1, (hL x hx).2.2.1⟩) ho hs
  have e2 : netOf p' r = netOf p r := by unfold netOf cutOf; rw [e1, hc, hk]
  have inR : ∀ g gs, r.ranks = g :: gs → ∀ x ∈ g, 0 ≤ x ∧ x < p.st.length ∧ x ∉ L := fun g gs eg x hx => by
    have h3 := hr.rg x (List.mem_append.mpr (.inr (by rw [eg]; exact List.mem_flatten.mpr ⟨g, List.mem_cons_self, hx⟩)))
    exact ⟨h3.1, h3.2, fun h => (hL x h).2.2.2 g gs eg hx⟩
  have e3 : firstsOf p' r = firstsOf p r := by
    unfold firstsOf
    split
    · rfl
    · rename_i g gs eg
      refine List.filter_congr fun x hx => ?_
      obtain ⟨a, b, d⟩ := inR g gs eg x hx
      rw [ho x a b d]
  unfold rowOf
  rw [e2, e3]
  by_cases h : i ∈ firstsOf p r
  · have hg : gI p'.st i = gI p.st i := by
      have h' := h
      unfold firstsOf at h'
      split at h'
      · cases h'
      · rename_i g gs eg
        obtain ⟨a, b, d⟩ := inR g gs eg i (List.mem_filter.mp h').1
        exact ho i a b d
    rw [hg]
  · rw [if_neg h, if_neg h]
end
end Pd

set_option Elab.async false
set_option linter.all false
set_option maxRecDepth 100000
set_option maxHeartbeats 4000000
set_option exponentiation.threshold 1000000
namespace Pd
open PySem
def i_law_k24 : Iss := (.cons (.set 1 (.lst .nil))
  (.cons (.for_ (.n 2) (.r1 (.int 5))
  (.cons (.set 3 (.callT "_law_drawn_event" 0 1 (.cons (.int 6) .nil)))
  (.cons (.unp (.t4 (.n 4) (.n 5) (.n 6) (.n 7)) (.tup (.cons (.bi .len (.ix (.nm 3) (.int 0))) (.cons (.int 0) (.cons (.int 0) (.cons (.int 0) .nil))))))
  (.cons (.for_ (.n 8) (.r1 (.int 4))
  (.cons (.par 9 10 (.callT "_law_drawn_pool" 0 1 (.cons (.nm 4) .nil)) (.callT "_law_drawn_result" 0 1 (.cons (.nm 3) .nil)))
  (.cons (.set 11 (.tup (.cons (.ix (.nm 9) (.int 0)) (.cons (.ix (.nm 9) (.int 1)) (.cons (.nm 5) .nil)))))
  (.cons (.ifs (.not (.call "_law_pool_holds" (.cons (.nm 11) (.cons (.nm 10) .nil)))) (.cons (.ret (.bl false))
  .nil)
  .nil)
  (.cons (.set 6 (.bin .add (.nm 6) (.bi .sum (.ix (.nm 11) (.int 0)))))
  (.cons (.set 7 (.bin .add (.bin .add (.bin .add (.nm 7) (.call "given_back" (.cons (.nm 11) (.cons (.nm 10) .nil)))) (.call "cut_of" (.cons (.nm 11) (.cons (.nm 10) .nil)))) (.call "paid_out" (.cons (.nm 11) (.cons (.nm 10) .nil)))))
  (.cons (.set 5 (.call "carried_on" (.cons (.nm 11) (.cons (.nm 10) .nil))))
  (.cons (.set 12 (.lc [13] (.n 13) (.r1 (.nm 4)) (.yes (.and (.cmp .eq (.call "win_share" (.cons (.nm 10) (.cons (.nm 13) .nil))) (.tup (.cons (.int 0) (.cons (.int 1) .nil)))) (.cmp .notin (.nm 13) (.ix (.nm 10) (.int 0))))) (.nm 13)))
  (.cons (.set 14 (.bi .lst (.ix (.nm 11) (.int 0))))
  (.cons (.for_ (.t2 (.n 15) (.n 13)) (.enum (.nm 12))
  (.cons (.put 14 (.nm 13) (.ix (.ix (.nm 11) (.int 0)) (.ix (.nm 12) (.bin .sub (.nm 15) (.int 1)))))
  .nil))
  (.cons (.set 16 (.tup (.cons (.bi .tup (.nm 14)) (.cons (.ix (.nm 11) (.int 1)) (.cons (.ix (.nm 11) (.int 2)) .nil)))))
  (.cons (.ifs (.not (.call "_law_same" (.cons (.call "dividends" (.cons (.nm 16) (.cons (.nm 10) .nil))) (.cons (.call "dividends" (.cons (.nm 11) (.cons (.nm 10) .nil))) .nil)))) (.cons (.ret (.bl false))
  .nil)
  .nil)
  .nil))))))))))))
  (.cons (.ifs (.cmp .ne (.nm 6) (.bin .add (.nm 7) (.nm 5))) (.cons (.ret (.bl false))
  .nil)
  .nil)
  .nil)))))
  (.cons (.ret (.bl true))
  .nil)))
theorem rowsI {m : Nat} {f : Int → Int} {x : Int} (h0 : 0 ≤ x) (h1 : x < m) : gI ((upto m).map f) x = f x := by
  obtain ⟨i, rfl⟩ : ∃ i : Nat, x = i := ⟨x.toNat, by omega⟩
  unfold gI upto
  rw [Int.toNat_natCast, List.getD_eq_getElem?_getD, List.getElem?_map, List.getElem?_map, List.getElem?_range (by omega)]; rfl
theorem d100 (i : Int) : bop .div (.int i) (.int 100) = some (.v (.int (i / 100))) := div_is (by decide) (.inr (sz63 (by decide) (by decide)))
section
variable {Φ : Tab} {k : Nat} {ns : List Int} {t : List D} {p : Pool} {r : Res} {m : Nat} {C : Int}
theorem win_zero (hr : ResOk m r) (i : Int) : winQ r i = 0 ↔ ∀ g gs, r.ranks = g :: gs → i ∉ g := by
  unfold winQ
  split
  · rename_i e
    exact ⟨fun _ g gs h => absurd (e.symm.trans h) (by simp), fun _ => rfl⟩
  · rename_i g gs e
    have hl := List.length_pos_iff.mpr (ranks_ne hr g (by rw [e]; exact List.mem_cons_self))
    constructor
    · intro h g' gs' h'
      rw [e] at h'
      cases h'
      intro hi
      rw [if_pos hi] at h
      have hne := cast_ne (show (0 : Int) < (g.length : Int) by omega)
      have : ((1 : Int) : Rat) / ((g.length : Int) : Rat) * ((g.length : Int) : Rat) = 1 := by
        rw [show ((1 : Int) : Rat) = 1 from rfl]; grind
      rw [h] at this
      grind
    · intro h
      rw [if_neg (h g gs e)]
theorem first_iff (hr : ResOk m r) (i : Int) : i ∈ firstsOf p r ↔ winQ r i ≠ 0 ∧ 0 < gI p.st i := by
  rw [Ne, win_zero hr]
  unfold firstsOf
  split
  · rename_i e
    constructor
    · intro h; cases h
    · rintro ⟨h, _⟩
      exact absurd (fun g gs h' => by rw [e] at h'; cases h') h
  · rename_i g gs e
    rw [List.mem_filter, decide_eq_true_eq]
    constructor
    · rintro ⟨h1, h2⟩
      exact ⟨fun h => h g gs e h1, h2⟩
    · rintro ⟨h1, h2⟩
      refine ⟨?_, h2⟩
      refine Classical.byContradiction fun h => h1 fun g' gs' e' => ?_
      rw [e] at e'
      cases e'
      exact h
theorem term_at (hp : PoolOk m C p) (hr : ResOk m r) (hC : 0 ≤ C) (hC2 : C ≤ 1000000000) (hm : m ≤ 100) {i : Int} (h0 : 0 ≤ i) (h1 : i < m) : dIx (dT p.st) (.int i) = some (.int (gI p.st i)) ∧ dIx (dT ((upto m).map (rowOf p r))) (.int i) = some (.int (rowOf p r i)) ∧ bop .mul (.int (gI p.st i)) (.int (rowOf p r i)) = some (.v (.int (gI p.st i * rowOf p r i))) := by
  have hs := hp.st _ (gI_mem h0 (by rw [hp.len]; exact h1))
  have rb := row_bd hp hr hC (i := i)
  refine ⟨il_ix h0 (by rw [hp.len]; exact h1), ?_, mul_is (sz63 (by decide) (by omega)) (sz63 (by decide) (by omega))⟩
  have := il_ix (l := (upto m).map (rowOf p r)) h0 (by rw [List.length_map, upto_len]; exact h1)
  rw [rowsI h0 h1] at this
  exact this
theorem gone_sum (hp : PoolOk m C p) (hr : ResOk m r) : (r.gone.map fun i => gI p.st i * rowOf p r i / 100).sum = p.st.sum - staked p r := by
  rw [← back_is hp hr]
  refine congrArg List.sum (List.map_congr_left fun i hi => ?_)
  unfold rowOf
  rw [if_pos hi]
  omega
theorem holds_ok [H_l_pool_holds Φ] [H_carried_on Φ] [H_net_of Φ] [H_cut_of Φ] [H_staked Φ] [H_paid_out Φ] [H_dividends Φ] [H_first_ones Φ] [H_given_back Φ] [H_win_share Φ] (hp : PoolOk m C p) (hr : ResOk m r) (hm : m ≤ 100) (hC : 0 ≤ C) (hC2 : C ≤ 1000000000) (hk : 8 ≤ k) : call Φ k "_law_pool_holds" [] [] [dPool p, dRes r] = some (.v (.bool true), []) := by
  rw [call_p H_l_pool_holds.eq (by omega) rfl rfl]
  have e1 := given_ok (Φ := Φ) (k := k - 1) (r := r) hp hm (by omega)
  have e2 := cut_ok (Φ := Φ) (k := k - 1) (r := r) hp hm (by omega)
  have e3 := paid_ok (Φ := Φ) (k := k - 1) hp hr hm hC hC2 (by omega)
  have e4 := carried_ok (Φ := Φ) (k := k - 1) hp hr hm hC hC2 (by omega)
  have e5 := dividends_ok (Φ := Φ) (k := k - 1) hp hr hm hC2 (by omega)
  have gs := gone_sum hp hr
  have gn : 0 ≤ p.st.sum - staked p r := by
    rw [← back_is hp hr]
    refine sum_nn (gI p.st) r.gone fun i hi => ?_
    have := hr.rg i (List.mem_append.mpr (.inl hi))
    exact (hp.st _ (gI_mem this.1 (by rw [hp.len]; exact this.2))).1
  have cb := cutOf_bd (r := r) hp
  obtain ⟨p0, p1, p2, p3⟩ := paid_bd hp hr
  have nb := netOf_bd (r := r) hp
  have en : netOf p r = staked p r - cutOf p r + p.car := rfl
  have fe := firsts_eq hp hr
  have fl := firsts_len hp hr
  have gl : r.gone.length ≤ m := gone_short hr (List.nodup_append.mp hr.nd).1 fun x hx => hr.rg x (List.mem_append.mpr (.inl hx))
  have sm := il_sumt [p.st.sum - staked p r, cutOf p r, paidOf p r, netOf p r - paidOf p r]
  have mn : dMin (.tuple [.int (p.st.sum - staked p r), .int (cutOf p r), .int (paidOf p r), .int (netOf p r - paidOf p r)]) = some (.int (minI [p.st.sum - staked p r, cutOf p r, paidOf p r, netOf p r - paidOf p r])) := rfl
  have mn0 : ¬ minI [p.st.sum - staked p r, cutOf p r, paidOf p r, netOf p r - paidOf p r] < 0 := by
    show ¬ min (p.st.sum - staked p r) (min (cutOf p r) (min (paidOf p r) (netOf p r - paidOf p r))) < 0
    omega
  have sme : [p.st.sum - staked p r, cutOf p r, paidOf p r, netOf p r - paidOf p r].sum = p.st.sum + p.car := by
    simp only [List.sum_cons, List.sum_nil]; omega
  rw [sme] at sm
  simp only [List.map_cons, List.map_nil] at sm
  have ss : dSum (dT p.st) = some (.int p.st.sum) := il_sumt p.st
  have ig : dIx (dRes r) (.int 0) = some (dT r.gone) := by unfold dRes; simp -implicitDefEqProofs [okT, okO, isO, upO, -List.map_map]
  have as3 : ∀ s : AE, asg (.t3 (.n 2) (.n 3) (.n 4)) (dPool p) s = kA2 (.n 4) (.int p.car) (kA2 (.n 3) (.int p.cut) (asg (.n 2) (dT p.st) s)) := fun s => by unfold dPool; rw [asg_t3]
  have lcG : lcS (call Φ (k - 1)) [8] (.n 8) .no (.bin .div (.bin .mul (.ix (.nm 2) (.nm 8)) (.ix (.nm 6) (.nm 8))) (.int 100)) (r.gone.map PyData.int) [.val (dPool p), .val (dRes r), .val (dT p.st), .val (.int p.cut), .val (.int p.car), .val (.tuple [.int (p.st.sum - staked p r), .int (cutOf p r), .int (paidOf p r), .int (netOf p r - paidOf p r)]), .val (dT ((upto m).map (rowOf p r))), .own [], .no, .no, .no] = some (r.gone.map (fun i => PyData.int (gI p.st i * rowOf p r i / 100)), [.val (dPool p), .val (dRes r), .val (dT p.st), .val (.int p.cut), .val (.int p.car), .val (.tuple [.int (p.st.sum - staked p r), .int (cutOf p r), .int (paidOf p r), .int (netOf p r - paidOf p r)]), .val (dT ((upto m).map (rowOf p r))), .own [], .no, .no, .no]) := by
    generalize PyData.tuple [.int (p.st.sum - staked p r), .int (cutOf p r), .int (paidOf p r), .int (netOf p r - paidOf p r)] = PT at *
    refine lcS_map _ _ _ fun i hi => ⟨[.val (dPool p), .val (dRes r), .val (dT p.st), .val (.int p.cut), .val (.int p.car), .val PT, .val (dT ((upto m).map (rowOf p r))), .own [], .val (.int i), .no, .no], [.val (dPool p), .val (dRes r), .val (dT p.st), .val (.int p.cut), .val (.int p.car), .val PT, .val (dT ((upto m).map (rowOf p r))), .own [], .val (.int i), .no, .no], [.val (dPool p), .val (dRes r), .val (dT p.st), .val (.int p.cut), .val (.int p.car), .val PT, .val (dT ((upto m).map (rowOf p r))), .own [], .val (.int i), .no, .no], by simp -implicitDefEqProofs [okT, okO, isO, upO, -List.map_map, wipeA], by simp -implicitDefEqProofs [okT, okO, isO, upO, -List.map_map], ?_, rfl⟩
    have hh := hr.rg i (List.mem_append.mpr (.inl hi))
    obtain ⟨t1, t2, t3⟩ := term_at hp hr hC hC2 hm hh.1 hh.2
    generalize dT ((upto m).map (rowOf p r)) = RR at *
    generalize dT p.st = SS at *
    simp -implicitDefEqProofs [okT, okO, isO, upO, -List.map_map, t1, t2, t3, d100]
  have sG : dSum (.list (r.gone.map fun i => PyData.int (gI p.st i * rowOf p r i / 100))) = some (.int (p.st.sum - staked p r)) := by
    have := il_sum (r.gone.map fun i => gI p.st i * rowOf p r i / 100)
    rw [gs, List.map_map] at this
    exact this
  generalize hPT : PyData.tuple [.int (p.st.sum - staked p r), .int (cutOf p r), .int (paidOf p r), .int (netOf p r - paidOf p r)] = PT at *
  have pt0 : dIx PT (.int 0) = some (.int (p.st.sum - staked p r)) := by rw [← hPT]; simp -implicitDefEqProofs [okT, okO, isO, upO, -List.map_map]
  have pt2 : dIx PT (.int 2) = some (.int (paidOf p r)) := by rw [← hPT]; simp -implicitDefEqProofs [okT, okO, isO, upO, -List.map_map]
  have pt3 : dIx PT (.int 3) = some (.int (netOf p r - paidOf p r)) := by rw [← hPT]; simp -implicitDefEqProofs [okT, okO, isO, upO, -List.map_map]
  obtain ⟨r', lp, a8, a9, pl, rfl⟩ := for_pre (cl := call Φ (k - 1)) (t := (.t2 (.n 8) (.n 9))) (b := (.cons (.ifs (.and (.cmp .ne (.call "win_share" (.cons (.nm 1) (.cons (.nm 8) .nil))) (.tup (.cons (.int 0) (.cons (.int 1) .nil)))) (.cmp .gt (.nm 9) (.int 0))) (.cons (.app 7 (.nm 8)) .nil) (.cons (.ifs (.cmp .ne (.ix (.nm 6) (.nm 8)) (.bin .mul (.int 100) (.bi .int (.cmp .in_ (.nm 8) (.ix (.nm 1) (.int 0)))))) (.cons (.ret (.bl false)) .nil) .nil) .nil)) .nil)) (fun i => .tuple [.int i, .int (gI p.st i)]) (fun pre z => ∃ a8 a9, plainS a8 = true ∧ z = [.val (dPool p), .val (dRes r), .val (dT p.st), .val (.int p.cut), .val (.int p.car), .val PT, .val (dT ((upto m).map (rowOf p r))), .own ((pre.filter fun i => decide (i ∈ firstsOf p r)).map PyData.int), a8, a9, .no]) (upto m) (fun pre x post z hx ⟨a8, a9, pl, h⟩ => by
    subst h
    obtain ⟨hxe, hlt⟩ := upto_pre hx
    have hw := win_ok (Φ := Φ) (k := k - 1) (ranks_ne hr) x (by omega)
    have hne : cop .ne (dQ (winQ r x)) (.tuple [.int 0, .int 1]) = some (!decide (winQ r x = 0)) := il_neq (winQ r x) 0
    obtain ⟨t1, t2, t3⟩ := term_at hp hr hC hC2 hm (show 0 ≤ x by omega) (show x < m by omega)
    have hfl := List.length_filter_le (fun i => decide (i ∈ firstsOf p r)) pre
    have hz : ((pre.filter fun i => decide (i ∈ firstsOf p r)).map PyData.int).length < lineN := by rw [List.length_map, lineV]; omega
    have il : cop .in_ (.int x) (dT r.gone) = some (decide (x ∈ r.gone)) := il_in x r.gone
    have hi2 : ∀ b : Bool, bi1 .int (.bool b) = some (.v (.int (if b = true then 1 else 0))) := fun b => rfl
    have i2 := hi2 (decide (x ∈ r.gone))
    have mm : bop .mul (.int 100) (.int (if decide (x ∈ r.gone) = true then 1 else 0)) = some (.v (.int (100 * (if decide (x ∈ r.gone) = true then 1 else 0)))) := mul_is (sz63 (by decide) (by decide)) (sz63 (by decide) (by split <;> decide))
    by_cases hf : x ∈ firstsOf p r
    · obtain ⟨f1, f2⟩ := (first_iff hr x).mp hf
      rw [decide_eq_false f1] at hne
      refine ⟨[.val (dPool p), .val (dRes r), .val (dT p.st), .val (.int p.cut), .val (.int p.car), .val PT, .val (dT ((upto m).map (rowOf p r))), .own ((pre.filter fun i => decide (i ∈ firstsOf p r)).map PyData.int), .val (.int x), .val (.int (gI p.st x)), .no], [.val (dPool p), .val (dRes r), .val (dT p.st), .val (.int p.cut), .val (.int p.car), .val PT, .val (dT ((upto m).map (rowOf p r))), .own (((pre ++ [x]).filter fun i => decide (i ∈ firstsOf p r)).map PyData.int), .val (.int x), .val (.int (gI p.st x)), .no], by simp -implicitDefEqProofs [okT, okO, isO, upO, -List.map_map], ?_, _, _, rfl, rfl⟩
      rw [List.filter_append, show [x].filter (fun i => decide (i ∈ firstsOf p r)) = [x] by simp [hf], List.map_append]
      generalize (pre.filter fun i => decide (i ∈ firstsOf p r)).map PyData.int = FF at *
      generalize dQ (winQ r x) = DW at *
      generalize dRes r = DR at *
      generalize dT ((upto m).map (rowOf p r)) = RR at *
      generalize dT p.st = SS at *
      simp -implicitDefEqProofs [okT, okO, isO, upO, -List.map_map, hw, hne, f2, dApp, hz]
    · have hrow : rowOf p r x = 100 * (if decide (x ∈ r.gone) = true then 1 else 0) := by
        unfold rowOf
        rw [if_neg hf]
        by_cases hg : x ∈ r.gone
        · rw [if_pos hg, decide_eq_true hg]; rfl
        · rw [if_neg hg, decide_eq_false hg]; rfl
      refine ⟨[.val (dPool p), .val (dRes r), .val (dT p.st), .val (.int p.cut), .val (.int p.car), .val PT, .val (dT ((upto m).map (rowOf p r))), .own ((pre.filter fun i => decide (i ∈ firstsOf p r)).map PyData.int), .val (.int x), .val (.int (gI p.st x)), .no], [.val (dPool p), .val (dRes r), .val (dT p.st), .val (.int p.cut), .val (.int p.car), .val PT, .val (dT ((upto m).map (rowOf p r))), .own (((pre ++ [x]).filter fun i => decide (i ∈ firstsOf p r)).map PyData.int), .val (.int x), .val (.int (gI p.st x)), .no], by simp -implicitDefEqProofs [okT, okO, isO, upO, -List.map_map], ?_, _, _, rfl, rfl⟩
      rw [List.filter_append, show [x].filter (fun i => decide (i ∈ firstsOf p r)) = [] by simp [hf], List.append_nil]
      rw [hrow] at t2
      generalize 100 * (if decide (x ∈ r.gone) = true then 1 else 0) = V at *
      generalize (if decide (x ∈ r.gone) = true then (1 : Int) else 0) = V1 at *
      generalize decide (x ∈ r.gone) = B1 at *
      generalize (pre.filter fun i => decide (i ∈ firstsOf p r)).map PyData.int = FF at *
      have nf : winQ r x = 0 ∨ ¬ 0 < gI p.st x := by
        by_cases q : winQ r x = 0
        · exact .inl q
        · exact .inr fun h => hf ((first_iff hr x).mpr ⟨q, h⟩)
      generalize dQ (winQ r x) = DW at *
      generalize dRes r = DR at *
      generalize dT ((upto m).map (rowOf p r)) = RR at *
      generalize dT p.st = SS at *
      generalize dT r.gone = GG at *
      by_cases q : winQ r x = 0
      · rw [decide_eq_true q] at hne
        simp -implicitDefEqProofs [okT, okO, isO, upO, -List.map_map, hw, hne, t2, ig, il, i2, mm]
      · rw [decide_eq_false q] at hne
        have q2 : ¬ 0 < gI p.st x := nf.resolve_left q
        simp -implicitDefEqProofs [okT, okO, isO, upO, -List.map_map, hw, hne, q2, t2, ig, il, i2, mm]) _ ⟨.no, .no, rfl, rfl⟩
  rw [fe] at lp
  simp only [List.filter_nil, List.map_nil] at lp
  have hen : enumD 0 (p.st.map PyData.int) = (upto m).map fun i => .tuple [.int i, .int (gI p.st i)] := by rw [enum_upto, hp.len]
  have inF : ∀ i ∈ firstsOf p r, 0 ≤ i ∧ i < m := fun i hi => by
    have := firsts_mem hp hr hi
    rw [hp.len] at this
    exact ⟨this.1, this.2.1⟩
  have pe : paidOf p r + (netOf p r - paidOf p r) = netOf p r := by omega
  have hzF : ((firstsOf p r).map PyData.int).length ≤ lineN := by rw [List.length_map]; exact lt_line (by omega)
  have llF : bi1 .len (.list ((firstsOf p r).map PyData.int)) = some (.v (.int ((firstsOf p r).length : Nat))) := by
    show some (Rf.v (PyData.int (((firstsOf p r).map PyData.int).length : Nat))) = _
    rw [List.length_map]
  have lcP : lcS (call Φ (k - 1)) [8] (.n 8) .no (.bin .div (.bin .mul (.ix (.nm 2) (.nm 8)) (.ix (.nm 6) (.nm 8))) (.int 100)) ((firstsOf p r).map PyData.int) [.val (dPool p), .val (dRes r), .val (dT p.st), .val (.int p.cut), .val (.int p.car), .val PT, .val (dT ((upto m).map (rowOf p r))), .val (.list ((firstsOf p r).map PyData.int)), a8, a9, .no] = some ((firstsOf p r).map (fun i => PyData.int (gI p.st i * rowOf p r i / 100)), [.val (dPool p), .val (dRes r), .val (dT p.st), .val (.int p.cut), .val (.int p.car), .val PT, .val (dT ((upto m).map (rowOf p r))), .val (.list ((firstsOf p r).map PyData.int)), a8, a9, .no]) := by
    generalize PyData.list ((firstsOf p r).map PyData.int) = FL at *
    refine lcS_map _ _ _ fun i hi => ⟨[.val (dPool p), .val (dRes r), .val (dT p.st), .val (.int p.cut), .val (.int p.car), .val PT, .val (dT ((upto m).map (rowOf p r))), .val FL, .val (.int i), a9, .no], [.val (dPool p), .val (dRes r), .val (dT p.st), .val (.int p.cut), .val (.int p.car), .val PT, .val (dT ((upto m).map (rowOf p r))), .val FL, .val (.int i), a9, .no], [.val (dPool p), .val (dRes r), .val (dT p.st), .val (.int p.cut), .val (.int p.car), .val PT, .val (dT ((upto m).map (rowOf p r))), .val FL, .val (.int i), a9, .no], by simp -implicitDefEqProofs [okT, okO, isO, upO, -List.map_map, wipeA], by simp -implicitDefEqProofs [okT, okO, isO, upO, -List.map_map], ?_, rfl⟩
    obtain ⟨t1, t2, t3⟩ := term_at hp hr hC hC2 hm (inF i hi).1 (inF i hi).2
    generalize dT ((upto m).map (rowOf p r)) = RR at *
    generalize dT p.st = SS at *
    simp -implicitDefEqProofs [okT, okO, isO, upO, -List.map_map, t1, t2, t3, d100]
  have sP : dSum (.list ((firstsOf p r).map fun i => PyData.int (gI p.st i * rowOf p r i / 100))) = some (.int (paidOf p r)) := by
    have := il_sum ((firstsOf p r).map fun i => gI p.st i * rowOf p r i / 100)
    rw [List.map_map] at this
    exact this
  have lcE : lcS (call Φ (k - 1)) [8] (.n 8) (.yes (.cmp .gt (.bin .mul (.ix (.nm 2) (.nm 8)) (.ix (.nm 6) (.nm 8))) (.bin .mul (.int 100) (.bin .div (.nm 10) (.bi .len (.nm 7)))))) (.nm 8) ((firstsOf p r).map PyData.int) [.val (dPool p), .val (dRes r), .val (dT p.st), .val (.int p.cut), .val (.int p.car), .val PT, .val (dT ((upto m).map (rowOf p r))), .val (.list ((firstsOf p r).map PyData.int)), a8, a9, .val (.int (netOf p r))] = some ([], [.val (dPool p), .val (dRes r), .val (dT p.st), .val (.int p.cut), .val (.int p.car), .val PT, .val (dT ((upto m).map (rowOf p r))), .val (.list ((firstsOf p r).map PyData.int)), a8, a9, .val (.int (netOf p r))]) := by
    have h := lcS_filter (cl := call Φ (k - 1)) (own := [8]) (tg := (.n 8)) (c := (.yes (.cmp .gt (.bin .mul (.ix (.nm 2) (.nm 8)) (.ix (.nm 6) (.nm 8))) (.bin .mul (.int 100) (.bin .div (.nm 10) (.bi .len (.nm 7))))))) (e := (.nm 8)) (r := [.val (dPool p), .val (dRes r), .val (dT p.st), .val (.int p.cut), .val (.int p.car), .val PT, .val (dT ((upto m).map (rowOf p r))), .val (.list ((firstsOf p r).map PyData.int)), a8, a9, .val (.int (netOf p r))]) PyData.int PyData.int (fun _ => false) (firstsOf p r) fun i hi => ⟨[.val (dPool p), .val (dRes r), .val (dT p.st), .val (.int p.cut), .val (.int p.car), .val PT, .val (dT ((upto m).map (rowOf p r))), .val (.list ((firstsOf p r).map PyData.int)), .val (.int i), a9, .val (.int (netOf p r))], [.val (dPool p), .val (dRes r), .val (dT p.st), .val (.int p.cut), .val (.int p.car), .val PT, .val (dT ((upto m).map (rowOf p r))), .val (.list ((firstsOf p r).map PyData.int)), .val (.int i), a9, .val (.int (netOf p r))], by simp -implicitDefEqProofs [okT, okO, isO, upO, -List.map_map, wipeA], ?_, fun h => absurd h (by simp), fun _ => rfl⟩
    · rw [List.filter_eq_nil_iff.mpr (fun _ _ => by simp)] at h
      exact h
    · obtain ⟨t1, t2, t3⟩ := term_at hp hr hC hC2 hm (inF i hi).1 (inF i hi).2
      have hl : (0 : Int) < ((firstsOf p r).length : Nat) := by
        have := List.length_pos_of_mem hi
        omega
      have dv := div_is (i := netOf p r) hl (.inr (sz63 (by decide) (by omega)))
      have db := divB nb.1 nb.2 hl
      have ml := mul_is (i := 100) (j := netOf p r / ((firstsOf p r).length : Nat)) (sz63 (by decide) (by decide)) (sz63 (by decide) (by omega))
      have le := (term_bd hp hr hi).1
      have le' : ¬ 100 * (netOf p r / ((firstsOf p r).length : Nat)) < gI p.st i * rowOf p r i := by omega
      generalize (firstsOf p r).map PyData.int = FL at *
      generalize dT ((upto m).map (rowOf p r)) = RR at *
      generalize dT p.st = SS at *
      generalize PyData.list FL = FLL at *
      simp -implicitDefEqProofs [okT, okO, isO, upO, -List.map_map, t1, t2, t3, llF, dv, ml, le']
  have lcL : lcS (call Φ (k - 1)) [8] (.n 8) .no (.bin .add (.bin .div (.ix (.nm 2) (.nm 8)) (.int 100)) (.int 2)) ((firstsOf p r).map PyData.int) [.val (dPool p), .val (dRes r), .val (dT p.st), .val (.int p.cut), .val (.int p.car), .val PT, .val (dT ((upto m).map (rowOf p r))), .val (.list ((firstsOf p r).map PyData.int)), a8, a9, .val (.int (netOf p r))] = some ((firstsOf p r).map (fun i => PyData.int (gI p.st i / 100 + 2)), [.val (dPool p), .val (dRes r), .val (dT p.st), .val (.int p.cut), .val (.int p.car), .val PT, .val (dT ((upto m).map (rowOf p r))), .val (.list ((firstsOf p r).map PyData.int)), a8, a9, .val (.int (netOf p r))]) := by
    generalize PyData.list ((firstsOf p r).map PyData.int) = FL at *
    refine lcS_map _ _ _ fun i hi => ⟨[.val (dPool p), .val (dRes r), .val (dT p.st), .val (.int p.cut), .val (.int p.car), .val PT, .val (dT ((upto m).map (rowOf p r))), .val FL, .val (.int i), a9, .val (.int (netOf p r))], [.val (dPool p), .val (dRes r), .val (dT p.st), .val (.int p.cut), .val (.int p.car), .val PT, .val (dT ((upto m).map (rowOf p r))), .val FL, .val (.int i), a9, .val (.int (netOf p r))], [.val (dPool p), .val (dRes r), .val (dT p.st), .val (.int p.cut), .val (.int p.car), .val PT, .val (dT ((upto m).map (rowOf p r))), .val FL, .val (.int i), a9, .val (.int (netOf p r))], by simp -implicitDefEqProofs [okT, okO, isO, upO, -List.map_map, wipeA], by simp -implicitDefEqProofs [okT, okO, isO, upO, -List.map_map], ?_, rfl⟩
    obtain ⟨t1, t2, t3⟩ := term_at hp hr hC hC2 hm (inF i hi).1 (inF i hi).2
    generalize dT ((upto m).map (rowOf p r)) = RR at *
    generalize dT p.st = SS at *
    simp -implicitDefEqProofs [okT, okO, isO, upO, -List.map_map, t1, d100]
  have sL : dSum (.list ((firstsOf p r).map fun i => PyData.int (gI p.st i / 100 + 2))) = some (.int ((firstsOf p r).map fun i => gI p.st i / 100 + 2).sum) := by
    have := il_sum ((firstsOf p r).map fun i => gI p.st i / 100 + 2)
    rw [List.map_map] at this
    exact this
  have itG : dItems (dT r.gone) = some (r.gone.map PyData.int) := rfl
  have hzG : (r.gone.map PyData.int).length ≤ lineN := by rw [List.length_map]; exact lt_line (by omega)
  have enF : ∀ st : List PyData, dSum (.list st) = dSum (.list st) := fun _ => rfl
  simp only [dT] at *
  generalize hGV : r.gone.map (fun i => PyData.int (gI p.st i * rowOf p r i / 100)) = GV at *
  generalize hGI : r.gone.map PyData.int = GI at *
  generalize hRR : ((upto m).map (rowOf p r)).map PyData.int = RR at *
  generalize hEN : (upto m).map (fun i => PyData.tuple [.int i, .int (gI p.st i)]) = EN at *
  generalize hSS : p.st.map PyData.int = SS at *
  generalize hDR : dRes r = DR at *
  generalize hDP : dPool p = DP at *
  by_cases hF : firstsOf p r = []
  · have p2' := p2 hF
    rw [hF] at lp lcP sP lcE
    simp only [List.map_nil] at lp lcP sP lcE
    generalize paidOf p r = PD at *
    subst p2'
    simp only [Int.sub_zero] at e4 hPT sm mn mn0 pt3 pe
    simp -implicitDefEqProofs [i_l_pool_holds, okT, okO, isO, upO, -List.map_map, as3, e1, e2, e3, e4, e5, ss, hPT, sm, mn, mn0, ig, lcG, sG, hen, lp, pl, hzG, pt0, pt2, pt3, lcP, sP, pe, lcE]
  · have p3' := p3 hF
    have hlen : ((firstsOf p r).map PyData.int) ≠ [] := by simpa using hF
    generalize hFL : (firstsOf p r).map PyData.int = FL at *
    generalize ((firstsOf p r).map fun i => gI p.st i / 100 + 2).sum = SU at *
    generalize (firstsOf p r).map (fun i => PyData.int (gI p.st i / 100 + 2)) = LV at *
    generalize (firstsOf p r).map (fun i => PyData.int (gI p.st i * rowOf p r i / 100)) = PV at *
    have p4 : netOf p r - paidOf p r < ((firstsOf p r).length : Nat) + SU := by omega
    simp -implicitDefEqProofs [i_l_pool_holds, okT, okO, isO, upO, -List.map_map, as3, e1, e2, e3, e4, e5, ss, hPT, sm, mn, mn0, ig, lcG, sG, hen, lp, pl, hzG, pt0, pt2, pt3, lcP, sP, pe, hzF, lcE, lcL, sL, llF, hlen, p4]
def gP (L : List Int) (a : Int) : Int := if a = 0 then gI L ((L.length : Int) - 1) else gI L (a - 1)
theorem upto_cons (n : Nat) : upto (n + 1) = 0 :: (upto n).map fun i => i + 1 := by
  unfold upto
  rw [List.range_succ_eq_map, List.map_cons, List.map_map, List.map_map]
  rfl
theorem rot_sum (L : List Int) (f : Int → Int) : ((upto L.length).map fun b => f (gP L b)).sum = (L.map f).sum := by
  cases hn : L.length with
  | zero => rw [List.length_eq_zero_iff.mp hn]; rfl
  | succ n =>
    have e1 : (L.map f).sum = (((upto n).map (fun b => f (gI L b))).sum + f (gI L n)) := by
      have h := upto_get L
      rw [hn, upto_succ, List.map_append] at h
      have h2 := congrArg (fun l : List Int => (l.map f).sum) h
      simp only [List.map_append, List.map_map, List.sum_append, List.map_cons, List.map_nil, List.sum_cons, List.sum_nil, Int.add_zero] at h2
      exact h2.symm
    rw [e1, upto_cons, List.map_cons, List.sum_cons, List.map_map]
    have e2 : ((fun b => f (gP L b)) ∘ fun i => i + 1) = fun b => if b = -1 then f (gP L 0) else f (gI L b) := funext fun b => by
      show f (gP L (b + 1)) = _
      unfold gP
      by_cases h : b = -1
      · rw [if_pos h, if_pos (by omega), if_pos rfl]
      · rw [if_neg h, if_neg (by omega), Int.add_sub_cancel]
    have e3 : (upto n).map ((fun b => f (gP L b)) ∘ fun i => i + 1) = (upto n).map fun b => f (gI L b) := by
      rw [e2]
      refine List.map_congr_left fun b hb => ?_
      have := mem_upto.mp hb
      rw [if_neg (by omega)]
    rw [e3]
    have e4 : gP L 0 = gI L n := by
      unfold gP
      rw [if_pos rfl, hn]
      congr 1; omega
    rw [e4]; omega
theorem gI_set {l : List Int} {i : Int} (h0 : 0 ≤ i) (h1 : i < l.length) (v : Int) {j : Int} (hj : 0 ≤ j) : gI (l.set i.toNat v) j = if j = i then v else gI l j := by
  unfold gI
  rw [List.getD_eq_getElem?_getD, List.getElem?_set, List.getD_eq_getElem?_getD]
  by_cases e : i.toNat = j.toNat
  · rw [if_pos e, if_pos (by omega), if_pos (by omega)]; rfl
  · rw [if_neg e, if_neg (by omega)]
theorem gP_at {L : List Int} {a : Int} (h0 : 0 ≤ a) (h1 : a < L.length) : dIx (.list (L.map PyData.int)) (.int (a - 1)) = some (.int (gP L a)) := by
  rw [ixx_l, ixx_at]
  unfold gP
  by_cases e : a = 0
  · subst e
    rw [if_neg (by omega), if_pos (by rw [List.length_map]; omega), if_pos rfl, List.getElem?_map, List.length_map]
    unfold gI
    rw [List.getD_eq_getElem?_getD, List.getElem?_eq_getElem (by omega), List.getElem?_eq_getElem (by omega)]
    show some (PyData.int _) = some (PyData.int _)
    congr 2
  · rw [if_pos (by omega), if_neg e, List.getElem?_map]
    unfold gI
    rw [List.getD_eq_getElem?_getD, List.getElem?_eq_getElem (by omega)]; rfl
def lostOf (m : Nat) (r : Res) : List Int := (upto m).filter fun i => decide (winQ r i = 0) && !decide (i ∈ r.gone)
theorem swap_loop [H_l_same Φ] [H_l_draw Φ] [H_l_pick Φ] [H_l_low Φ] [H_l_drawn_price Φ] [H_l_drawn_event Φ] [H_l_mixed Φ] [H_l_drawn_result Φ] [H_win_share Φ] [H_staked Φ] [H_given_back Φ] [H_cut_of Φ] [H_net_of Φ] [H_first_ones Φ] [H_dividends Φ] [H_paid_out Φ] [H_carried_on Φ] [H_l_drawn_pool Φ] [H_l_pool_holds Φ] {L : List Int} (hn : L.Nodup) (hL : ∀ x ∈ L, 0 ≤ x ∧ x < p.st.length) (hz : L.length ≤ 100) (a1 a2 a3 a4 a5 a6 a7 a8 a9 a10 a13 a15 a16 : As) (hp13 : plainS a13 = true) :
    ∃ (st' : List Int) (b13 b15 : As), plainS b13 = true ∧ st'.length = p.st.length ∧ (∀ j : Int, 0 ≤ j → j < p.st.length → j ∉ L → gI st' j = gI p.st j) ∧ (∀ b : Int, 0 ≤ b → b < L.length → gI st' (gI L b) = gI p.st (gP L b)) ∧ forS (call Φ k) (.t2 (.n 15) (.n 13)) (.cons (.put 14 (.nm 13) (.ix (.ix (.nm 11) (.int 0)) (.ix (.nm 12) (.bin .sub (.nm 15) (.int 1))))) .nil) ((upto L.length).map fun i => .tuple [.int i, .int (gI L i)]) [.scr ns, a1, a2, a3, a4, a5, a6, a7, a8, a9, a10, .val (dPool p), .val (.list (L.map PyData.int)), a13, .own (p.st.map PyData.int), a15, a16] = some (.nx [.scr ns, a1, a2, a3, a4, a5, a6, a7, a8, a9, a10, .val (dPool p), .val (.list (L.map PyData.int)), b13, .own (st'.map PyData.int), b15, a16]) := by
  obtain ⟨r', e, st', b13, b15, h1, h2, h3, h4, rfl⟩ := for_pre (cl := call Φ k) (t := (.t2 (.n 15) (.n 13))) (b := (.cons (.put 14 (.nm 13) (.ix (.ix (.nm 11) (.int 0)) (.ix (.nm 12) (.bin .sub (.nm 15) (.int 1))))) .nil)) (fun i => .tuple [.int i, .int (gI L i)]) (fun pre z => ∃ (st' : List Int) (b13 b15 : As), plainS b13 = true ∧ st'.length = p.st.length ∧ (∀ j : Int, 0 ≤ j → j < p.st.length → (∀ b : Int, 0 ≤ b → b < pre.length → j ≠ gI L b) → gI st' j = gI p.st j) ∧ (∀ b : Int, 0 ≤ b → b < pre.length → gI st' (gI L b) = gI p.st (gP L b)) ∧ z = [.scr ns, a1, a2, a3, a4, a5, a6, a7, a8, a9, a10, .val (dPool p), .val (.list (L.map PyData.int)), b13, .own (st'.map PyData.int), b15, a16]) (upto L.length) (fun pre x post z hx ⟨st', b13, b15, h1, h2, h3, h4, h⟩ => by
    subst h
    obtain ⟨hxe, hlt⟩ := upto_pre hx
    have x0 : 0 ≤ x := by omega
    have x1 : x < L.length := by omega
    have hm := hL _ (gI_mem x0 x1)
    have gp := gP_at x0 x1
    have gpm : 0 ≤ gP L x ∧ gP L x < p.st.length := by
      unfold gP
      split
      · exact hL _ (gI_mem (by omega) (by omega))
      · exact hL _ (gI_mem (by omega) (by omega))
    have i1 : dIx (dT p.st) (.int (gP L x)) = some (.int (gI p.st (gP L x))) := il_ix gpm.1 gpm.2
    have i0 : dIx (dPool p) (.int 0) = some (dT p.st) := by unfold dPool; simp -implicitDefEqProofs [okT, okO, isO, upO, -List.map_map]
    have pu := put_int (ds := st'.map PyData.int) (.int (gI p.st (gP L x))) hm.1 (by rw [List.length_map, h2]; exact hm.2)
    rw [← List.map_set] at pu
    refine ⟨[.scr ns, a1, a2, a3, a4, a5, a6, a7, a8, a9, a10, .val (dPool p), .val (.list (L.map PyData.int)), .val (.int (gI L x)), .own (st'.map PyData.int), .val (.int x), a16], [.scr ns, a1, a2, a3, a4, a5, a6, a7, a8, a9, a10, .val (dPool p), .val (.list (L.map PyData.int)), .val (.int (gI L x)), .own ((st'.set (gI L x).toNat (gI p.st (gP L x))).map PyData.int), .val (.int x), a16], by simp -implicitDefEqProofs [okT, okO, isO, upO, -List.map_map], ?_, _, _, _, rfl, by rw [List.length_set]; exact h2, ?_, ?_, rfl⟩
    · generalize (st'.set (gI L x).toNat (gI p.st (gP L x))).map PyData.int = S2 at *
      generalize st'.map PyData.int = S1 at *
      generalize L.map PyData.int = LL at *
      generalize dT p.st = PS at *
      generalize dPool p = DP at *
      simp -implicitDefEqProofs [okT, okO, isO, upO, -List.map_map, i0, i1, gp, pu]
    · intro j j0 j1 hj
      rw [gI_set hm.1 (by rw [h2]; exact hm.2) _ j0, if_neg (hj x x0 (by rw [List.length_append, List.length_singleton]; omega))]
      exact h3 j j0 j1 fun b b0 b1 => hj b b0 (by rw [List.length_append]; omega)
    · intro b b0 b1
      rw [List.length_append, List.length_singleton] at b1
      rw [gI_set hm.1 (by rw [h2]; exact hm.2) _ (hL _ (gI_mem b0 (by omega))).1]
      by_cases q : b = x
      · rw [q, if_pos rfl]
      · rw [if_neg ?_]
        · exact h4 b b0 (by omega)
        · intro e
          rw [gI_eq b0 (by omega), gI_eq x0 x1] at e
          have := (List.getElem_inj hn).mp e
          omega) _ ⟨p.st, a13, a15, hp13, rfl, fun j _ _ _ => rfl, fun b b0 b1 => absurd b1 (by simp; omega), rfl⟩
  rw [upto_len] at h3 h4
  refine ⟨st', b13, b15, h1, h2, fun j j0 j1 hj => h3 j j0 j1 fun b b0 b1 hb => hj (by rw [hb]; exact gI_mem b0 b1), h4, e⟩
theorem sok_ints {l : List Int} (h : l.length ≤ 100000) (n : Nat) : sok (n + 2) (dT l) = true := by
  show (decide ((l.map PyData.int).length ≤ 100000) && (l.map PyData.int).all (sok (n + 1))) = true
  rw [List.length_map, decide_eq_true h, Bool.true_and, List.all_map, List.all_eq_true]
  intro x _; rfl
theorem k24_turn [H_l_same Φ] [H_l_draw Φ] [H_l_pick Φ] [H_l_low Φ] [H_l_drawn_price Φ] [H_l_drawn_event Φ] [H_l_mixed Φ] [H_l_drawn_result Φ] [H_win_share Φ] [H_staked Φ] [H_given_back Φ] [H_cut_of Φ] [H_net_of Φ] [H_first_ones Φ] [H_dividends Φ] [H_paid_out Φ] [H_carried_on Φ] [H_l_drawn_pool Φ] [H_l_pool_holds Φ] (h63 : ns.length ≤ 63) {n : Nat} (ht : Tw n t) (hn : n + 100 ≤ 10000000) {e : Ev} (he : EvOk 6 e) {K S O B : Int} (k0 : 0 ≤ K) (k1 : K ≤ B) (hB : B ≤ 1000000) (hS : S = O + K) (a2 a8 a9 a10 a11 a12 a13 a14 a15 a16 : As) (hp13 : plainS a13 = true) :
    ∃ (t' : List D) (K' S' O' : Int) (b9 b10 b11 b12 b13 b14 b15 b16 : As), exSs (call Φ 60) (.cons (.par 9 10 (.callT "_law_drawn_pool" 0 1 (.cons (.nm 4) .nil)) (.callT "_law_drawn_result" 0 1 (.cons (.nm 3) .nil))) (.cons (.set 11 (.tup (.cons (.ix (.nm 9) (.int 0)) (.cons (.ix (.nm 9) (.int 1)) (.cons (.nm 5) .nil))))) (.cons (.ifs (.not (.call "_law_pool_holds" (.cons (.nm 11) (.cons (.nm 10) .nil)))) (.cons (.ret (.bl false)) .nil) .nil) (.cons (.set 6 (.bin .add (.nm 6) (.bi .sum (.ix (.nm 11) (.int 0))))) (.cons (.set 7 (.bin .add (.bin .add (.bin .add (.nm 7) (.call "given_back" (.cons (.nm 11) (.cons (.nm 10) .nil)))) (.call "cut_of" (.cons (.nm 11) (.cons (.nm 10) .nil)))) (.call "paid_out" (.cons (.nm 11) (.cons (.nm 10) .nil))))) (.cons (.set 5 (.call "carried_on" (.cons (.nm 11) (.cons (.nm 10) .nil)))) (.cons (.set 12 (.lc [13] (.n 13) (.r1 (.nm 4)) (.yes (.and (.cmp .eq (.call "win_share" (.cons (.nm 10) (.cons (.nm 13) .nil))) (.tup (.cons (.int 0) (.cons (.int 1) .nil)))) (.cmp .notin (.nm 13) (.ix (.nm 10) (.int 0))))) (.nm 13))) (.cons (.set 14 (.bi .lst (.ix (.nm 11) (.int 0)))) (.cons (.for_ (.t2 (.n 15) (.n 13)) (.enum (.nm 12)) (.cons (.put 14 (.nm 13) (.ix (.ix (.nm 11) (.int 0)) (.ix (.nm 12) (.bin .sub (.nm 15) (.int 1))))) .nil)) (.cons (.set 16 (.tup (.cons (.bi .tup (.nm 14)) (.cons (.ix (.nm 11) (.int 1)) (.cons (.ix (.nm 11) (.int 2)) .nil))))) (.cons (.ifs (.not (.call "_law_same" (.cons (.call "dividends" (.cons (.nm 16) (.cons (.nm 10) .nil))) (.cons (.call "dividends" (.cons (.nm 11) (.cons (.nm 10) .nil))) .nil)))) (.cons (.ret (.bl false)) .nil) .nil) .nil))))))))))) [.scr ns, .own t, a2, .val (dEv e), .val (.int (e.ps.length : Nat)), .val (.int K), .val (.int S), .val (.int O), a8, a9, a10, a11, a12, a13, a14, a15, a16] = some (.nx [.scr ns, .own t', a2, .val (dEv e), .val (.int (e.ps.length : Nat)), .val (.int K'), .val (.int S'), .val (.int O'), a8, b9, b10, b11, b12, b13, b14, b15, b16]) ∧ plainS b13 = true ∧ S' = O' + K' ∧ 0 ≤ K' ∧ K' ≤ 30000 + B ∧ Tw (n + 100) t' := by
  have lm := he.lm
  obtain ⟨p0, t1, e1, hp0, w1⟩ := pool_ok (Φ := Φ) (k := 60) h63 ht (m := e.ps.length) (by omega) (by omega) (by decide)
  obtain ⟨r, t2, e2, hr, w2⟩ := result_ok (Φ := Φ) (k := 60) h63 w1 e (by omega) (by omega) (by decide)
  obtain ⟨p, hpe⟩ : ∃ p : Pool, p = { p0 with car := K } := ⟨_, rfl⟩
  have hp : PoolOk e.ps.length B p := by rw [hpe]; exact ⟨hp0.len, hp0.st, hp0.c0, hp0.c1, k0, k1⟩
  have hm : e.ps.length ≤ 100 := by omega
  have f1 := holds_ok (Φ := Φ) (k := 60) hp hr hm (by omega) (by omega) (by decide)
  have f2 := given_ok (Φ := Φ) (k := 60) (r := r) hp hm (by decide)
  have f3 := cut_ok (Φ := Φ) (k := 60) (r := r) hp hm (by decide)
  have f4 := paid_ok (Φ := Φ) (k := 60) hp hr hm (by omega) (by omega) (by decide)
  have f5 := carried_ok (Φ := Φ) (k := 60) hp hr hm (by omega) (by omega) (by decide)
  have f6 := dividends_ok (Φ := Φ) (k := 60) hp hr hm (by omega) (by decide)
  have nb := netOf_bd (r := r) hp
  obtain ⟨pb0, pb1, _, _⟩ := paid_bd hp hr
  have en : netOf p r = staked p r - cutOf p r + p.car := rfl
  have hcar : p.car = K := by rw [hpe]
  have hnd : (lostOf e.ps.length r).Nodup := (upto_nodup _).filter _
  have hLm : ∀ x ∈ lostOf e.ps.length r, 0 ≤ x ∧ x < p.st.length ∧ winQ r x = 0 ∧ x ∉ r.gone := fun x hx => by
    obtain ⟨h1, h2⟩ := List.mem_filter.mp hx
    rw [Bool.and_eq_true] at h2
    have := mem_upto.mp h1
    exact ⟨this.1, by rw [hp.len]; exact this.2, of_decide_eq_true h2.1, by simpa using h2.2⟩
  have hll : (lostOf e.ps.length r).length ≤ 100 := by
    have := List.length_filter_le (fun i => decide (winQ r i = 0) && !decide (i ∈ r.gone)) (upto e.ps.length)
    rw [upto_len] at this
    unfold lostOf
    omega
  obtain ⟨st', b13, b15, h13, hs1, hs2, hs3, lp⟩ := swap_loop (Φ := Φ) (k := 60) (ns := ns) (p := p) hnd (fun x hx => ⟨(hLm x hx).1, (hLm x hx).2.1⟩) hll (.own t2) a2 (.val (dEv e)) (.val (.int (e.ps.length : Nat))) (.val (.int (netOf p r - paidOf p r))) (.val (.int (S + p.st.sum))) (.val (.int (O + (p.st.sum - staked p r) + cutOf p r + paidOf p r))) a8 (.val (dPool p0)) (.val (dRes r)) a13 a15 a16 hp13
  have rs := rot_sum (lostOf e.ps.length r) (gI p.st)
  have hsum : ((lostOf e.ps.length r).map (gI st')).sum = ((lostOf e.ps.length r).map (gI p.st)).sum := by
    rw [← rs]
    have h := congrArg (fun l : List Int => (l.map (gI st')).sum) (upto_get (lostOf e.ps.length r))
    simp only [List.map_map] at h
    rw [← h]
    refine congrArg List.sum (List.map_congr_left fun b hb => ?_)
    have := mem_upto.mp hb
    exact hs3 b this.1 this.2
  have rsame : ∀ i, rowOf { p with st := st' } r i = rowOf p r i := fun i => rows_same (p := p) (p' := { p with st := st' }) hs1 rfl rfl hnd (fun x hx => ⟨(hLm x hx).1, (hLm x hx).2.1, (hLm x hx).2.2.2, (win_zero hr x).mp (hLm x hx).2.2.1⟩) (by rw [hp.len]; exact hr) hs2 hsum i
  have gPm : ∀ b : Int, 0 ≤ b → b < (lostOf e.ps.length r).length → 0 ≤ gP (lostOf e.ps.length r) b ∧ gP (lostOf e.ps.length r) b < p.st.length := fun b b0 b1 => by
    unfold gP
    split
    · have := hLm _ (gI_mem (l := lostOf e.ps.length r) (i := ((lostOf e.ps.length r).length : Int) - 1) (by omega) (by omega))
      exact ⟨this.1, this.2.1⟩
    · have := hLm _ (gI_mem (l := lostOf e.ps.length r) (i := b - 1) (by omega) (by omega))
      exact ⟨this.1, this.2.1⟩
  have hp' : PoolOk e.ps.length B { p with st := st' } := ⟨hs1.trans hp.len, fun x (hx : x ∈ st') => by
    obtain ⟨j, hj, rfl⟩ := List.mem_iff_getElem.mp hx
    have hg : gI st' (j : Int) = st'[j] := by rw [gI_eq (by omega) (by omega)]; simp
    rw [← hg]
    by_cases hq : (j : Int) ∈ lostOf e.ps.length r
    · obtain ⟨b, hb, hbe⟩ := List.mem_iff_getElem.mp hq
      have hg2 : gI (lostOf e.ps.length r) (b : Int) = (j : Int) := by rw [gI_eq (by omega) (by omega)]; simpa using hbe
      rw [← hg2, hs3 b (by omega) (by omega)]
      have := gPm b (by omega) (by omega)
      exact hp.st _ (gI_mem this.1 this.2)
    · rw [hs2 j (by omega) (by omega) hq]
      exact hp.st _ (gI_mem (by omega) (by omega)), hp.c0, hp.c1, hp.k0, hp.k1⟩
  have f7 := dividends_ok (Φ := Φ) (k := 60) hp' hr hm (by omega) (by decide)
  rw [List.map_congr_left (fun i _ => rsame i)] at f7
  have so := same_ok (Φ := Φ) (k := 60) 2 _ (sok_ints (l := (upto e.ps.length).map (rowOf p r)) (by rw [List.length_map, upto_len]; omega) 0) (by decide)
  have lc : lcS (call Φ 60) [13] (.n 13) (.yes (.and (.cmp .eq (.call "win_share" (.cons (.nm 10) (.cons (.nm 13) .nil))) (.tup (.cons (.int 0) (.cons (.int 1) .nil)))) (.cmp .notin (.nm 13) (.ix (.nm 10) (.int 0))))) (.nm 13) ((upto e.ps.length).map PyData.int) [.scr ns, .own t2, a2, .val (dEv e), .val (.int (e.ps.length : Nat)), .val (.int (netOf p r - paidOf p r)), .val (.int (S + p.st.sum)), .val (.int (O + (p.st.sum - staked p r) + cutOf p r + paidOf p r)), a8, .val (dPool p0), .val (dRes r), .val (dPool p), a12, a13, a14, a15, a16] = some ((lostOf e.ps.length r).map PyData.int, [.scr ns, .own t2, a2, .val (dEv e), .val (.int (e.ps.length : Nat)), .val (.int (netOf p r - paidOf p r)), .val (.int (S + p.st.sum)), .val (.int (O + (p.st.sum - staked p r) + cutOf p r + paidOf p r)), a8, .val (dPool p0), .val (dRes r), .val (dPool p), a12, a13, a14, a15, a16]) := by
    generalize dPool p = DP at *
    generalize dPool p0 = DP0 at *
    refine lcS_filter _ _ _ _ fun x hx => ⟨[.scr ns, .own t2, a2, .val (dEv e), .val (.int (e.ps.length : Nat)), .val (.int (netOf p r - paidOf p r)), .val (.int (S + p.st.sum)), .val (.int (O + (p.st.sum - staked p r) + cutOf p r + paidOf p r)), a8, .val DP0, .val (dRes r), .val DP, a12, .val (.int x), a14, a15, a16], [.scr ns, .own t2, a2, .val (dEv e), .val (.int (e.ps.length : Nat)), .val (.int (netOf p r - paidOf p r)), .val (.int (S + p.st.sum)), .val (.int (O + (p.st.sum - staked p r) + cutOf p r + paidOf p r)), a8, .val DP0, .val (dRes r), .val DP, a12, .val (.int x), a14, a15, a16], by simp -implicitDefEqProofs [okT, okO, isO, upO, -List.map_map, wipeA], ?_, fun _ => ⟨[.scr ns, .own t2, a2, .val (dEv e), .val (.int (e.ps.length : Nat)), .val (.int (netOf p r - paidOf p r)), .val (.int (S + p.st.sum)), .val (.int (O + (p.st.sum - staked p r) + cutOf p r + paidOf p r)), a8, .val DP0, .val (dRes r), .val DP, a12, .val (.int x), a14, a15, a16], by simp -implicitDefEqProofs [okT, okO, isO, upO, -List.map_map], rfl⟩, fun _ => rfl⟩
    have hw := win_ok (Φ := Φ) (k := 60) (ranks_ne hr) x (by decide)
    have hne : cop .eq (dQ (winQ r x)) (.tuple [.int 0, .int 1]) = some (decide (winQ r x = 0)) := il_eqq (winQ r x) 0
    have il : cop .notin (.int x) (dT r.gone) = some (!decide (x ∈ r.gone)) := il_nin x r.gone
    have ig : dIx (dRes r) (.int 0) = some (dT r.gone) := by unfold dRes; simp -implicitDefEqProofs [okT, okO, isO, upO, -List.map_map]
    generalize dT r.gone = GG at *
    generalize dRes r = DR at *
    by_cases q : winQ r x = 0
    · rw [decide_eq_true q] at hne ⊢
      simp -implicitDefEqProofs [okT, okO, isO, upO, -List.map_map, hw, hne, il, ig]
    · rw [decide_eq_false q] at hne ⊢
      simp -implicitDefEqProofs [okT, okO, isO, upO, -List.map_map, hw, hne, il, ig]
  have i0 : dIx (dPool p0) (.int 0) = some (dT p.st) := by rw [hpe]; unfold dPool; simp -implicitDefEqProofs [okT, okO, isO, upO, -List.map_map]
  have i1 : dIx (dPool p0) (.int 1) = some (.int p.cut) := by rw [hpe]; unfold dPool; simp -implicitDefEqProofs [okT, okO, isO, upO, -List.map_map]
  have j0 : dIx (dPool p) (.int 0) = some (dT p.st) := by unfold dPool; simp -implicitDefEqProofs [okT, okO, isO, upO, -List.map_map]
  have j1 : dIx (dPool p) (.int 1) = some (.int p.cut) := by unfold dPool; simp -implicitDefEqProofs [okT, okO, isO, upO, -List.map_map]
  have j2 : dIx (dPool p) (.int 2) = some (.int p.car) := by unfold dPool; simp -implicitDefEqProofs [okT, okO, isO, upO, -List.map_map]
  have hdP : PyData.tuple [dT p.st, .int p.cut, .int K] = dPool p := by rw [← hcar]; rfl
  have hdP' : PyData.tuple [.tuple (st'.map PyData.int), .int p.cut, .int p.car] = dPool { p with st := st' } := rfl
  have ss : dSum (dT p.st) = some (.int p.st.sum) := il_sumt p.st
  have hrg := rg_is (n := e.ps.length) (by omega)
  have hzl : ((lostOf e.ps.length r).map PyData.int).length ≤ lineN := by rw [List.length_map]; exact lt_line (by omega)
  have hzu : (upto e.ps.length).length ≤ lineN := by rw [upto_len]; exact lt_line (by omega)
  have hen : enumD 0 ((lostOf e.ps.length r).map PyData.int) = (upto (lostOf e.ps.length r).length).map fun i => .tuple [.int i, .int (gI (lostOf e.ps.length r) i)] := enum_upto _
  have lst : bi1 .lst (dT p.st) = some (.f (p.st.map PyData.int)) := rfl
  refine ⟨t2, netOf p r - paidOf p r, S + p.st.sum, O + (p.st.sum - staked p r) + cutOf p r + paidOf p r, .val (dPool p0), .val (dRes r), .val (dPool p), .val (.list ((lostOf e.ps.length r).map PyData.int)), b13, .own (st'.map PyData.int), b15, .val (dPool { p with st := st' }), ?_, h13, by omega, by omega, by omega, w2.mono (by omega)⟩
  have w0 : ∀ b, exSs (call Φ 60) (.cons (.par 9 10 (.callT "_law_drawn_pool" 0 1 (.cons (.nm 4) .nil)) (.callT "_law_drawn_result" 0 1 (.cons (.nm 3) .nil))) b) [.scr ns, .own t, a2, .val (dEv e), .val (.int (e.ps.length : Nat)), .val (.int K), .val (.int S), .val (.int O), a8, a9, a10, a11, a12, a13, a14, a15, a16] = exSs (call Φ 60) b [.scr ns, .own t2, a2, .val (dEv e), .val (.int (e.ps.length : Nat)), .val (.int K), .val (.int S), .val (.int O), a8, .val (dPool p0), .val (dRes r), a11, a12, a13, a14, a15, a16] := fun b => by
    simp -implicitDefEqProofs [okT, okO, isO, upO, -List.map_map, e1, e2]
  have w1' : ∀ b, exSs (call Φ 60) (.cons (.set 11 (.tup (.cons (.ix (.nm 9) (.int 0)) (.cons (.ix (.nm 9) (.int 1)) (.cons (.nm 5) .nil))))) b) [.scr ns, .own t2, a2, .val (dEv e), .val (.int (e.ps.length : Nat)), .val (.int K), .val (.int S), .val (.int O), a8, .val (dPool p0), .val (dRes r), a11, a12, a13, a14, a15, a16] = exSs (call Φ 60) b [.scr ns, .own t2, a2, .val (dEv e), .val (.int (e.ps.length : Nat)), .val (.int K), .val (.int S), .val (.int O), a8, .val (dPool p0), .val (dRes r), .val (dPool p), a12, a13, a14, a15, a16] := fun b => by
    simp -implicitDefEqProofs [okT, okO, isO, upO, -List.map_map, i0, i1, hdP]
  have w2' : ∀ b, exSs (call Φ 60) (.cons (.ifs (.not (.call "_law_pool_holds" (.cons (.nm 11) (.cons (.nm 10) .nil)))) (.cons (.ret (.bl false)) .nil) .nil) b) [.scr ns, .own t2, a2, .val (dEv e), .val (.int (e.ps.length : Nat)), .val (.int K), .val (.int S), .val (.int O), a8, .val (dPool p0), .val (dRes r), .val (dPool p), a12, a13, a14, a15, a16] = exSs (call Φ 60) b [.scr ns, .own t2, a2, .val (dEv e), .val (.int (e.ps.length : Nat)), .val (.int K), .val (.int S), .val (.int O), a8, .val (dPool p0), .val (dRes r), .val (dPool p), a12, a13, a14, a15, a16] := fun b => by
    simp -implicitDefEqProofs [okT, okO, isO, upO, -List.map_map, f1]
  have w3 : ∀ b, exSs (call Φ 60) (.cons (.set 6 (.bin .add (.nm 6) (.bi .sum (.ix (.nm 11) (.int 0))))) b) [.scr ns, .own t2, a2, .val (dEv e), .val (.int (e.ps.length : Nat)), .val (.int K), .val (.int S), .val (.int O), a8, .val (dPool p0), .val (dRes r), .val (dPool p), a12, a13, a14, a15, a16] = exSs (call Φ 60) b [.scr ns, .own t2, a2, .val (dEv e), .val (.int (e.ps.length : Nat)), .val (.int K), .val (.int (S + p.st.sum)), .val (.int O), a8, .val (dPool p0), .val (dRes r), .val (dPool p), a12, a13, a14, a15, a16] := fun b => by
    simp -implicitDefEqProofs [okT, okO, isO, upO, -List.map_map, j0, ss]
  have w4 : ∀ b, exSs (call Φ 60) (.cons (.set 7 (.bin .add (.bin .add (.bin .add (.nm 7) (.call "given_back" (.cons (.nm 11) (.cons (.nm 10) .nil)))) (.call "cut_of" (.cons (.nm 11) (.cons (.nm 10) .nil)))) (.call "paid_out" (.cons (.nm 11) (.cons (.nm 10) .nil))))) b) [.scr ns, .own t2, a2, .val (dEv e), .val (.int (e.ps.length : Nat)), .val (.int K), .val (.int (S + p.st.sum)), .val (.int O), a8, .val (dPool p0), .val (dRes r), .val (dPool p), a12, a13, a14, a15, a16] = exSs (call Φ 60) b [.scr ns, .own t2, a2, .val (dEv e), .val (.int (e.ps.length : Nat)), .val (.int K), .val (.int (S + p.st.sum)), .val (.int (O + (p.st.sum - staked p r) + cutOf p r + paidOf p r)), a8, .val (dPool p0), .val (dRes r), .val (dPool p), a12, a13, a14, a15, a16] := fun b => by
    simp -implicitDefEqProofs [okT, okO, isO, upO, -List.map_map, f2, f3, f4]
  have w5 : ∀ b, exSs (call Φ 60) (.cons (.set 5 (.call "carried_on" (.cons (.nm 11) (.cons (.nm 10) .nil)))) b) [.scr ns, .own t2, a2, .val (dEv e), .val (.int (e.ps.length : Nat)), .val (.int K), .val (.int (S + p.st.sum)), .val (.int (O + (p.st.sum - staked p r) + cutOf p r + paidOf p r)), a8, .val (dPool p0), .val (dRes r), .val (dPool p), a12, a13, a14, a15, a16] = exSs (call Φ 60) b [.scr ns, .own t2, a2, .val (dEv e), .val (.int (e.ps.length : Nat)), .val (.int (netOf p r - paidOf p r)), .val (.int (S + p.st.sum)), .val (.int (O + (p.st.sum - staked p r) + cutOf p r + paidOf p r)), a8, .val (dPool p0), .val (dRes r), .val (dPool p), a12, a13, a14, a15, a16] := fun b => by
    simp -implicitDefEqProofs [okT, okO, isO, upO, -List.map_map, f5]
  have w6 : ∀ b, exSs (call Φ 60) (.cons (.set 12 (.lc [13] (.n 13) (.r1 (.nm 4)) (.yes (.and (.cmp .eq (.call "win_share" (.cons (.nm 10) (.cons (.nm 13) .nil))) (.tup (.cons (.int 0) (.cons (.int 1) .nil)))) (.cmp .notin (.nm 13) (.ix (.nm 10) (.int 0))))) (.nm 13))) b) [.scr ns, .own t2, a2, .val (dEv e), .val (.int (e.ps.length : Nat)), .val (.int (netOf p r - paidOf p r)), .val (.int (S + p.st.sum)), .val (.int (O + (p.st.sum - staked p r) + cutOf p r + paidOf p r)), a8, .val (dPool p0), .val (dRes r), .val (dPool p), a12, a13, a14, a15, a16] = exSs (call Φ 60) b [.scr ns, .own t2, a2, .val (dEv e), .val (.int (e.ps.length : Nat)), .val (.int (netOf p r - paidOf p r)), .val (.int (S + p.st.sum)), .val (.int (O + (p.st.sum - staked p r) + cutOf p r + paidOf p r)), a8, .val (dPool p0), .val (dRes r), .val (dPool p), .own ((lostOf e.ps.length r).map PyData.int), a13, a14, a15, a16] := fun b => by
    generalize (lostOf e.ps.length r).map PyData.int = LL at *
    simp -implicitDefEqProofs [okT, okO, isO, upO, -List.map_map, hrg, hzu, lc, hp13]
  have w7 : ∀ b, exSs (call Φ 60) (.cons (.set 14 (.bi .lst (.ix (.nm 11) (.int 0)))) b) [.scr ns, .own t2, a2, .val (dEv e), .val (.int (e.ps.length : Nat)), .val (.int (netOf p r - paidOf p r)), .val (.int (S + p.st.sum)), .val (.int (O + (p.st.sum - staked p r) + cutOf p r + paidOf p r)), a8, .val (dPool p0), .val (dRes r), .val (dPool p), .own ((lostOf e.ps.length r).map PyData.int), a13, a14, a15, a16] = exSs (call Φ 60) b [.scr ns, .own t2, a2, .val (dEv e), .val (.int (e.ps.length : Nat)), .val (.int (netOf p r - paidOf p r)), .val (.int (S + p.st.sum)), .val (.int (O + (p.st.sum - staked p r) + cutOf p r + paidOf p r)), a8, .val (dPool p0), .val (dRes r), .val (dPool p), .own ((lostOf e.ps.length r).map PyData.int), a13, .own (p.st.map PyData.int), a15, a16] := fun b => by
    simp -implicitDefEqProofs [okT, okO, isO, upO, -List.map_map, j0, lst]
  have w8 : ∀ b, exSs (call Φ 60) (.cons (.for_ (.t2 (.n 15) (.n 13)) (.enum (.nm 12)) (.cons (.put 14 (.nm 13) (.ix (.ix (.nm 11) (.int 0)) (.ix (.nm 12) (.bin .sub (.nm 15) (.int 1))))) .nil)) b) [.scr ns, .own t2, a2, .val (dEv e), .val (.int (e.ps.length : Nat)), .val (.int (netOf p r - paidOf p r)), .val (.int (S + p.st.sum)), .val (.int (O + (p.st.sum - staked p r) + cutOf p r + paidOf p r)), a8, .val (dPool p0), .val (dRes r), .val (dPool p), .own ((lostOf e.ps.length r).map PyData.int), a13, .own (p.st.map PyData.int), a15, a16] = exSs (call Φ 60) b [.scr ns, .own t2, a2, .val (dEv e), .val (.int (e.ps.length : Nat)), .val (.int (netOf p r - paidOf p r)), .val (.int (S + p.st.sum)), .val (.int (O + (p.st.sum - staked p r) + cutOf p r + paidOf p r)), a8, .val (dPool p0), .val (dRes r), .val (dPool p), .val (.list ((lostOf e.ps.length r).map PyData.int)), b13, (.own (st'.map PyData.int)), b15, a16] := fun b => by
    generalize hEN : (upto (lostOf e.ps.length r).length).map (fun i => PyData.tuple [.int i, .int (gI (lostOf e.ps.length r) i)]) = EN at *
    generalize (lostOf e.ps.length r).map PyData.int = LL at *
    simp -implicitDefEqProofs [okT, okO, isO, upO, -List.map_map, hen, lp, hzl]
  have w9 : ∀ b, exSs (call Φ 60) (.cons (.set 16 (.tup (.cons (.bi .tup (.nm 14)) (.cons (.ix (.nm 11) (.int 1)) (.cons (.ix (.nm 11) (.int 2)) .nil))))) b) [.scr ns, .own t2, a2, .val (dEv e), .val (.int (e.ps.length : Nat)), .val (.int (netOf p r - paidOf p r)), .val (.int (S + p.st.sum)), .val (.int (O + (p.st.sum - staked p r) + cutOf p r + paidOf p r)), a8, .val (dPool p0), .val (dRes r), .val (dPool p), .val (.list ((lostOf e.ps.length r).map PyData.int)), b13, (.own (st'.map PyData.int)), b15, a16] = exSs (call Φ 60) b [.scr ns, .own t2, a2, .val (dEv e), .val (.int (e.ps.length : Nat)), .val (.int (netOf p r - paidOf p r)), .val (.int (S + p.st.sum)), .val (.int (O + (p.st.sum - staked p r) + cutOf p r + paidOf p r)), a8, .val (dPool p0), .val (dRes r), .val (dPool p), .val (.list ((lostOf e.ps.length r).map PyData.int)), b13, (.own (st'.map PyData.int)), b15, (.val (dPool { p with st := st' }))] := fun b => by
    generalize st'.map PyData.int = S9 at *
    simp -implicitDefEqProofs [okT, okO, isO, upO, -List.map_map, j1, j2, hdP']
  have w10 : ∀ b, exSs (call Φ 60) (.cons (.ifs (.not (.call "_law_same" (.cons (.call "dividends" (.cons (.nm 16) (.cons (.nm 10) .nil))) (.cons (.call "dividends" (.cons (.nm 11) (.cons (.nm 10) .nil))) .nil)))) (.cons (.ret (.bl false)) .nil) .nil) b) [.scr ns, .own t2, a2, .val (dEv e), .val (.int (e.ps.length : Nat)), .val (.int (netOf p r - paidOf p r)), .val (.int (S + p.st.sum)), .val (.int (O + (p.st.sum - staked p r) + cutOf p r + paidOf p r)), a8, .val (dPool p0), .val (dRes r), .val (dPool p), .val (.list ((lostOf e.ps.length r).map PyData.int)), b13, (.own (st'.map PyData.int)), b15, (.val (dPool { p with st := st' }))] = exSs (call Φ 60) b [.scr ns, .own t2, a2, .val (dEv e), .val (.int (e.ps.length : Nat)), .val (.int (netOf p r - paidOf p r)), .val (.int (S + p.st.sum)), .val (.int (O + (p.st.sum - staked p r) + cutOf p r + paidOf p r)), a8, .val (dPool p0), .val (dRes r), .val (dPool p), .val (.list ((lostOf e.ps.length r).map PyData.int)), b13, (.own (st'.map PyData.int)), b15, (.val (dPool { p with st := st' }))] := fun b => by
    simp -implicitDefEqProofs [okT, okO, isO, upO, -List.map_map, f6, f7, so]
  rw [w0, w1', w2', w3, w4, w5, w6, w7, w8, w9, w10, exSs_nil]
def I24 (ns : List Int) (n : Nat) (r : AE) : Prop := ∃ t a2 a3 a4 a5 a6 a7 a8 a9 a10 a11 a12 a13 a14 a15 a16, r = [.scr ns, .own t, a2, a3, a4, a5, a6, a7, a8, a9, a10, a11, a12, a13, a14, a15, a16] ∧ plainS a13 = true ∧ Tw n t
theorem k24_round [H_l_same Φ] [H_l_draw Φ] [H_l_pick Φ] [H_l_low Φ] [H_l_drawn_price Φ] [H_l_drawn_event Φ] [H_l_mixed Φ] [H_l_drawn_result Φ] [H_win_share Φ] [H_staked Φ] [H_given_back Φ] [H_cut_of Φ] [H_net_of Φ] [H_first_ones Φ] [H_dividends Φ] [H_paid_out Φ] [H_carried_on Φ] [H_l_drawn_pool Φ] [H_l_pool_holds Φ] (h63 : ns.length ≤ 63) {n : Nat} {t : List D} (ht : Tw n t) (hn : n + 1000 ≤ 10000000) (a2 a3 a4 a5 a6 a7 a8 a9 a10 a11 a12 a13 a14 a15 a16 : As) (hp13 : plainS a13 = true) :
    ∃ r', exSs (call Φ 60) (.cons (.set 3 (.callT "_law_drawn_event" 0 1 (.cons (.int 6) .nil))) (.cons (.unp (.t4 (.n 4) (.n 5) (.n 6) (.n 7)) (.tup (.cons (.bi .len (.ix (.nm 3) (.int 0))) (.cons (.int 0) (.cons (.int 0) (.cons (.int 0) .nil)))))) (.cons (.for_ (.n 8) (.r1 (.int 4)) (.cons (.par 9 10 (.callT "_law_drawn_pool" 0 1 (.cons (.nm 4) .nil)) (.callT "_law_drawn_result" 0 1 (.cons (.nm 3) .nil))) (.cons (.set 11 (.tup (.cons (.ix (.nm 9) (.int 0)) (.cons (.ix (.nm 9) (.int 1)) (.cons (.nm 5) .nil))))) (.cons (.ifs (.not (.call "_law_pool_holds" (.cons (.nm 11) (.cons (.nm 10) .nil)))) (.cons (.ret (.bl false)) .nil) .nil) (.cons (.set 6 (.bin .add (.nm 6) (.bi .sum (.ix (.nm 11) (.int 0))))) (.cons (.set 7 (.bin .add (.bin .add (.bin .add (.nm 7) (.call "given_back" (.cons (.nm 11) (.cons (.nm 10) .nil)))) (.call "cut_of" (.cons (.nm 11) (.cons (.nm 10) .nil)))) (.call "paid_out" (.cons (.nm 11) (.cons (.nm 10) .nil))))) (.cons (.set 5 (.call "carried_on" (.cons (.nm 11) (.cons (.nm 10) .nil)))) (.cons (.set 12 (.lc [13] (.n 13) (.r1 (.nm 4)) (.yes (.and (.cmp .eq (.call "win_share" (.cons (.nm 10) (.cons (.nm 13) .nil))) (.tup (.cons (.int 0) (.cons (.int 1) .nil)))) (.cmp .notin (.nm 13) (.ix (.nm 10) (.int 0))))) (.nm 13))) (.cons (.set 14 (.bi .lst (.ix (.nm 11) (.int 0)))) (.cons (.for_ (.t2 (.n 15) (.n 13)) (.enum (.nm 12)) (.cons (.put 14 (.nm 13) (.ix (.ix (.nm 11) (.int 0)) (.ix (.nm 12) (.bin .sub (.nm 15) (.int 1))))) .nil)) (.cons (.set 16 (.tup (.cons (.bi .tup (.nm 14)) (.cons (.ix (.nm 11) (.int 1)) (.cons (.ix (.nm 11) (.int 2)) .nil))))) (.cons (.ifs (.not (.call "_law_same" (.cons (.call "dividends" (.cons (.nm 16) (.cons (.nm 10) .nil))) (.cons (.call "dividends" (.cons (.nm 11) (.cons (.nm 10) .nil))) .nil)))) (.cons (.ret (.bl false)) .nil) .nil) .nil)))))))))))) (.cons (.ifs (.cmp .ne (.nm 6) (.bin .add (.nm 7) (.nm 5))) (.cons (.ret (.bl false)) .nil) .nil) .nil)))) [.scr ns, .own t, a2, a3, a4, a5, a6, a7, a8, a9, a10, a11, a12, a13, a14, a15, a16] = some (.nx r') ∧ I24 ns (n + 1000) r' := by
  obtain ⟨e, t1, e1, he, w1⟩ := event_ok (Φ := Φ) (k := 60) h63 ht (by omega) (most := 6) (by decide) (by decide) (by decide)
  obtain ⟨r', s2, t2, K, S, O, a8, a9, a10, a11, a12, a13, a14, a15, a16, h13, hS, k0, k1, w2, rfl⟩ := for_pre (cl := call Φ 60) (t := (.n 8)) (b := (.cons (.par 9 10 (.callT "_law_drawn_pool" 0 1 (.cons (.nm 4) .nil)) (.callT "_law_drawn_result" 0 1 (.cons (.nm 3) .nil))) (.cons (.set 11 (.tup (.cons (.ix (.nm 9) (.int 0)) (.cons (.ix (.nm 9) (.int 1)) (.cons (.nm 5) .nil))))) (.cons (.ifs (.not (.call "_law_pool_holds" (.cons (.nm 11) (.cons (.nm 10) .nil)))) (.cons (.ret (.bl false)) .nil) .nil) (.cons (.set 6 (.bin .add (.nm 6) (.bi .sum (.ix (.nm 11) (.int 0))))) (.cons (.set 7 (.bin .add (.bin .add (.bin .add (.nm 7) (.call "given_back" (.cons (.nm 11) (.cons (.nm 10) .nil)))) (.call "cut_of" (.cons (.nm 11) (.cons (.nm 10) .nil)))) (.call "paid_out" (.cons (.nm 11) (.cons (.nm 10) .nil))))) (.cons (.set 5 (.call "carried_on" (.cons (.nm 11) (.cons (.nm 10) .nil)))) (.cons (.set 12 (.lc [13] (.n 13) (.r1 (.nm 4)) (.yes (.and (.cmp .eq (.call "win_share" (.cons (.nm 10) (.cons (.nm 13) .nil))) (.tup (.cons (.int 0) (.cons (.int 1) .nil)))) (.cmp .notin (.nm 13) (.ix (.nm 10) (.int 0))))) (.nm 13))) (.cons (.set 14 (.bi .lst (.ix (.nm 11) (.int 0)))) (.cons (.for_ (.t2 (.n 15) (.n 13)) (.enum (.nm 12)) (.cons (.put 14 (.nm 13) (.ix (.ix (.nm 11) (.int 0)) (.ix (.nm 12) (.bin .sub (.nm 15) (.int 1))))) .nil)) (.cons (.set 16 (.tup (.cons (.bi .tup (.nm 14)) (.cons (.ix (.nm 11) (.int 1)) (.cons (.ix (.nm 11) (.int 2)) .nil))))) (.cons (.ifs (.not (.call "_law_same" (.cons (.call "dividends" (.cons (.nm 16) (.cons (.nm 10) .nil))) (.cons (.call "dividends" (.cons (.nm 11) (.cons (.nm 10) .nil))) .nil)))) (.cons (.ret (.bl false)) .nil) .nil) .nil)))))))))))) PyData.int (fun pre z => ∃ (t : List D) (K S O : Int) (a8 a9 a10 a11 a12 a13 a14 a15 a16 : As), plainS a13 = true ∧ S = O + K ∧ 0 ≤ K ∧ K ≤ 30000 * pre.length ∧ Tw (n + 40 + 100 * pre.length) t ∧ z = [.scr ns, .own t, a2, .val (dEv e), .val (.int (e.ps.length : Nat)), .val (.int K), .val (.int S), .val (.int O), a8, a9, a10, a11, a12, a13, a14, a15, a16]) [0, 1, 2, 3] (fun pre x post z hx ⟨t, K, S, O, a8, a9, a10, a11, a12, a13, a14, a15, a16, h13, hS, k0, k1, w, h⟩ => by
    subst h
    have hl := congrArg List.length hx
    simp only [List.length_append, List.length_cons, List.length_nil] at hl
    obtain ⟨t', K', S', O', b9, b10, b11, b12, b13, b14, b15, b16, e, g13, gS, g0, g1, w'⟩ := k24_turn (Φ := Φ) h63 w (by omega) he (S := S) (O := O) k0 k1 (by omega) hS a2 (.val (.int x)) a9 a10 a11 a12 a13 a14 a15 a16 h13
    exact ⟨_, _, by simp -implicitDefEqProofs [okT, okO, isO, upO, -List.map_map], e, t', K', S', O', _, _, _, _, _, _, _, _, _, g13, gS, g0, by rw [List.length_append, List.length_singleton]; omega, w'.mono (by rw [List.length_append, List.length_singleton]; omega), rfl⟩) _ ⟨t1, 0, 0, 0, a8, a9, a10, a11, a12, a13, a14, a15, a16, hp13, rfl, Int.le_refl _, by simp, w1.mono (by simp), rfl⟩
  refine ⟨[.scr ns, .own t2, a2, .val (dEv e), .val (.int (e.ps.length : Nat)), .val (.int K), .val (.int S), .val (.int O), a8, a9, a10, a11, a12, a13, a14, a15, a16], ?_, _, _, _, _, _, _, _, _, _, _, _, _, _, _, _, _, rfl, h13, w2.mono (by simp)⟩
  have e1 : call Φ 60 "_law_drawn_event" ns t [.int 6] = some (.v (dEv e), t1) := e1
  have i0 : dIx (dEv e) (.int 0) = some (.tuple (e.ps.map dP)) := by unfold dEv; simp -implicitDefEqProofs [okT, okO, isO, upO, -List.map_map]
  have ll : bi1 .len (.tuple (e.ps.map dP)) = some (.v (.int (e.ps.length : Nat))) := by rw [bi_lent, List.length_map]
  have hr : dRange (.int 0) (.int 4) = some (rgD 0 1 4) := dRange_ok (by decide) (by decide) (by decide) (by decide)
  have hr4 : rgD 0 1 4 = [.int 0, .int 1, .int 2, .int 3] := rfl
  simp only [List.map_cons, List.map_nil] at s2
  generalize e.ps.map dP = EP at *
  generalize dEv e = DE at *
  simp -implicitDefEqProofs [okT, okO, isO, upO, -List.map_map, e1, i0, ll, hr, hr4, s2, hS]
theorem k24_yes [H_l_same Φ] [H_l_draw Φ] [H_l_pick Φ] [H_l_low Φ] [H_l_drawn_price Φ] [H_l_drawn_event Φ] [H_l_mixed Φ] [H_l_drawn_result Φ] [H_win_share Φ] [H_staked Φ] [H_given_back Φ] [H_cut_of Φ] [H_net_of Φ] [H_first_ones Φ] [H_dividends Φ] [H_paid_out Φ] [H_carried_on Φ] [H_l_drawn_pool Φ] [H_l_pool_holds Φ] (ns : List Int) (h63 : ns.length ≤ 63) : ∃ r', exSs (call Φ 60) i_law_k24 (.scr ns :: List.replicate 16 .no) = some (.rt (.v (.bool true)) r') := by
  have h := for_cnt (cl := call Φ 60) (t := (.n 2)) (b := (.cons (.set 3 (.callT "_law_drawn_event" 0 1 (.cons (.int 6) .nil))) (.cons (.unp (.t4 (.n 4) (.n 5) (.n 6) (.n 7)) (.tup (.cons (.bi .len (.ix (.nm 3) (.int 0))) (.cons (.int 0) (.cons (.int 0) (.cons (.int 0) .nil)))))) (.cons (.for_ (.n 8) (.r1 (.int 4)) (.cons (.par 9 10 (.callT "_law_drawn_pool" 0 1 (.cons (.nm 4) .nil)) (.callT "_law_drawn_result" 0 1 (.cons (.nm 3) .nil))) (.cons (.set 11 (.tup (.cons (.ix (.nm 9) (.int 0)) (.cons (.ix (.nm 9) (.int 1)) (.cons (.nm 5) .nil))))) (.cons (.ifs (.not (.call "_law_pool_holds" (.cons (.nm 11) (.cons (.nm 10) .nil)))) (.cons (.ret (.bl false)) .nil) .nil) (.cons (.set 6 (.bin .add (.nm 6) (.bi .sum (.ix (.nm 11) (.int 0))))) (.cons (.set 7 (.bin .add (.bin .add (.bin .add (.nm 7) (.call "given_back" (.cons (.nm 11) (.cons (.nm 10) .nil)))) (.call "cut_of" (.cons (.nm 11) (.cons (.nm 10) .nil)))) (.call "paid_out" (.cons (.nm 11) (.cons (.nm 10) .nil))))) (.cons (.set 5 (.call "carried_on" (.cons (.nm 11) (.cons (.nm 10) .nil)))) (.cons (.set 12 (.lc [13] (.n 13) (.r1 (.nm 4)) (.yes (.and (.cmp .eq (.call "win_share" (.cons (.nm 10) (.cons (.nm 13) .nil))) (.tup (.cons (.int 0) (.cons (.int 1) .nil)))) (.cmp .notin (.nm 13) (.ix (.nm 10) (.int 0))))) (.nm 13))) (.cons (.set 14 (.bi .lst (.ix (.nm 11) (.int 0)))) (.cons (.for_ (.t2 (.n 15) (.n 13)) (.enum (.nm 12)) (.cons (.put 14 (.nm 13) (.ix (.ix (.nm 11) (.int 0)) (.ix (.nm 12) (.bin .sub (.nm 15) (.int 1))))) .nil)) (.cons (.set 16 (.tup (.cons (.bi .tup (.nm 14)) (.cons (.ix (.nm 11) (.int 1)) (.cons (.ix (.nm 11) (.int 2)) .nil))))) (.cons (.ifs (.not (.call "_law_same" (.cons (.call "dividends" (.cons (.nm 16) (.cons (.nm 10) .nil))) (.cons (.call "dividends" (.cons (.nm 11) (.cons (.nm 10) .nil))) .nil)))) (.cons (.ret (.bl false)) .nil) .nil) .nil)))))))))))) (.cons (.ifs (.cmp .ne (.nm 6) (.bin .add (.nm 7) (.nm 5))) (.cons (.ret (.bl false)) .nil) .nil) .nil))))) (N := 10000000) (c := 1000) (I24 ns) (fun d n r ⟨t, a2, a3, a4, a5, a6, a7, a8, a9, a10, a11, a12, a13, a14, a15, a16, e, h13, w⟩ hn => by
    subst e
    obtain ⟨r', e, w'⟩ := k24_round (Φ := Φ) h63 w hn (.val d) a3 a4 a5 a6 a7 a8 a9 a10 a11 a12 a13 a14 a15 a16 h13
    exact ⟨_, r', by simp -implicitDefEqProofs [okT, okO, isO, upO, -List.map_map], e, w'⟩) (rgD 0 1 5) 0 [.scr ns, .own [], .no, .no, .no, .no, .no, .no, .no, .no, .no, .no, .no, .no, .no, .no, .no] ⟨_, _, _, _, _, _, _, _, _, _, _, _, _, _, _, _, rfl, rfl, .inl rfl⟩ (by rw [rg_len]; decide)
  obtain ⟨r', e, _⟩ := h
  have hr : dRange (.int 0) (.int 5) = some (rgD 0 1 5) := dRange_ok (by decide) (by decide) (by decide) (by decide)
  exact ⟨r', by simp -implicitDefEqProofs [i_law_k24, okT, okO, isO, upO, -List.map_map, hr, e]⟩
end
end Pd

set_option Elab.async false
set_option linter.all false
set_option maxRecDepth 100000
set_option maxHeartbeats 0
namespace Kk24
open PySem PySem.Spec PyProof.Rows L2 Pd
def top (i : Nat) : Stmt := PySem.Challenge.pw_slipstall_k24_whole_nothing_lost_of_pool.main.body.getD i (.Pass ⟨0, 0, 0, 0⟩)
def d_staked : Df := ⟨"staked", ["pool", "result", "runner", "stake"], 2, defArgs (top 1), defScope (top 1), defBody (top 1)⟩
def d_given_back : Df := ⟨"given_back", ["pool", "result"], 2, defArgs (top 2), defScope (top 2), defBody (top 2)⟩
def d_cut_of : Df := ⟨"cut_of", ["pool", "result"], 2, defArgs (top 3), defScope (top 3), defBody (top 3)⟩
def d_net_of : Df := ⟨"net_of", ["pool", "result"], 2, defArgs (top 4), defScope (top 4), defBody (top 4)⟩
def d_first_ones : Df := ⟨"first_ones", ["pool", "result", "runner"], 2, defArgs (top 5), defScope (top 5), defBody (top 5)⟩
def d_dividends : Df := ⟨"dividends", ["pool", "result", "found", "winners", "runner", "stake"], 2, defArgs (top 6), defScope (top 6), defBody (top 6)⟩
def d_paid_out : Df := ⟨"paid_out", ["pool", "result", "rows", "runner"], 2, defArgs (top 7), defScope (top 7), defBody (top 7)⟩
def d_carried_on : Df := ⟨"carried_on", ["pool", "result"], 2, defArgs (top 8), defScope (top 8), defBody (top 8)⟩
def d_win_share : Df := ⟨"win_share", ["result", "runner", "ranks"], 2, defArgs (top 10), defScope (top 10), defBody (top 10)⟩
def d_law_same : Df := ⟨"_law_same", ["_law_got", "_law_due", "_law_one", "_law_other"], 2, defArgs (top 12), defScope (top 12), defBody (top 12)⟩
def d_law_draw : Df := ⟨"_law_draw", ["_law_script", "_law_town", "_law_many", "_law_cell", "_law_k", "_law_digits", "_law_number", "_law_more"], 3, defArgs (top 13), defScope (top 13), defBody (top 13)⟩
def d_law_pick : Df := ⟨"_law_pick", ["_law_script", "_law_town", "_law_some"], 3, defArgs (top 14), defScope (top 14), defBody (top 14)⟩
def d_law_low : Df := ⟨"_law_low", ["_law_over", "_law_under", "_law_one", "_law_other"], 2, defArgs (top 15), defScope (top 15), defBody (top 15)⟩
def d_law_drawn_price : Df := ⟨"_law_drawn_price", ["_law_script", "_law_town", "_law_some", "_law_many"], 2, defArgs (top 16), defScope (top 16), defBody (top 16)⟩
def d_law_drawn_event : Df := ⟨"_law_drawn_event", ["_law_script", "_law_town", "_law_most", "_law_many", "_law_prices", "_law_k"], 3, defArgs (top 17), defScope (top 17), defBody (top 17)⟩
def d_law_mixed : Df := ⟨"_law_mixed", ["_law_script", "_law_town", "_law_things", "_law_rest", "_law_found"], 3, defArgs (top 18), defScope (top 18), defBody (top 18)⟩
def d_law_drawn_result : Df := ⟨"_law_drawn_result", ["_law_script", "_law_town", "_law_event", "_law_rest", "_law_many", "_law_gone", "_law_ranks", "_law_size"], 3, defArgs (top 19), defScope (top 19), defBody (top 19)⟩
def d_law_drawn_pool : Df := ⟨"_law_drawn_pool", ["_law_script", "_law_town", "_law_many", "_law_stakes", "_law_k", "_law_cut"], 3, defArgs (top 20), defScope (top 20), defBody (top 20)⟩
def d_law_pool_holds : Df := ⟨"_law_pool_holds", ["_law_pool", "_law_result", "_law_stakes", "_law_cut", "_law_carried", "_law_parts", "_law_rows", "_law_some", "_law_runner", "_law_stake", "_law_net"], 2, defArgs (top 21), defScope (top 21), defBody (top 21)⟩
def d_law : Df := ⟨"law", ["_law_script", "_law_town", "_law_k", "_law_event", "_law_many", "_law_carried", "_law_stakes", "_law_others", "_law_j", "_law_drawn", "_law_result", "_law_pool", "_law_lost", "_law_one", "_law_row", "_law_at", "_law_other"], 1, defArgs (top 22), defScope (top 22), defBody (top 22)⟩
def ents : List Ent := [⟨"staked", d_staked, i_staked⟩, ⟨"given_back", d_given_back, i_given_back⟩, ⟨"cut_of", d_cut_of, i_cut_of⟩, ⟨"net_of", d_net_of, i_net_of⟩, ⟨"first_ones", d_first_ones, i_first_ones⟩, ⟨"dividends", d_dividends, i_dividends⟩, ⟨"paid_out", d_paid_out, i_paid_out⟩, ⟨"carried_on", d_carried_on, i_carried_on⟩, ⟨"win_share", d_win_share, i_win_share⟩, ⟨"_law_same", d_law_same, i_l_same⟩, ⟨"_law_draw", d_law_draw, i_l_draw⟩, ⟨"_law_pick", d_law_pick, i_l_pick⟩, ⟨"_law_low", d_law_low, i_l_low⟩, ⟨"_law_drawn_price", d_law_drawn_price, i_l_drawn_price⟩, ⟨"_law_drawn_event", d_law_drawn_event, i_l_drawn_event⟩, ⟨"_law_mixed", d_law_mixed, i_l_mixed⟩, ⟨"_law_drawn_result", d_law_drawn_result, i_l_drawn_result⟩, ⟨"_law_drawn_pool", d_law_drawn_pool, i_l_drawn_pool⟩, ⟨"_law_pool_holds", d_law_pool_holds, i_l_pool_holds⟩]
abbrev Φ : Tab := entT ents
theorem c_staked : dfB (fun f => (Φ f).map (·.tw)) d_staked i_staked = true := by decide +kernel
theorem b_staked : BindsS d_staked := bs_ok (n := 2) (by decide +kernel) fun _ _ _ _ _ _ us hl => match us, hl with | [_, _], _ => rfl
theorem c_given_back : dfB (fun f => (Φ f).map (·.tw)) d_given_back i_given_back = true := by decide +kernel
theorem b_given_back : BindsS d_given_back := bs_ok (n := 2) (by decide +kernel) fun _ _ _ _ _ _ us hl => match us, hl with | [_, _], _ => rfl
theorem c_cut_of : dfB (fun f => (Φ f).map (·.tw)) d_cut_of i_cut_of = true := by decide +kernel
theorem b_cut_of : BindsS d_cut_of := bs_ok (n := 2) (by decide +kernel) fun _ _ _ _ _ _ us hl => match us, hl with | [_, _], _ => rfl
theorem c_net_of : dfB (fun f => (Φ f).map (·.tw)) d_net_of i_net_of = true := by decide +kernel
theorem b_net_of : BindsS d_net_of := bs_ok (n := 2) (by decide +kernel) fun _ _ _ _ _ _ us hl => match us, hl with | [_, _], _ => rfl
theorem c_first_ones : dfB (fun f => (Φ f).map (·.tw)) d_first_ones i_first_ones = true := by decide +kernel
theorem b_first_ones : BindsS d_first_ones := bs_ok (n := 2) (by decide +kernel) fun _ _ _ _ _ _ us hl => match us, hl with | [_, _], _ => rfl
theorem c_dividends : dfB (fun f => (Φ f).map (·.tw)) d_dividends i_dividends = true := by decide +kernel
theorem b_dividends : BindsS d_dividends := bs_ok (n := 2) (by decide +kernel) fun _ _ _ _ _ _ us hl => match us, hl with | [_, _], _ => rfl
theorem c_paid_out : dfB (fun f => (Φ f).map (·.tw)) d_paid_out i_paid_out = true := by decide +kernel
theorem b_paid_out : BindsS d_paid_out := bs_ok (n := 2) (by decide +kernel) fun _ _ _ _ _ _ us hl => match us, hl with | [_, _], _ => rfl
theorem c_carried_on : dfB (fun f => (Φ f).map (·.tw)) d_carried_on i_carried_on = true := by decide +kernel
theorem b_carried_on : BindsS d_carried_on := bs_ok (n := 2) (by decide +kernel) fun _ _ _ _ _ _ us hl => match us, hl with | [_, _], _ => rfl
theorem c_win_share : dfB (fun f => (Φ f).map (·.tw)) d_win_share i_win_share = true := by decide +kernel
theorem b_win_share : BindsS d_win_share := bs_ok (n := 2) (by decide +kernel) fun _ _ _ _ _ _ us hl => match us, hl with | [_, _], _ => rfl
theorem c_law_same : dfB (fun f => (Φ f).map (·.tw)) d_law_same i_l_same = true := by decide +kernel
theorem b_law_same : BindsS d_law_same := bs_ok (n := 2) (by decide +kernel) fun _ _ _ _ _ _ us hl => match us, hl with | [_, _], _ => rfl
theorem c_law_draw : dfB (fun f => (Φ f).map (·.tw)) d_law_draw i_l_draw = true := by decide +kernel
theorem b_law_draw : BindsS d_law_draw := bs_ok (n := 3) (by decide +kernel) fun _ _ _ _ _ _ us hl => match us, hl with | [_, _, _], _ => rfl
theorem c_law_pick : dfB (fun f => (Φ f).map (·.tw)) d_law_pick i_l_pick = true := by decide +kernel
theorem b_law_pick : BindsS d_law_pick := bs_ok (n := 3) (by decide +kernel) fun _ _ _ _ _ _ us hl => match us, hl with | [_, _, _], _ => rfl
theorem c_law_low : dfB (fun f => (Φ f).map (·.tw)) d_law_low i_l_low = true := by decide +kernel
theorem b_law_low : BindsS d_law_low := bs_ok (n := 2) (by decide +kernel) fun _ _ _ _ _ _ us hl => match us, hl with | [_, _], _ => rfl
theorem c_law_drawn_price : dfB (fun f => (Φ f).map (·.tw)) d_law_drawn_price i_l_drawn_price = true := by decide +kernel
theorem b_law_drawn_price : BindsS d_law_drawn_price := bs_ok (n := 2) (by decide +kernel) fun _ _ _ _ _ _ us hl => match us, hl with | [_, _], _ => rfl
theorem c_law_drawn_event : dfB (fun f => (Φ f).map (·.tw)) d_law_drawn_event i_l_drawn_event = true := by decide +kernel
theorem b_law_drawn_event : BindsS d_law_drawn_event := bs_ok (n := 3) (by decide +kernel) fun _ _ _ _ _ _ us hl => match us, hl with | [_, _, _], _ => rfl
theorem c_law_mixed : dfB (fun f => (Φ f).map (·.tw)) d_law_mixed i_l_mixed = true := by decide +kernel
theorem b_law_mixed : BindsS d_law_mixed := bs_ok (n := 3) (by decide +kernel) fun _ _ _ _ _ _ us hl => match us, hl with | [_, _, _], _ => rfl
theorem c_law_drawn_result : dfB (fun f => (Φ f).map (·.tw)) d_law_drawn_result i_l_drawn_result = true := by decide +kernel
theorem b_law_drawn_result : BindsS d_law_drawn_result := bs_ok (n := 3) (by decide +kernel) fun _ _ _ _ _ _ us hl => match us, hl with | [_, _, _], _ => rfl
theorem c_law_drawn_pool : dfB (fun f => (Φ f).map (·.tw)) d_law_drawn_pool i_l_drawn_pool = true := by decide +kernel
theorem b_law_drawn_pool : BindsS d_law_drawn_pool := bs_ok (n := 3) (by decide +kernel) fun _ _ _ _ _ _ us hl => match us, hl with | [_, _, _], _ => rfl
theorem c_law_pool_holds : dfB (fun f => (Φ f).map (·.tw)) d_law_pool_holds i_l_pool_holds = true := by decide +kernel
theorem b_law_pool_holds : BindsS d_law_pool_holds := bs_ok (n := 2) (by decide +kernel) fun _ _ _ _ _ _ us hl => match us, hl with | [_, _], _ => rfl
theorem ents_ok : ∀ e ∈ ents, EntOk (fun f => (Φ f).map (·.tw)) e := by
  intro e he
  simp only [ents, List.mem_cons, List.not_mem_nil, or_false] at he
  rcases he with rfl | rfl | rfl | rfl | rfl | rfl | rfl | rfl | rfl | rfl | rfl | rfl | rfl | rfl | rfl | rfl | rfl | rfl | rfl
  · exact ⟨rfl, c_staked, b_staked⟩
  · exact ⟨rfl, c_given_back, b_given_back⟩
  · exact ⟨rfl, c_cut_of, b_cut_of⟩
  · exact ⟨rfl, c_net_of, b_net_of⟩
  · exact ⟨rfl, c_first_ones, b_first_ones⟩
  · exact ⟨rfl, c_dividends, b_dividends⟩
  · exact ⟨rfl, c_paid_out, b_paid_out⟩
  · exact ⟨rfl, c_carried_on, b_carried_on⟩
  · exact ⟨rfl, c_win_share, b_win_share⟩
  · exact ⟨rfl, c_law_same, b_law_same⟩
  · exact ⟨rfl, c_law_draw, b_law_draw⟩
  · exact ⟨rfl, c_law_pick, b_law_pick⟩
  · exact ⟨rfl, c_law_low, b_law_low⟩
  · exact ⟨rfl, c_law_drawn_price, b_law_drawn_price⟩
  · exact ⟨rfl, c_law_drawn_event, b_law_drawn_event⟩
  · exact ⟨rfl, c_law_mixed, b_law_mixed⟩
  · exact ⟨rfl, c_law_drawn_result, b_law_drawn_result⟩
  · exact ⟨rfl, c_law_drawn_pool, b_law_drawn_pool⟩
  · exact ⟨rfl, c_law_pool_holds, b_law_pool_holds⟩
theorem s_law : scB d_law.N ["_law_script"] d_law.scope = true := by decide +kernel
theorem c_law : chkSs (fun f => (Φ f).map (·.tw)) d_law.N 300 d_law.scope d_law.body i_law_k24 = true := by decide +kernel
def dL : He.DefD := ⟨("law", none), "law", "law", d_law.params, d_law.body, d_law.scope, [], []⟩
def fn : List He.DefD := fnL ents ++ [dL]
def fa : List He.Fa := faL ents ++ [.glo "law"]
instance : H_staked Φ := ⟨by rfl⟩
instance : H_given_back Φ := ⟨by rfl⟩
instance : H_cut_of Φ := ⟨by rfl⟩
instance : H_net_of Φ := ⟨by rfl⟩
instance : H_first_ones Φ := ⟨by rfl⟩
instance : H_dividends Φ := ⟨by rfl⟩
instance : H_paid_out Φ := ⟨by rfl⟩
instance : H_carried_on Φ := ⟨by rfl⟩
instance : H_win_share Φ := ⟨by rfl⟩
instance : H_l_same Φ := ⟨by rfl⟩
instance : H_l_draw Φ := ⟨by rfl⟩
instance : H_l_pick Φ := ⟨by rfl⟩
instance : H_l_low Φ := ⟨by rfl⟩
instance : H_l_drawn_price Φ := ⟨by rfl⟩
instance : H_l_drawn_event Φ := ⟨by rfl⟩
instance : H_l_mixed Φ := ⟨by rfl⟩
instance : H_l_drawn_result Φ := ⟨by rfl⟩
instance : H_l_drawn_pool Φ := ⟨by rfl⟩
instance : H_l_pool_holds Φ := ⟨by rfl⟩
theorem yes : ∀ ns : List Int, ns.length ≤ 63 → ∃ r', exSs (call Φ 60) i_law_k24 (.scr ns :: List.replicate (d_law.N.length - 1) .no) = some (.rt (.v (.bool true)) r') := fun ns h => k24_yes (Φ := Φ) ns h
abbrev R : PySem.W.OpenRow := PySem.W.OpenLaw.row PySem.Challenge.rw_slipstall_k24_whole_nothing_lost_of_pool
abbrev hk : PySem.W.Hook := He.hookD 4 fa fn
def ob (s : PySem.W.SharedT) : He.AlD := He.obsDG 4 fa fn (HandSHeadRun.getT s)
theorem ob_eq (s : PySem.W.SharedT) : ob s = hk.obs s.abs := He.obsDG_eq (HandSHeadRun.getT_eq s)
theorem run (w : World) : HandSHeadRun.RunEq R (PySem.W.view R.prog [22]) hk ob 4000 ((["staked", "given_back", "cut_of", "net_of", "first_ones", "dividends", "paid_out", "carried_on", "win_share", "_law_same", "_law_draw", "_law_pick", "_law_low", "_law_drawn_price", "_law_drawn_event", "_law_mixed", "_law_drawn_result", "_law_drawn_pool", "_law_pool_holds"] : List PySem.Str)) w := by
  intro os
  kernel_rfl
end Kk24
open PySem PySem.W PySem.Calls PyProof.Rows
theorem PySem.Challenge.cw_slipstall_k24_whole_nothing_lost_of_pool_holds : PySem.Challenge.rw_slipstall_k24_whole_nothing_lost_of_pool.Holds := by
  w_on; o_law
  refine HandSHeadRun.head_any (r := OpenLaw.row PySem.Challenge.rw_slipstall_k24_whole_nothing_lost_of_pool) (q := view (OpenLaw.row PySem.Challenge.rw_slipstall_k24_whole_nothing_lost_of_pool).prog [22]) (H := Kk24.hk) (ob := Kk24.ob) (M := 4000) (loose := ((["staked", "given_back", "cut_of", "net_of", "first_ones", "dividends", "paid_out", "carried_on", "win_share", "_law_same", "_law_draw", "_law_pick", "_law_low", "_law_drawn_price", "_law_drawn_event", "_law_mixed", "_law_drawn_result", "_law_drawn_pool", "_law_pool_holds"] : List PySem.Str))) (d := HandSHeadRun.topDef (OpenLaw.row PySem.Challenge.rw_slipstall_k24_whole_nothing_lost_of_pool).prog 22) (kwd := []) Kk24.ob_eq
    (by kernel_rfl) (fun s => by kernel_rfl) Kk24.run (by kernel_rfl) (by kernel_rfl) (by kernel_rfl) (by rfl) (by first | assumption | decide +kernel) (by decide +kernel) ⟨rfl, rfl, rfl, rfl, rfl, by decide +kernel⟩ ?hw ?hc
  case hw => w_witness2
  case hc =>
    refine L2.walk_ofE (l := PySem.Challenge.rw_slipstall_k24_whole_nothing_lost_of_pool) (n := 63) (k := 61) (x := "_law_script") (CX := L2.CX0) rfl (by decide) (by kernel_rfl) ⟨rfl, by decide, by decide⟩ ?F (fun _ _ _ _ z => z)
    intro w mg fa h Y G hmg0
    obtain ⟨K, KX, c⟩ := Y
    have hmg : mg ("law" : PySem.Str) = some (.ref fa) := by
      have e : (HandSHeadRun.topDef (OpenLaw.row PySem.Challenge.rw_slipstall_k24_whole_nothing_lost_of_pool).prog 22).name = ("law" : PySem.Str) := by kernel_rfl
      rw [← e]
      exact hmg0
    obtain ⟨fd, hb, hF⟩ := Pd.facts_law (P := (PySem.Challenge.rw_slipstall_k24_whole_nothing_lost_of_pool).prog) (w := w) (dl := Kk24.d_law) (k := 60) KX G c Kk24.ents_ok rfl Kk24.s_law Kk24.c_law (fun _ _ _ _ _ _ us hl => match us, hl with | [_], _ => rfl) hmg Kk24.yes
    exact ⟨K, fd, Pd.spLaw K, KX, hb, fun H a ns hl _ hS => ⟨a, ns, rfl, hS, hl, fun _ => rfl⟩, hF⟩
