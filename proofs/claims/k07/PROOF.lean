import PyProof.Rows.All
import Wide.All
import OpenK.AllK
import Wide.FinOn
import HandS.ForMost
import HandS.ForExc
import HandS.Lambda
import HandS.TupAny
import HandS.TupMul
import HandS.Deep
import HandS.IsInst
import HandS.Conv
import HandS.Style
import HandS.ExcCtx
import HandS.HotCalls
import KE.GoesMore
import HandS.TupSets
import HandS.SortRule
import HandS.TupLe
import KE.KDictPairs
import HandS.Zip
import HandS.ExcIs
import HandS.CallLocal
import HandS.EndTab
import KE.KNestM
import PySem.Challenge.RW_heapsuntold_k07_moves_that_surely_win_or
set_option Elab.async false
set_option linter.all false
set_option maxRecDepth 100000
set_option maxHeartbeats 2000000
namespace DL
open PySem PySem.Spec PyProof.Rows L2
/-! data as a whole, what stands for it, the state of a def in terms of data -/
inductive D where
  | non | bl (b : Bool) | int (i : Int) | str (x : Str)
  | tup (xs : List D) | lst (xs : List D) | dct (kvs : List (List Key × D)) | raw (v : V)
/-- a scalar's data -/
def dv : V → D
  | .non => .non
  | .bl b => .bl b
  | .int i => .int i
  | .str x => .str x
  | v => .raw v
mutual
inductive Rp (K : PySem.W.Frag) (G : Hp) : V → D → Prop
  | non : Rp K G .non .non
  | bl (b : Bool) : Rp K G (.bl b) (.bl b)
  | int (i : Int) : Rp K G (.int i) (.int i)
  | str (x : Str) : Rp K G (.str x) (.str x)
  | raw (v : V) : Rp K G v (.raw v)
  | tup {a : Addr} {xs : List V} {ds : List D} : G a = some (.tup xs) → RpA K G xs ds → Rp K G (.ref a) (.tup ds)
  | lst {a : Addr} {xs : List V} {ds : List D} : G a = some (.lst xs) → RpA K G xs ds → Rp K G (.ref a) (.lst ds)
  | dct {a : Addr} {o : Obj} {kvs : List (List Key × V)} {es : List (List Key × D)} : G a = some (.frz o (.dT kvs)) → RpK K G kvs es → Rp K G (.ref a) (.dct es)
inductive RpA (K : PySem.W.Frag) (G : Hp) : List V → List D → Prop
  | nil : RpA K G [] []
  | cons {v : V} {vs : List V} {d : D} {ds : List D} : Rp K G v d → RpA K G vs ds → RpA K G (v :: vs) (d :: ds)
inductive RpK (K : PySem.W.Frag) (G : Hp) : List (List Key × V) → List (List Key × D) → Prop
  | nil : RpK K G [] []
  | cons {k : List Key} {v : V} {r : List (List Key × V)} {d : D} {s : List (List Key × D)} : Rp K G v d → RpK K G r s → RpK K G ((k, v) :: r) ((k, d) :: s)
end
theorem Rp.dv {K : PySem.W.Frag} {G : Hp} : ∀ v : V, Rp K G v (DL.dv v)
  | .non => .non
  | .bl b => .bl b
  | .int i => .int i
  | .str x => .str x
  | .byt b => .raw _
  | .flt b => .raw _
  | .ref a => .raw _
  | .ty n => .raw _
theorem rd_mono {G G' : Hp} {a : Addr} {u : HO} (e : Same G G') (h : Rd G a u) : Rd G' a u := by
  rcases h with h | ⟨o, h⟩
  · exact .inl (e _ _ h)
  · exact .inr ⟨o, e _ _ h⟩
theorem sqT_mono {K : PySem.W.Frag} {G G' : Hp} {a : Addr} {xs : List V} (e : Same G G') (h : SqT K G a xs) : SqT K G' a xs := by
  rcases h with h | h
  · exact .inl (rd_mono e h)
  · exact .inr h
mutual
theorem Rp.mono {K : PySem.W.Frag} {G G' : Hp} (e : Same G G') : ∀ {v : V} {d : D}, Rp K G v d → Rp K G' v d
  | _, _, .non => .non
  | _, _, .bl b => .bl b
  | _, _, .int i => .int i
  | _, _, .str x => .str x
  | _, _, .raw v => .raw v
  | _, _, .tup h r => .tup (e _ _ h) (RpA.mono e r)
  | _, _, .lst h r => .lst (e _ _ h) (RpA.mono e r)
  | _, _, .dct h r => .dct (e _ _ h) (RpK.mono e r)
theorem RpA.mono {K : PySem.W.Frag} {G G' : Hp} (e : Same G G') : ∀ {vs : List V} {ds : List D}, RpA K G vs ds → RpA K G' vs ds
  | _, _, .nil => .nil
  | _, _, .cons h r => .cons (Rp.mono e h) (RpA.mono e r)
theorem RpK.mono {K : PySem.W.Frag} {G G' : Hp} (e : Same G G') : ∀ {vs : List (List Key × V)} {ds : List (List Key × D)}, RpK K G vs ds → RpK K G' vs ds
  | _, _, .nil => .nil
  | _, _, .cons h r => .cons (Rp.mono e h) (RpK.mono e r)
end
section
variable {K : PySem.W.Frag} {G : Hp}
theorem RpA.length : ∀ {vs : List V} {ds : List D}, RpA K G vs ds → vs.length = ds.length
  | _, _, .nil => rfl
  | _, _, .cons _ r => congrArg (· + 1) r.length
theorem RpA.get : ∀ {vs : List V} {ds : List D} {i : Nat} {d : D}, RpA K G vs ds → ds[i]? = some d → ∃ v, vs[i]? = some v ∧ Rp K G v d
  | _, _, _, _, .nil, e => by simp at e
  | _, _, 0, _, .cons h _, e => by simp at e; subst e; exact ⟨_, rfl, h⟩
  | _, _, i + 1, d, .cons _ r, e => by
    obtain ⟨v, h1, h2⟩ := RpA.get (i := i) (d := d) r (by simpa using e)
    exact ⟨v, by simpa using h1, h2⟩
theorem RpA.get' : ∀ {vs : List V} {ds : List D} {i : Nat} {v : V}, RpA K G vs ds → vs[i]? = some v → ∃ d, ds[i]? = some d ∧ Rp K G v d
  | _, _, _, _, .nil, e => by simp at e
  | _, _, 0, _, .cons h _, e => by simp at e; subst e; exact ⟨_, rfl, h⟩
  | _, _, i + 1, d, .cons _ r, e => by
    obtain ⟨v, h1, h2⟩ := RpA.get' (i := i) (v := d) r (by simpa using e)
    exact ⟨v, by simpa using h1, h2⟩
theorem RpA.append : ∀ {vs ws : List V} {ds es : List D}, RpA K G vs ds → RpA K G ws es → RpA K G (vs ++ ws) (ds ++ es)
  | _, _, _, _, .nil, s => s
  | _, _, _, _, .cons h r, s => .cons h (RpA.append r s)
theorem RpA.snoc {vs : List V} {v : V} {ds : List D} {d : D} (h : RpA K G vs ds) (r : Rp K G v d) : RpA K G (vs ++ [v]) (ds ++ [d]) := h.append (.cons r .nil)
theorem RpA.take : ∀ {vs : List V} {ds : List D} (n : Nat), RpA K G vs ds → RpA K G (vs.take n) (ds.take n)
  | _, _, 0, _ => .nil
  | _, _, _ + 1, .nil => .nil
  | _, _, n + 1, .cons h r => .cons h (RpA.take n r)
theorem RpA.drop : ∀ {vs : List V} {ds : List D} (n : Nat), RpA K G vs ds → RpA K G (vs.drop n) (ds.drop n)
  | _, _, 0, h => h
  | _, _, _ + 1, .nil => .nil
  | _, _, n + 1, .cons _ r => RpA.drop n r
theorem RpA.rep {vs : List V} {ds : List D} (h : RpA K G vs ds) : ∀ k : Nat, RpA K G (List.replicate k vs).flatten (List.replicate k ds).flatten
  | 0 => .nil
  | k + 1 => by
    rw [List.replicate_succ, List.replicate_succ, List.flatten_cons, List.flatten_cons]
    exact h.append (RpA.rep h k)
theorem RpA.of_dv : ∀ vs : List V, RpA K G vs (vs.map DL.dv)
  | [] => .nil
  | v :: r => .cons (Rp.dv v) (RpA.of_dv r)
theorem Rp.int_inv {v : V} {i : Int} (h : Rp K G v (.int i)) : v = .int i := by cases h <;> rfl
theorem Rp.bl_inv {v : V} {b : Bool} (h : Rp K G v (.bl b)) : v = .bl b := by cases h <;> rfl
theorem Rp.str_inv {v : V} {x : Str} (h : Rp K G v (.str x)) : v = .str x := by cases h <;> rfl
theorem Rp.non_inv {v : V} (h : Rp K G v .non) : v = .non := by cases h <;> rfl
theorem Rp.raw_inv {v w : V} (h : Rp K G v (.raw w)) : v = w := by cases h <;> rfl
theorem Rp.tup_inv {v : V} {ds : List D} (h : Rp K G v (.tup ds)) : ∃ a xs, v = .ref a ∧ SqT K G a xs ∧ RpA K G xs ds := by
  cases h with
  | tup h r => exact ⟨_, _, rfl, .inl (.inl h), r⟩
theorem Rp.tup_at {v : V} {ds : List D} (h : Rp K G v (.tup ds)) : ∃ a xs, v = .ref a ∧ G a = some (.tup xs) ∧ RpA K G xs ds := by
  cases h with
  | tup h r => exact ⟨_, _, rfl, h, r⟩
theorem Rp.lst_inv {v : V} {ds : List D} (h : Rp K G v (.lst ds)) : ∃ a xs, v = .ref a ∧ G a = some (.lst xs) ∧ RpA K G xs ds := by
  cases h with
  | lst h r => exact ⟨_, _, rfl, h, r⟩
theorem Rp.dct_inv {v : V} {es : List (List Key × D)} (h : Rp K G v (.dct es)) : ∃ a o kvs, v = .ref a ∧ G a = some (.frz o (.dT kvs)) ∧ RpK K G kvs es := by
  cases h with
  | dct h r => exact ⟨_, _, _, rfl, h, r⟩
theorem RpA.ints : ∀ {vs : List V} {ns : List Int}, RpA K G vs (ns.map D.int) → vs = ns.map V.int
  | _, [], .nil => rfl
  | _, n :: r, .cons h t => by rw [h.int_inv, RpA.ints t]; rfl
theorem RpA.bls : ∀ {vs : List V} {bs : List Bool}, RpA K G vs (bs.map D.bl) → vs = bs.map V.bl
  | _, [], .nil => rfl
  | _, n :: r, .cons h t => by rw [h.bl_inv, RpA.bls t]; rfl
theorem RpA.strs : ∀ {vs : List V} {bs : List Str}, RpA K G vs (bs.map D.str) → vs = bs.map V.str
  | _, [], .nil => rfl
  | _, n :: r, .cons h t => by rw [h.str_inv, RpA.strs t]; rfl
end

/-! ### growth of the data's heap within the heap -/
/-- what is there, and is no tuple -/
def Mb (o : Option HO) : Prop := o ≠ none ∧ ∀ ys, o ≠ some (.tup ys)
theorem same_mb {H H' : Hp} {a : Addr} (e : Same H H') (h : Mb (H a)) : Mb (H' a) := by
  cases q : H a with
  | none => exact absurd q h.1
  | some o => rw [e a o q]; rw [q] at h; exact h
theorem mb_lst {H : Hp} {a : Addr} {vs : List V} (h : H a = some (.lst vs)) : Mb (H a) := by rw [h]; exact ⟨(fun z => nomatch z), (fun _ z => nomatch z)⟩
theorem mb_tbl {H : Hp} {a : Addr} {ps : Array Value} (h : H a = some (.tbl ps)) : Mb (H a) := by rw [h]; exact ⟨(fun z => nomatch z), (fun _ z => nomatch z)⟩
structure Grow (G H G' H' : Hp) : Prop where
  g : Same G G'
  h : Same H H'
  s : Same G' H'
  n : ∀ a, Mb (H a) → G a = none → G' a = none
theorem same_upd {H : Hp} {p : Addr} {o : HO} (h : H p = none) : Same H (upd H p o) := fun b x e => by
  rw [upd_ne (ne_of_none e h)]
  exact e
theorem same_upd2 {G H : Hp} {p : Addr} {o : HO} (h : Same G H) : Same (upd G p o) (upd H p o) := fun b x e => by
  by_cases hb : b = p
  · subst hb
    rw [upd_same] at e ⊢
    exact e
  · rw [upd_ne hb] at e ⊢
    exact h b x e
theorem Grow.refl {G H : Hp} (s : Same G H) : Grow G H G H := ⟨Same.refl _, Same.refl _, s, fun _ _ h => h⟩
theorem Grow.trans {G H G1 H1 G2 H2 : Hp} (a : Grow G H G1 H1) (b : Grow G1 H1 G2 H2) : Grow G H G2 H2 :=
  ⟨a.g.trans b.g, a.h.trans b.h, b.s, fun x hx hg => b.n x (same_mb a.h hx) (a.n x hx hg)⟩
/-- a new object of the data -/
theorem Grow.new {G H : Hp} {p : Addr} {o : HO} (s : Same G H) (h : H p = none) : Grow G H (upd G p o) (upd H p o) := by
  have hg : G p = none := by
    cases q : G p with
    | none => rfl
    | some u => rw [s p u q] at h; cases h
  refine ⟨same_upd hg, same_upd h, same_upd2 s, fun a ha hga => ?_⟩
  have : a ≠ p := fun e => ha.1 (e ▸ h)
  rw [upd_ne this]
  exact hga
/-- a new object that is no data -/
theorem Grow.aside {G H : Hp} {p : Addr} {o : HO} (s : Same G H) (h : H p = none) : Grow G H G (upd H p o) :=
  ⟨Same.refl _, same_upd h, s.trans (same_upd h), fun _ _ h => h⟩

/-! ### the state of a def in terms of data -/
/-- what stands at an address that is written -/
inductive Cl where
  | lst (xs : List D)
  | ho (o : HO)
  | ins (C dx : Addr) (fs : List (Str × D))
/-- a slot: nothing known, data, a thing of one's own -/
inductive Sl where
  | no | dat (d : D) | own (p : Addr) (c : Cl)
structure Bs where
  G : Hp
  H : Hp
abbrev Tb := List (Addr × Str)
inductive RpF (K : PySem.W.Frag) (G : Hp) : List (Str × V) → List (Str × D) → Prop
  | nil : RpF K G [] []
  | cons {k : Str} {v : V} {r : List (Str × V)} {d : D} {s : List (Str × D)} : Rp K G v d → RpF K G r s → RpF K G ((k, v) :: r) ((k, d) :: s)
theorem RpF.mono {K : PySem.W.Frag} {G G' : Hp} (e : Same G G') : ∀ {vs : List (Str × V)} {ds : List (Str × D)}, RpF K G vs ds → RpF K G' vs ds
  | _, _, .nil => .nil
  | _, _, .cons h r => .cons (h.mono e) (RpF.mono e r)
def ClR (K : PySem.W.Frag) (G H : Hp) (p : Addr) : Cl → Prop
  | .lst xs => ∃ vs, H p = some (.lst vs) ∧ RpA K G vs xs
  | .ho o => H p = some o ∧ ∀ ps, o ≠ .tbl ps
  | .ins C dx fs => ∃ ws, H p = some (.ins C dx ws) ∧ RpF K G ws fs
def SlR (K : PySem.W.Frag) (B : Bs) (G H : Hp) : Option V → Sl → Prop
  | _, .no => True
  | o, .dat d => ∃ v, o = some v ∧ Rp K G v d
  | o, .own p c => o = some (.ref p) ∧ G p = none ∧ B.H p = none ∧ Mb (H p) ∧ ClR K G H p c
abbrev En := List Sl
def owns : En → List Addr
  | [] => []
  | .own p _ :: r => p :: owns r
  | _ :: r => owns r
structure Sta (K : PySem.W.Frag) (T : Tb) (B : Bs) (G : Hp) (ρ : En) (σ : L2.St) (H : Hp) : Prop where
  g : Same B.G G
  h : Same B.H H
  s : Same G H
  n : ∀ a, Mb (B.H a) → B.G a = none → G a = none
  sl : Paired (SlR K B G H) σ ρ
  nd : (owns ρ).Nodup
  tb : LamX.Tabs T H
  tn : ∀ p ∈ T, B.H p.1 = none ∧ G p.1 = none
theorem same_ne {H H' : Hp} {a : Addr} (e : Same H H') (h : H a ≠ none) : H' a ≠ none := fun z => by
  cases q : H a with
  | none => exact h q
  | some o => rw [e a o q] at z; cases z
theorem some_ne {H : Hp} {a : Addr} {o : HO} (h : H a = some o) : H a ≠ none := fun z => by rw [h] at z; cases z
section
variable {K : PySem.W.Frag} {T : Tb} {B : Bs} {G H G' H' : Hp} {ρ : En} {σ : L2.St}
theorem ClR.grow (g : Grow G H G' H') {p : Addr} : ∀ {c : Cl}, ClR K G H p c → ClR K G' H' p c
  | .lst _, ⟨vs, h, r⟩ => ⟨vs, g.h _ _ h, r.mono g.g⟩
  | .ho _, ⟨h, n⟩ => ⟨g.h _ _ h, n⟩
  | .ins _ _ _, ⟨ws, h, r⟩ => ⟨ws, g.h _ _ h, r.mono g.g⟩
/-- a table is no thing of one's own -/
theorem ClR.notbl {p : Addr} {ps : Array Value} : ∀ {c : Cl}, ClR K G H p c → H p = some (.tbl ps) → False
  | .lst _, ⟨vs, h, _⟩, e => by rw [h] at e; cases e
  | .ho o, ⟨h, n⟩, e => n ps (Option.some.inj (h.symm.trans e))
  | .ins _ _ _, ⟨ws, h, _⟩, e => by rw [h] at e; cases e
theorem SlR.grow (g : Grow G H G' H') : ∀ {o : Option V} {x : Sl}, SlR K B G H o x → SlR K B G' H' o x
  | _, .no, _ => trivial
  | _, .dat _, ⟨v, e, r⟩ => ⟨v, e, r.mono g.g⟩
  | _, .own _ _, ⟨e, h1, h2, h3, h4⟩ => ⟨e, g.n _ h3 h1, h2, same_mb g.h h3, h4.grow g⟩
theorem Sta.grow (S : Sta K T B G ρ σ H) (g : Grow G H G' H') : Sta K T B G' ρ σ H' where
  g := S.g.trans g.g
  h := S.h.trans g.h
  s := g.s
  n := fun a ha hb => g.n a (same_mb S.h ha) (S.n a ha hb)
  sl := Paired.mapP S.sl fun _ _ h => h.grow g
  nd := S.nd
  tb := S.tb.ext g.h
  tn := fun p hp => ⟨(S.tn p hp).1, by
    obtain ⟨ps, h, _⟩ := S.tb p hp
    exact g.n _ (mb_tbl h) (S.tn p hp).2⟩
theorem Sta.new (S : Sta K T B G ρ σ H) {p : Addr} {o : HO} (h : H p = none) : Sta K T B (upd G p o) ρ σ (upd H p o) := S.grow (.new S.s h)
theorem paired_get {α β : Type} {F : α → β → Prop} : ∀ {l₁ : List α} {l₂ : List β} {i : Nat} {b : β}, Paired F l₁ l₂ → l₂[i]? = some b → ∃ a, l₁[i]? = some a ∧ F a b
  | _, _, _, _, .nil, e => by simp at e
  | _, _, 0, _, .cons h _, e => by simp at e; subst e; exact ⟨_, rfl, h⟩
  | _, _, i + 1, d, .cons _ r, e => by
    obtain ⟨v, h1, h2⟩ := paired_get (i := i) (b := d) r (by simpa using e)
    exact ⟨v, by simpa using h1, h2⟩
theorem paired_set {α β : Type} {F : α → β → Prop} {a : α} {b : β} (h : F a b) : ∀ {l₁ : List α} {l₂ : List β} (i : Nat), Paired F l₁ l₂ → Paired F (l₁.set i a) (l₂.set i b)
  | _, _, _, .nil => .nil
  | _, _, 0, .cons _ t => .cons h t
  | _, _, i + 1, .cons q t => .cons q (paired_set h i t)
theorem Sta.dat (S : Sta K T B G ρ σ H) {i : Nat} {d : D} (e : ρ[i]? = some (.dat d)) : ∃ v, σ[i]? = some (some v) ∧ Rp K G v d := by
  obtain ⟨o, h1, v, h2, h3⟩ := paired_get S.sl e
  subst h2
  exact ⟨v, h1, h3⟩
theorem Sta.own (S : Sta K T B G ρ σ H) {i : Nat} {p : Addr} {c : Cl} (e : ρ[i]? = some (.own p c)) : σ[i]? = some (some (.ref p)) ∧ G p = none ∧ B.H p = none ∧ Mb (H p) ∧ ClR K G H p c := by
  obtain ⟨o, h1, h2, h3⟩ := paired_get S.sl e
  subst h2
  exact ⟨h1, h3⟩
theorem mem_owns {p : Addr} : ∀ {ρ : En}, p ∈ owns ρ ↔ ∃ c, Sl.own p c ∈ ρ
  | [] => by simp [owns]
  | .no :: r => by simp [owns, mem_owns (ρ := r)]
  | .dat d :: r => by simp [owns, mem_owns (ρ := r)]
  | .own q c :: r => by
    simp only [owns, List.mem_cons, mem_owns (ρ := r), Sl.own.injEq]
    constructor
    · rintro (e | ⟨c', h⟩)
      · exact ⟨c, .inl ⟨e, rfl⟩⟩
      · exact ⟨c', .inr h⟩
    · rintro ⟨c', ⟨e, _⟩ | h⟩
      · exact .inl e
      · exact .inr ⟨c', h⟩
theorem owns_set_sub {x : Sl} (hx : ∀ p c, x ≠ .own p c) : ∀ (ρ : En) (i : Nat), (owns (ρ.set i x)).Sublist (owns ρ)
  | [], _ => by simp [owns]
  | y :: r, 0 => by
    have e : owns (x :: r) = owns r := by
      cases x with
      | no => rfl
      | dat d => rfl
      | own p c => exact absurd rfl (hx p c)
    rw [List.set_cons_zero, e]
    cases y with
    | no => exact List.Sublist.refl _
    | dat d => exact List.Sublist.refl _
    | own p c => exact List.sublist_cons_self _ _
  | y :: r, i + 1 => by
    rw [List.set_cons_succ]
    cases y with
    | no => exact owns_set_sub hx r i
    | dat d => exact owns_set_sub hx r i
    | own p c => exact (owns_set_sub hx r i).cons_cons p
/-- a slot gets data -/
theorem Sta.setDat (S : Sta K T B G ρ σ H) (i : Nat) {v : V} {d : D} (r : Rp K G v d) : Sta K T B G (ρ.set i (.dat d)) (σ.set i (some v)) H where
  g := S.g
  h := S.h
  s := S.s
  n := S.n
  sl := paired_set (F := SlR K B G H) (a := some v) (b := .dat d) ⟨v, rfl, r⟩ i S.sl
  nd := S.nd.sublist (owns_set_sub (fun _ _ e => by cases e) ρ i)
  tb := S.tb
  tn := S.tn
/-- a slot is forgotten -/
theorem Sta.setNo (S : Sta K T B G ρ σ H) (i : Nat) (o : Option V) : Sta K T B G (ρ.set i .no) (σ.set i o) H where
  g := S.g
  h := S.h
  s := S.s
  n := S.n
  sl := paired_set (F := SlR K B G H) (a := o) (b := .no) trivial i S.sl
  nd := S.nd.sublist (owns_set_sub (fun _ _ e => by cases e) ρ i)
  tb := S.tb
  tn := S.tn
theorem owns_set_own {p : Addr} {c : Cl} : ∀ (ρ : En) (i : Nat), p ∉ owns ρ → (owns ρ).Nodup → (owns (ρ.set i (.own p c))).Nodup ∧ ∀ q, q ∈ owns (ρ.set i (.own p c)) → q = p ∨ q ∈ owns ρ
  | [], _, _, _ => by simp [owns]
  | y :: r, 0, h, nd => by
    rw [List.set_cons_zero]
    have h1 : p ∉ owns r ∧ (owns r).Nodup ∧ ∀ q, q ∈ owns r → q ∈ owns (y :: r) := by
      cases y with
      | no => exact ⟨h, nd, fun _ z => z⟩
      | dat d => exact ⟨h, nd, fun _ z => z⟩
      | own q c' => exact ⟨fun z => h (List.mem_cons_of_mem _ z), (List.nodup_cons.mp nd).2, fun _ z => List.mem_cons_of_mem _ z⟩
    refine ⟨List.nodup_cons.mpr ⟨h1.1, h1.2.1⟩, fun q hq => ?_⟩
    rcases List.mem_cons.mp hq with e | hq
    · exact .inl e
    · exact .inr (h1.2.2 q hq)
  | y :: r, i + 1, h, nd => by
    rw [List.set_cons_succ]
    cases y with
    | no => exact owns_set_own r i h nd
    | dat d => exact owns_set_own r i h nd
    | own q c' =>
      obtain ⟨n1, n2⟩ := List.nodup_cons.mp nd
      obtain ⟨h1, h2⟩ := owns_set_own (c := c) r i (fun z => h (List.mem_cons_of_mem _ z)) n2
      refine ⟨List.nodup_cons.mpr ⟨fun z => ?_, h1⟩, fun x hx => ?_⟩
      · rcases h2 q z with e | z
        · exact h (e ▸ List.mem_cons_self)
        · exact n1 z
      · rcases List.mem_cons.mp hx with e | hx
        · exact .inr (e ▸ List.mem_cons_self)
        · rcases h2 x hx with e | e
          · exact .inl e
          · exact .inr (List.mem_cons_of_mem _ e)
/-- a slot gets a thing of one's own -/
theorem Sta.setOwn (S : Sta K T B G ρ σ H) (i : Nat) {p : Addr} {c : Cl} (h1 : G p = none) (h2 : B.H p = none) (h3 : Mb (H p)) (h4 : ClR K G H p c) (h5 : p ∉ owns ρ) : Sta K T B G (ρ.set i (.own p c)) (σ.set i (some (.ref p))) H where
  g := S.g
  h := S.h
  s := S.s
  n := S.n
  sl := paired_set (F := SlR K B G H) (a := some (.ref p)) (b := .own p c) ⟨rfl, h1, h2, h3, h4⟩ i S.sl
  nd := (owns_set_own ρ i h5 S.nd).1
  tb := S.tb
  tn := S.tn
end
/-- a tuple that is there is taken into the data -/
theorem Grow.take {G H : Hp} (s : Same G H) {b : Addr} {ys : List V} (h : H b = some (.tup ys)) : Grow G H (upd G b (.tup ys)) H := by
  refine ⟨fun a o e => ?_, Same.refl _, fun a o e => ?_, fun a ha hg => ?_⟩
  · by_cases q : a = b
    · subst q
      have := s a o e
      rw [h] at this
      rw [upd_same]
      exact this
    · rw [upd_ne q]; exact e
  · by_cases q : a = b
    · subst q
      rw [upd_same] at e
      rw [h]
      exact e
    · rw [upd_ne q] at e
      exact s a o e
  · have : a ≠ b := fun e => ha.2 ys (e ▸ h)
    rw [upd_ne this]
    exact hg
end DL
set_option Elab.async false
set_option linter.all false
set_option maxRecDepth 100000
set_option maxHeartbeats 2000000
namespace DL
open PySem PySem.Spec PyProof.Rows L2
/-! ### the judgements -/
def tEX (K : PySem.W.Frag) (T : Tb) (ρ ρ' : En) (d : D) : TE := fun σ H Q => ∃ B G, Sta K T B G ρ σ H ∧ ∀ v G' H', Same G G' → Sta K T B G' ρ' σ H' → Rp K G' v d → Q v H'
def tET (K : PySem.W.Frag) (T : Tb) (ρ ρ' : En) (b : Bool) : TT := fun σ H Q => ∃ B G, Sta K T B G ρ σ H ∧ ∀ G' H', Same G G' → Sta K T B G' ρ' σ H' → Q b H'
def tEA (K : PySem.W.Frag) (T : Tb) (ρ ρ' : En) (ds : List D) : TA := fun σ H Q => ∃ B G, Sta K T B G ρ σ H ∧ ∀ vs G' H', Same G G' → Sta K T B G' ρ' σ H' → RpA K G' vs ds → Q vs H'
/-- a new list -/
structure NewL (K : PySem.W.Frag) (B : Bs) (G : Hp) (ρ : En) (H : Hp) (p : Addr) (xs : List D) : Prop where
  at_ : ∃ vs, H p = some (.lst vs) ∧ RpA K G vs xs
  g : G p = none
  b : B.H p = none
  o : p ∉ owns ρ
def tEN (K : PySem.W.Frag) (T : Tb) (ρ ρ' : En) (xs : List D) : TE := fun σ H Q => ∃ B G, Sta K T B G ρ σ H ∧ ∀ p G' H', Same G G' → Sta K T B G' ρ' σ H' → NewL K B G' ρ' H' p xs → Q (.ref p) H'
/-- an expression is raised out of -/
def tER (K : PySem.W.Frag) (T : Tb) (W : WX) (ρ : En) (C : Addr) : TE := fun σ H _ => ∃ B G, Sta K T B G ρ σ H ∧ ∀ G' H', Same G G' → Sta K T B G' ρ σ H' → W (.ref C) none σ H'
def EX (X : Cx) (T : Tb) (e : Expr) (ρ ρ' : En) (d : D) : Prop := PE X e (tEX X.K T ρ ρ' d)
def ET (X : Cx) (T : Tb) (e : Expr) (ρ ρ' : En) (b : Bool) : Prop := PT X e (tET X.K T ρ ρ' b)
def EW (X : Cx) (T : Tb) (e : Expr) (ρ ρ' : En) (b : Bool) : Prop := PW X e (tET X.K T ρ ρ' b)
def EA (X : Cx) (T : Tb) (es : List Expr) (ρ ρ' : En) (ds : List D) : Prop := PA X es (tEA X.K T ρ ρ' ds)
def EN (X : Cx) (T : Tb) (e : Expr) (ρ ρ' : En) (xs : List D) : Prop := PE X e (tEN X.K T ρ ρ' xs)
def ER (X : Cx) (T : Tb) (W : WX) (e : Expr) (ρ : En) (C : Addr) : Prop := PE X e (tER X.K T W ρ C)
/-- what a def hands back -/
inductive Rs where
  | dat (d : D) | new (xs : List D) | exc (C : Addr)
def RsR (K : PySem.W.Frag) (B : Bs) (G : Hp) (ρ : En) (H : Hp) (v : V) : Rs → Prop
  | .dat d => Rp K G v d
  | .new xs => ∃ p, v = .ref p ∧ NewL K B G ρ H p xs
  | .exc _ => False
inductive Out where
  | nx (ρ : En) | rt (ρ : En) (r : Rs) | bk (ρ : En) | ct (ρ : En) | ex (ρ : En) (C : Addr)
structure Post (K : PySem.W.Frag) (T : Tb) (W : WX) (B : Bs) (G : Hp) (P : Out → Prop) (D : Ends) : Prop where
  nx : ∀ ρ' σ' G' H', P (.nx ρ') → Same G G' → Sta K T B G' ρ' σ' H' → D.nx σ' H'
  rt : ∀ ρ' r v σ' G' H', P (.rt ρ' r) → Same G G' → Sta K T B G' ρ' σ' H' → RsR K B G' ρ' H' v r → D.rt v H'
  bk : ∀ ρ' σ' G' H', P (.bk ρ') → Same G G' → Sta K T B G' ρ' σ' H' → D.bk σ' H'
  ct : ∀ ρ' σ' G' H', P (.ct ρ') → Same G G' → Sta K T B G' ρ' σ' H' → D.ct σ' H'
  ex : ∀ ρ' C σ' G' H', P (.ex ρ' C) → Same G G' → Sta K T B G' ρ' σ' H' → W (.ref C) none σ' H'
def tES (K : PySem.W.Frag) (T : Tb) (W : WX) (ρ : En) (P : Out → Prop) : TS := fun D σ H => ∃ B G, Sta K T B G ρ σ H ∧ Post K T W B G P D
def ES (X : Cx) (T : Tb) (W : WX) (st : Stmt) (ρ : En) (P : Out → Prop) : Prop := PS X st (tES X.K T W ρ P)
def ESs (X : Cx) (T : Tb) (W : WX) (st : List Stmt) (ρ : En) (P : Out → Prop) : Prop := PSs X st (tES X.K T W ρ P)
/-- a target gets data -/
def tGX (K : PySem.W.Frag) (T : Tb) (ρ : En) (d : D) (ρ' : En) : TG := fun v σ H Q => ∃ B G, Sta K T B G ρ σ H ∧ Rp K G v d ∧ ∀ σ' G' H', Same G G' → Sta K T B G' ρ' σ' H' → Q σ' H'
/-! ### weakening -/
section
variable {X : Cx} {T : Tb}
theorem pe_imp {e : Expr} {t t' : TE} (h : PE X e t) (i : ∀ σ H Q, t' σ H Q → t σ H Q) : PE X e t' := ⟨fun pins s σ H Q I w => h.run pins s σ H Q I (i σ H Q w)⟩
theorem pt_imp {e : Expr} {t t' : TT} (h : PT X e t) (i : ∀ σ H Q, t' σ H Q → t σ H Q) : PT X e t' := ⟨fun pins s σ H Q I w => h.run pins s σ H Q I (i σ H Q w)⟩
theorem pw_imp {e : Expr} {t t' : TT} (h : PW X e t) (i : ∀ σ H Q, t' σ H Q → t σ H Q) : PW X e t' := ⟨fun wh pins s σ H Q I w => h.run wh pins s σ H Q I (i σ H Q w)⟩
theorem pa_imp {es : List Expr} {t t' : TA} (h : PA X es t) (i : ∀ σ H Q, t' σ H Q → t σ H Q) : PA X es t' := ⟨fun pos pins s σ H Q I w => h.run pos pins s σ H Q I (i σ H Q w)⟩
theorem ps_imp {st : Stmt} {t t' : TS} (h : PS X st t) (i : ∀ D σ H, t' D σ H → t D σ H) : PS X st t' := ⟨fun pins s σ H D I w => h.run pins s σ H D I (i D σ H w)⟩
theorem pss_imp {st : List Stmt} {t t' : TS} (h : PSs X st t) (i : ∀ D σ H, t' D σ H → t D σ H) : PSs X st t' := ⟨fun pins s σ H D I w => h.run pins s σ H D I (i D σ H w)⟩
theorem pg_imp {tg : Expr} {t t' : TG} (h : PG X tg t) (i : ∀ v σ H Q, t' v σ H Q → t v σ H Q) : PG X tg t' := ⟨fun pins s σ H v u Q I r w => h.run pins s σ H v u Q I r (i v σ H Q w)⟩
theorem pi_imp {tg iter : Expr} {t t' : TI} (h : PI X tg iter t) (i : ∀ σ H R, t' σ H R → t σ H R) : PI X tg iter t' := ⟨fun pins s σ H R I w => h.run pins s σ H R I (i σ H R w)⟩
/-- what is shown under a condition -/
theorem pe_if {e : Expr} {t : TE} {c : Prop} (h : c → PE X e t) : PE X e (fun σ H Q => c ∧ t σ H Q) := ⟨fun pins s σ H Q I w => (h w.1).run pins s σ H Q I w.2⟩
theorem pt_if {e : Expr} {t : TT} {c : Prop} (h : c → PT X e t) : PT X e (fun σ H Q => c ∧ t σ H Q) := ⟨fun pins s σ H Q I w => (h w.1).run pins s σ H Q I w.2⟩
theorem pw_if {e : Expr} {t : TT} {c : Prop} (h : c → PW X e t) : PW X e (fun σ H Q => c ∧ t σ H Q) := ⟨fun wh pins s σ H Q I w => (h w.1).run wh pins s σ H Q I w.2⟩
theorem pss_if {st : List Stmt} {t : TS} {c : Prop} (h : c → PSs X st t) : PSs X st (fun D σ H => c ∧ t D σ H) := ⟨fun pins s σ H D I w => (h w.1).run pins s σ H D I w.2⟩
theorem pa_never {es : List Expr} : PA X es (fun _ _ _ => False) := ⟨fun _ _ _ _ _ _ _ h => h.elim⟩
theorem pe_never {e : Expr} : PE X e (fun _ _ _ => False) := ⟨fun _ _ _ _ _ _ h => h.elim⟩
end
/-! ### a new list taken into the data -/
section
variable {K : PySem.W.Frag} {T : Tb} {B : Bs} {G H : Hp} {ρ : En} {σ : L2.St}
theorem Sta.adopt (S : Sta K T B G ρ σ H) {p : Addr} {vs : List V} (h : H p = some (.lst vs)) (hg : G p = none) (hb : B.H p = none) (ho : p ∉ owns ρ) : Sta K T B (upd G p (.lst vs)) ρ σ H where
  g := S.g.trans (same_upd hg)
  h := S.h
  s := fun a o e => by
    by_cases ha : a = p
    · subst ha
      rw [upd_same] at e
      rw [h]
      exact e
    · rw [upd_ne ha] at e
      exact S.s a o e
  n := fun a h1 h2 => by
    have : a ≠ p := fun e => h1.1 (e ▸ hb)
    rw [upd_ne this]
    exact S.n a h1 h2
  sl := paired_adopt' S.sl ho (fun q z => by rw [h] at z; cases z)
  nd := S.nd
  tb := S.tb
  tn := fun q hq => ⟨(S.tn q hq).1, by
    obtain ⟨ps, e, _⟩ := S.tb q hq
    have : q.1 ≠ p := fun z => by rw [z, h] at e; cases e
    rw [upd_ne this]
    exact (S.tn q hq).2⟩
where paired_adopt' {o : HO} : ∀ {σ : L2.St} {ρ : En}, Paired (SlR K B G H) σ ρ → p ∉ owns ρ → (∀ q, H p ≠ some (.own q)) → Paired (SlR K B (upd G p o) H) σ ρ
  | _, _, .nil, _, _ => .nil
  | _, .no :: _, .cons _ t, h, h2 => .cons trivial (paired_adopt' t h h2)
  | _, .dat d :: _, .cons ⟨v, e, r⟩ t, h, h2 => .cons ⟨v, e, r.mono (same_upd hg)⟩ (paired_adopt' t h h2)
  | _, .own q c :: _, .cons ⟨e, a1, a2, a3, a4⟩ t, h, h2 => by
    have nq : q ≠ p := fun z => h (z ▸ List.mem_cons_self)
    refine .cons ⟨e, ?_, a2, a3, ?_⟩ (paired_adopt' t (fun z => h (List.mem_cons_of_mem _ z)) h2)
    · rw [upd_ne nq]
      exact a1
    · cases c with
      | lst xs => exact ⟨a4.choose, a4.choose_spec.1, a4.choose_spec.2.mono (same_upd hg)⟩
      | ho o' => exact a4
      | ins C dx fs =>
        obtain ⟨ws, b1, b2⟩ := a4
        exact ⟨ws, b1, b2.mono (same_upd hg)⟩
theorem NewL.take {p : Addr} {xs : List D} (S : Sta K T B G ρ σ H) (N : NewL K B G ρ H p xs) : ∃ G', Same G G' ∧ Sta K T B G' ρ σ H ∧ Rp K G' (.ref p) (.lst xs) := by
  obtain ⟨⟨vs, h, r⟩, g, b, o⟩ := N
  exact ⟨_, same_upd g, S.adopt h g b o, .lst upd_same (r.mono (same_upd g))⟩
end
theorem EN.ex {X : Cx} {T : Tb} {e : Expr} {ρ ρ' : En} {xs : List D} (h : EN X T e ρ ρ' xs) : EX X T e ρ ρ' (.lst xs) :=
  pe_imp h fun σ H Q ⟨B, G, S, q⟩ => ⟨B, G, S, fun p G' H' g S' N => by
    obtain ⟨G2, g2, S2, r⟩ := N.take S'
    exact q _ G2 H' (g.trans g2) S2 r⟩
/-! ### names and constants -/
section
variable {X : Cx} {T : Tb} {ρ ρ1 ρ2 : En} {pos : Pos}
theorem ex_var (i : Nat) {x : Str} {d : D} (e : ρ[i]? = some (.dat d)) (hN : X.N[i]? = some x := by rfl) (hv : Vis X.env.scope x := by first | exact Or.inl rfl | exact Or.inr (Or.inl rfl) | exact Or.inr (Or.inr rfl)) (hd : (x == ("__debug__" : Str)) = false := by decide)
    (hcd : (x == ("__classdict__" : Str)) = false := by decide) : EX X T (.Name x pos) ρ ρ d :=
  pe_imp (pe_var hN hv hd hcd) fun σ H Q ⟨B, G, S, q⟩ => by
    obtain ⟨v, h1, h2⟩ := S.dat e
    exact ⟨v, h1, q v G H (Same.refl _) S h2⟩
/-- a thing of one's own, by its name -/
theorem ex_own (i : Nat) {x : Str} {p : Addr} {c : Cl} (e : ρ[i]? = some (.own p c)) (hN : X.N[i]? = some x := by rfl) (hv : Vis X.env.scope x := by first | exact Or.inl rfl | exact Or.inr (Or.inl rfl) | exact Or.inr (Or.inr rfl)) (hd : (x == ("__debug__" : Str)) = false := by decide)
    (hcd : (x == ("__classdict__" : Str)) = false := by decide) : EX X T (.Name x pos) ρ ρ (.raw (.ref p)) :=
  pe_imp (pe_var hN hv hd hcd) fun σ H Q ⟨B, G, S, q⟩ => ⟨_, (S.own e).1, q _ G H (Same.refl _) S (.raw _)⟩
theorem tC_imp {v : V} {d : D} (r : ∀ K G, Rp K G v d) {σ : L2.St} {H : Hp} {Q : VK} (h : tEX X.K T ρ ρ d σ H Q) : tC v σ H Q := by
  obtain ⟨B, G, S, q⟩ := h
  exact q v G H (Same.refl _) S (r _ _)
theorem ex_int {i : Int} {j : Nat} : EX X T (.Constant (.int i) j pos) ρ ρ (.int i) := pe_imp pe_int fun _ _ _ h => tC_imp (fun _ _ => .int _) h
theorem ex_bl {b : Bool} {j : Nat} : EX X T (.Constant (.bool b) j pos) ρ ρ (.bl b) := pe_imp pe_bl fun _ _ _ h => tC_imp (fun _ _ => .bl _) h
theorem ex_non {j : Nat} : EX X T (.Constant .none j pos) ρ ρ .non := pe_imp pe_non fun _ _ _ h => tC_imp (fun _ _ => .non) h
theorem ex_str {x : Str} {j : Nat} : EX X T (.Constant (.str x) j pos) ρ ρ (.str x) := pe_imp pe_str fun _ _ _ h => tC_imp (fun _ _ => .str _) h
/-- a module's constant, a def, a class -/
theorem ex_glob {x : Str} {v : V} {u : Value} {d : D} (hm : X.mg x = some u) (r : RelV v u) (hd : DL.dv v = d) (hg : Gl X x := by rfl) (hdb : (x == ("__debug__" : Str)) = false := by decide) : EX X T (.Name x pos) ρ ρ d :=
  pe_imp (pe_glob hg hm r hdb) fun _ _ _ h => tC_imp (fun _ _ => hd ▸ Rp.dv v) h
theorem ex_bltn {x : Str} {v : V} {u : Value} {d : D} (hm : X.mg x = none) (hv : bootBuiltins x = some u) (r : RelV v u) (hd : DL.dv v = d) (hg : Gl X x := by rfl) (hn : x ≠ "__name__" := by decide) (hdb : (x == ("__debug__" : Str)) = false := by decide) : EX X T (.Name x pos) ρ ρ d :=
  pe_imp (pe_bltn hg hm hv r hn hdb) fun _ _ _ h => tC_imp (fun _ _ => hd ▸ Rp.dv v) h
end
/-! ### operators by their rules on data -/
def RR (K : PySem.W.Frag) (r : R2) (a b d : D) : Prop := ∀ G H x y (Q : VK), Rp K G x a → Rp K G y b → Same G H → (∀ v G' H', Grow G H G' H' → Rp K G' v d → Q v H') → r x y H Q
def RU (K : PySem.W.Frag) (r : V → Hp → VK → Prop) (a d : D) : Prop := ∀ G H x (Q : VK), Rp K G x a → Same G H → (∀ v G' H', Grow G H G' H' → Rp K G' v d → Q v H') → r x H Q
def RC (K : PySem.W.Frag) (r : List V → Hp → VK → Prop) (ds : List D) (d : D) : Prop := ∀ G H vs (Q : VK), RpA K G vs ds → Same G H → (∀ v G' H', Grow G H G' H' → Rp K G' v d → Q v H') → r vs H Q
section
variable {X : Cx} {T : Tb} {ρ ρ1 ρ2 ρ3 : En} {pos : Pos} {a b c : Expr} {da db dc d : D}
theorem tOp_imp {r : R2} (hr : RR X.K r da db d) {σ : L2.St} {H : Hp} {Q : VK} (h : tEX X.K T ρ ρ2 d σ H Q) : tOp r (tEX X.K T ρ ρ1 da) (tEX X.K T ρ1 ρ2 db) σ H Q := by
  obtain ⟨B, G, S, q⟩ := h
  exact ⟨B, G, S, fun x G1 H1 g1 S1 r1 => ⟨B, G1, S1, fun y G2 H2 g2 S2 r2 => hr G2 H2 x y Q (r1.mono g2) r2 S2.s fun v G3 H3 gr r3 => q v G3 H3 ((g1.trans g2).trans gr.g) (S2.grow gr) r3⟩⟩
theorem ex_op {op : Operator} {r : R2} (ho : OpR X (binaryOp op) r) (ha : EX X T a ρ ρ1 da) (hb : EX X T b ρ1 ρ2 db) (hr : RR X.K r da db d) : EX X T (.BinOp a op b pos) ρ ρ2 d :=
  pe_imp (pe_op ho ha hb) fun _ _ _ h => tOp_imp hr h
theorem ex_cmp {op : CmpOp} {r : R2} (ho : OpR X (compareOp op) r) (ha : EX X T a ρ ρ1 da) (hb : EX X T b ρ1 ρ2 db) (hr : RR X.K r da db d) (hm : behindInMarks op b = false := by first | exact nomark _ | rfl) : EX X T (.Compare a [op] [b] pos) ρ ρ2 d :=
  pe_imp (pe_cmpR ho ha hb hm) fun _ _ _ h => tOp_imp hr h
theorem ex_ix {r : R2} (hi : IxR X r) (ha : EX X T a ρ ρ1 da) (hb : EX X T b ρ1 ρ2 db) (hr : RR X.K r da db d) (hs : PlainIx b := by exact fun _ _ => rfl) : EX X T (.Subscript a b pos) ρ ρ2 d :=
  pe_imp (pe_ix hi ha hb hs) fun _ _ _ h => tOp_imp hr h
theorem ex_un {op : UnaryOp} {r : V → Hp → VK → Prop} (ho : UnR X (unaryOp op) r) (ha : EX X T a ρ ρ1 da) (hr : RU X.K r da d) : EX X T (.UnaryOp op a pos) ρ ρ1 d :=
  pe_imp (pe_un ho ha) fun _ _ Q ⟨B, G, S, q⟩ => ⟨B, G, S, fun x G1 H1 g1 S1 r1 => hr G1 H1 x Q r1 S1.s fun v G2 H2 gr r2 => q v G2 H2 (g1.trans gr.g) (S1.grow gr) r2⟩
/-- a < b < c -/
theorem ex_chain {op op' : CmpOp} {r r' : R2} {k : Bool} (ho : OpR X (compareOp op) r) (ho' : OpR X (compareOp op') r') (ha : EX X T a ρ ρ1 da) (hb : EX X T b ρ1 ρ2 db) (hr : RR X.K r da db (.bl k)) (hc : k = true → EX X T c ρ2 ρ3 dc) (hr' : k = true → RR X.K r' db dc d)
    (h0 : k = false → ρ2 = ρ3 ∧ d = .bl false) (hm : lastMarks [op, op'] [b, c] = false := by with_unfolding_all rfl) : EX X T (.Compare a [op, op'] [b, c] pos) ρ ρ3 d :=
  pe_imp (pe_chain ho ho' ha hb (pe_if hc) hm) fun σ H Q ⟨B, G, S, q⟩ => by
    refine ⟨B, G, S, fun x G1 H1 g1 S1 r1 => ⟨B, G1, S1, fun y G2 H2 g2 S2 r2 => hr G2 H2 x y _ (r1.mono g2) r2 S2.s fun v G3 H3 gr r3 => ⟨k, r3.bl_inv, ?_⟩⟩⟩
    have S3 := S2.grow gr
    have g3 := (g1.trans g2).trans gr.g
    cases k with
    | true => exact ⟨rfl, B, G3, S3, fun z G4 H4 g4 S4 r4 => hr' rfl G4 H4 y z Q (r2.mono (gr.g.trans g4)) r4 S4.s fun v' G5 H5 gr5 r5 => q v' G5 H5 ((g3.trans g4).trans gr5.g) (S4.grow gr5) r5⟩
    | false =>
      obtain ⟨rfl, rfl⟩ := h0 rfl
      exact q _ G3 H3 g3 S3 (.bl false)
/-! ### tests -/
theorem et_val {k : Bool} (h : EX X T a ρ ρ1 (.bl k)) (he : ∀ whole, isTrue a X.env whole = (do let v ← whole; standAt a.pos; holding [v] (truthy v)) := by intro _; rfl) : ET X T a ρ ρ1 k :=
  pt_imp (pt_val h he) fun σ H Q ⟨B, G, S, q⟩ => ⟨B, G, S, fun v G1 H1 g1 S1 r1 => ⟨k, r1.bl_inv, q G1 H1 g1 S1⟩⟩
theorem et_cmp {op : CmpOp} {r : R2} {k : Bool} (ho : OpR X (compareOp op) r) (ha : EX X T a ρ ρ1 da) (hb : EX X T b ρ1 ρ2 db) (hr : RR X.K r da db (.bl k)) (hm : behindInMarks op b = false := by first | exact nomark _ | rfl) : ET X T (.Compare a [op] [b] pos) ρ ρ2 k :=
  pt_imp (pt_cmpR ho ha hb hm) fun σ H Q ⟨B, G, S, q⟩ => tOp_imp (d := .bl k) hr ⟨B, G, S, fun v G1 H1 g1 S1 r1 => ⟨k, r1.bl_inv, q G1 H1 g1 S1⟩⟩
theorem et_chain {op op' : CmpOp} {r r' : R2} {k k' : Bool} (ho : OpR X (compareOp op) r) (ho' : OpR X (compareOp op') r') (ha : EX X T a ρ ρ1 da) (hb : EX X T b ρ1 ρ2 db) (hr : RR X.K r da db (.bl k)) (hc : k = true → EX X T c ρ2 ρ3 dc) (hr' : k = true → RR X.K r' db dc (.bl k'))
    (h0 : k = false → ρ2 = ρ3) (hm : lastMarks [op, op'] [b, c] = false := by with_unfolding_all rfl) : ET X T (.Compare a [op, op'] [b, c] pos) ρ ρ3 (k && k') :=
  pt_imp (pt_chain ho ho' ha hb (pe_if hc) hm) fun σ H Q ⟨B, G, S, q⟩ => by
    refine ⟨B, G, S, fun x G1 H1 g1 S1 r1 => ⟨B, G1, S1, fun y G2 H2 g2 S2 r2 => hr G2 H2 x y _ (r1.mono g2) r2 S2.s fun v G3 H3 gr r3 => ⟨k, r3.bl_inv, ?_⟩⟩⟩
    have S3 := S2.grow gr
    have g3 := (g1.trans g2).trans gr.g
    cases k with
    | true =>
      exact ⟨rfl, B, G3, S3, fun z G4 H4 g4 S4 r4 => hr' rfl G4 H4 y z _ (r2.mono (gr.g.trans g4)) r4 S4.s fun v' G5 H5 gr5 r5 => ⟨k', r5.bl_inv, q G5 H5 ((g3.trans g4).trans gr5.g) (S4.grow gr5)⟩⟩
    | false =>
      cases h0 rfl
      exact ⟨false, rfl, q G3 H3 g3 S3⟩
theorem et_not {k : Bool} (h : ET X T a ρ ρ1 k) : ET X T (.UnaryOp .Not a pos) ρ ρ1 (!k) :=
  pt_imp (pt_not h) fun σ H Q ⟨B, G, S, q⟩ => ⟨B, G, S, fun G1 H1 g1 S1 => q G1 H1 g1 S1⟩
variable {rest : List Expr} {k k' : Bool}
theorem EW.et {e : Expr} (h : EW X T e ρ ρ1 k) : ET X T e ρ ρ1 k := PW.pt h
theorem ew_and1 (h : ET X T a ρ ρ1 k) : EW X T (.BoolOp .And [a] pos) ρ ρ1 k := pw_and1 h
theorem ew_or1 (h : ET X T a ρ ρ1 k) : EW X T (.BoolOp .Or [a] pos) ρ ρ1 k := pw_or1 h
theorem ew_and (h : ET X T a ρ ρ1 k) (h' : k = true → EW X T (.BoolOp .And (b :: rest) pos) ρ1 ρ2 k') (h0 : k = false → ρ1 = ρ2) : EW X T (.BoolOp .And (a :: b :: rest) pos) ρ ρ2 (k && k') :=
  pw_imp (pw_and h (pw_if h')) fun σ H Q ⟨B, G, S, q⟩ => ⟨B, G, S, fun G1 H1 g1 S1 => by
    cases k with
    | true => exact ⟨rfl, B, G1, S1, fun G2 H2 g2 S2 => q G2 H2 (g1.trans g2) S2⟩
    | false =>
      cases h0 rfl
      exact q G1 H1 g1 S1⟩
theorem ew_or (h : ET X T a ρ ρ1 k) (h' : k = false → EW X T (.BoolOp .Or (b :: rest) pos) ρ1 ρ2 k') (h0 : k = true → ρ1 = ρ2) : EW X T (.BoolOp .Or (a :: b :: rest) pos) ρ ρ2 (k || k') :=
  pw_imp (pw_or h (pw_if h')) fun σ H Q ⟨B, G, S, q⟩ => ⟨B, G, S, fun G1 H1 g1 S1 => by
    cases k with
    | false => exact ⟨rfl, B, G1, S1, fun G2 H2 g2 S2 => q G2 H2 (g1.trans g2) S2⟩
    | true =>
      cases h0 rfl
      exact q G1 H1 g1 S1⟩
theorem ex_one {op : BoolOp} (h : EX X T a ρ ρ1 d) : EX X T (.BoolOp op [a] pos) ρ ρ1 d := pe_one h
theorem ex_and (h : EX X T a ρ ρ1 (.bl k)) (h' : k = true → EX X T (.BoolOp .And (b :: rest) pos) ρ1 ρ2 (.bl k')) (h0 : k = false → ρ1 = ρ2) : EX X T (.BoolOp .And (a :: b :: rest) pos) ρ ρ2 (.bl (k && k')) :=
  pe_imp (pe_and h (pe_if h')) fun σ H Q ⟨B, G, S, q⟩ => ⟨B, G, S, fun v G1 H1 g1 S1 r1 => ⟨k, r1.bl_inv, by
    cases k with
    | true => exact ⟨rfl, B, G1, S1, fun w G2 H2 g2 S2 r2 => q w G2 H2 (g1.trans g2) S2 r2⟩
    | false =>
      cases h0 rfl
      exact q _ G1 H1 g1 S1 (.bl false)⟩⟩
theorem ex_or (h : EX X T a ρ ρ1 (.bl k)) (h' : k = false → EX X T (.BoolOp .Or (b :: rest) pos) ρ1 ρ2 (.bl k')) (h0 : k = true → ρ1 = ρ2) : EX X T (.BoolOp .Or (a :: b :: rest) pos) ρ ρ2 (.bl (k || k')) :=
  pe_imp (pe_or h (pe_if h')) fun σ H Q ⟨B, G, S, q⟩ => ⟨B, G, S, fun v G1 H1 g1 S1 r1 => ⟨k, r1.bl_inv, by
    cases k with
    | false => exact ⟨rfl, B, G1, S1, fun w G2 H2 g2 S2 r2 => q w G2 H2 (g1.trans g2) S2 r2⟩
    | true =>
      cases h0 rfl
      exact q _ G1 H1 g1 S1 (.bl true)⟩⟩
theorem ex_not (h : EX X T a ρ ρ1 (.bl k)) : EX X T (.UnaryOp .Not a pos) ρ ρ1 (.bl (!k)) :=
  pe_imp (pe_not h) fun σ H Q ⟨B, G, S, q⟩ => ⟨B, G, S, fun v G1 H1 g1 S1 r1 => ⟨k, r1.bl_inv, q _ G1 H1 g1 S1 (.bl _)⟩⟩
theorem ex_if (hc : ET X T c ρ ρ1 k) (ha : k = true → EX X T a ρ1 ρ2 d) (hb : k = false → EX X T b ρ1 ρ2 d) : EX X T (.IfExp c a b pos) ρ ρ2 d :=
  pe_imp (pe_ifExp hc (pe_if ha) (pe_if hb)) fun σ H Q ⟨B, G, S, q⟩ => ⟨B, G, S, fun G1 H1 g1 S1 => by
    cases k with
    | true => exact ⟨rfl, B, G1, S1, fun v G2 H2 g2 S2 r2 => q v G2 H2 (g1.trans g2) S2 r2⟩
    | false => exact ⟨rfl, B, G1, S1, fun v G2 H2 g2 S2 r2 => q v G2 H2 (g1.trans g2) S2 r2⟩⟩
end
/-! ### arguments, displays -/
section
variable {X : Cx} {T : Tb} {ρ ρ1 ρ2 : En} {pos : Pos} {e : Expr} {es : List Expr} {d : D} {ds : List D}
theorem ea_nil : EA X T [] ρ ρ [] := pa_imp pa_nil fun σ H Q ⟨B, G, S, q⟩ => q [] G H (Same.refl _) S .nil
theorem ea_cons (h : EX X T e ρ ρ1 d) (h' : EA X T es ρ1 ρ2 ds) (hs : starEach (e :: es) X.env = (false, eval e X.env) :: starEach es X.env := by rfl) : EA X T (e :: es) ρ ρ2 (d :: ds) :=
  pa_imp (pa_cons h h' hs) fun σ H Q ⟨B, G, S, q⟩ => ⟨B, G, S, fun v G1 H1 g1 S1 r1 => ⟨B, G1, S1, fun vs G2 H2 g2 S2 r2 => q _ G2 H2 (g1.trans g2) S2 (.cons (r1.mono g2) r2)⟩⟩
theorem ex_tup {k : Nat} (h : EA X T es ρ ρ1 ds) (hl : ds.length ≤ sizeLine := by first | decide | exact Nat.le_of_ble_eq_true rfl) : EX X T (.Tuple es k pos) ρ ρ1 (.tup ds) :=
  pe_imp (pe_tup h) fun σ H Q ⟨B, G, S, q⟩ => ⟨B, G, S, fun vs G1 H1 g1 S1 r1 => ⟨by rw [r1.length]; exact hl, fun p hp => by
    have S2 := S1.new (o := .tup vs) hp
    refine q _ _ _ (g1.trans ?_) S2 (.tup upd_same (r1.mono ?_))
    all_goals exact (Grow.new S1.s hp).g⟩⟩
theorem en_lst (h : EA X T es ρ ρ1 ds) (hl : ds.length ≤ sizeLine := by first | decide | exact Nat.le_of_ble_eq_true rfl) : EN X T (.List es pos) ρ ρ1 ds :=
  pe_imp (pe_lst h) fun σ H Q ⟨B, G, S, q⟩ => ⟨B, G, S, fun vs G1 H1 g1 S1 r1 => ⟨by rw [r1.length]; exact hl, fun p hp => by
    have S2 := S1.grow (.aside (o := .lst vs) S1.s hp)
    have gp : G1 p = none := by
      cases z : G1 p with
      | none => rfl
      | some u => rw [S1.s p u z] at hp; cases hp
    have bp : B.H p = none := by
      cases z : B.H p with
      | none => rfl
      | some u => rw [S1.h p u z] at hp; cases hp
    refine q p _ _ g1 S2 ⟨⟨vs, upd_same, r1⟩, gp, bp, fun ho => ?_⟩
    obtain ⟨c, hc⟩ := mem_owns.mp ho
    obtain ⟨i, hi⟩ := List.getElem?_of_mem hc
    exact (S1.own hi).2.2.2.1.1 hp⟩⟩
theorem ex_lst (h : EA X T es ρ ρ1 ds) (hl : ds.length ≤ sizeLine := by first | decide | exact Nat.le_of_ble_eq_true rfl) : EX X T (.List es pos) ρ ρ1 (.lst ds) := (en_lst h hl).ex
end
/-! ### calls of built-ins -/
section
variable {X : Cx} {T : Tb} {ρ ρ1 : En} {p pos : Pos} {e : Expr} {es : List Expr} {d : D} {ds : List D} {x : Str} {r : List V → Hp → VK → Prop}
theorem tCB_imp (hr : RC X.K r ds d) {σ : L2.St} {H : Hp} {Q : VK} (h : tEX X.K T ρ ρ1 d σ H Q) : tCB r (tEA X.K T ρ ρ1 ds) σ H Q := by
  obtain ⟨B, G, S, q⟩ := h
  exact ⟨B, G, S, fun vs G1 H1 g1 S1 r1 => hr G1 H1 vs Q r1 S1.s fun v G2 H2 gr r2 => q v G2 H2 (g1.trans gr.g) (S1.grow gr) r2⟩
theorem ex_callB {id : String} (hc : CallR X (.builtin id) r) (hm : X.mg x = none) (hv : bootBuiltins x = some (.builtin id)) (ha : EA X T (e :: es) ρ ρ1 ds) (hr : RC X.K r ds d) (hg : Gl X x := by rfl) (hn : x ≠ "__name__" := by decide) (hdb : (x == ("__debug__" : Str)) = false := by decide)
    (he : starEach (e :: es) X.env = (false, eval e X.env) :: starEach es X.env := by rfl) (hpl : (backTo pos (starEach es X.env)).any (·.1) = false := by rfl) : EX X T (.Call (.Name x p) (e :: es) [] pos) ρ ρ1 d :=
  pe_imp (pe_callB hc hg hm hv ha hn hdb he hpl) fun _ _ _ h => tCB_imp hr h
theorem ex_callTy {Ty : String} (hc : CallR X (.type Ty) r) (hm : X.mg x = none) (hv : bootBuiltins x = some (.type Ty)) (ha : EA X T (e :: es) ρ ρ1 ds) (hr : RC X.K r ds d) (hg : Gl X x := by rfl) (hn : x ≠ "__name__" := by decide) (hdb : (x == ("__debug__" : Str)) = false := by decide)
    (he : starEach (e :: es) X.env = (false, eval e X.env) :: starEach es X.env := by rfl) (hpl : (backTo pos (starEach es X.env)).any (·.1) = false := by rfl) : EX X T (.Call (.Name x p) (e :: es) [] pos) ρ ρ1 d :=
  pe_imp (pe_callTy hc hg hm hv ha hn hdb he hpl) fun _ _ _ h => tCB_imp hr h
end
/-! ### statements -/
section
variable {X : Cx} {T : Tb} {W : WX} {ρ ρ1 : En} {pos : Pos} {st : Stmt} {rest : List Stmt} {P P1 : Out → Prop} {e : Expr} {d : D}
theorem Post.mono {K : PySem.W.Frag} {T : Tb} {B : Bs} {G G' : Hp} {E : Ends} (p : Post K T W B G P E) (g : Same G G') : Post K T W B G' P E :=
  ⟨fun ρ' σ' G' H' h g' S => p.nx ρ' σ' G' H' h (g.trans g') S, fun ρ' r v σ' G' H' h g' S R => p.rt ρ' r v σ' G' H' h (g.trans g') S R, fun ρ' σ' G' H' h g' S => p.bk ρ' σ' G' H' h (g.trans g') S, fun ρ' σ' G' H' h g' S => p.ct ρ' σ' G' H' h (g.trans g') S, fun ρ' C σ' G' H' h g' S => p.ex ρ' C σ' G' H' h (g.trans g') S⟩
theorem Post.imp {K : PySem.W.Frag} {T : Tb} {B : Bs} {G : Hp} {E : Ends} (p : Post K T W B G P E) (h : ∀ o, P1 o → P o) : Post K T W B G P1 E :=
  ⟨fun ρ' σ' G' H' q => p.nx ρ' σ' G' H' (h _ q), fun ρ' r v σ' G' H' q => p.rt ρ' r v σ' G' H' (h _ q), fun ρ' σ' G' H' q => p.bk ρ' σ' G' H' (h _ q), fun ρ' σ' G' H' q => p.ct ρ' σ' G' H' (h _ q), fun ρ' C σ' G' H' q => p.ex ρ' C σ' G' H' (h _ q)⟩
theorem ES.imp (h : ES X T W st ρ P1) (i : ∀ o, P1 o → P o) : ES X T W st ρ P := ps_imp h fun D σ H ⟨B, G, S, p⟩ => ⟨B, G, S, p.imp i⟩
theorem ESs.imp {sts : List Stmt} (h : ESs X T W sts ρ P1) (i : ∀ o, P1 o → P o) : ESs X T W sts ρ P := pss_imp h fun D σ H ⟨B, G, S, p⟩ => ⟨B, G, S, p.imp i⟩
theorem ess_nil (h : P (.nx ρ)) : ESs X T W [] ρ P := pss_imp pss_nil fun D σ H ⟨B, G, S, p⟩ => p.nx ρ σ G H h (Same.refl _) S
/-- behind a statement: what comes next, or the end -/
def Then (X : Cx) (T : Tb) (W : WX) (rest : List Stmt) (P : Out → Prop) : Out → Prop
  | .nx ρ => ESs X T W rest ρ P
  | o => P o
theorem ess_cons (h : ES X T W st ρ (Then X T W rest P)) : ESs X T W (st :: rest) ρ P :=
  pss_imp (pss_cons h (u := fun D σ H => ∃ ρ', ESs X T W rest ρ' P ∧ tES X.K T W ρ' P D σ H) ⟨fun pins s σ H D I ⟨ρ', h1, h2⟩ => h1.run pins s σ H D I h2⟩)
    fun D σ H ⟨B, G, S, p⟩ => ⟨B, G, S, ⟨fun ρ' σ' G' H' q g S' => ⟨ρ', q, B, G', S', p.mono g⟩, p.rt, p.bk, p.ct, p.ex⟩⟩
theorem es_ret (h : EX X T e ρ ρ1 d) (hp : P (.rt ρ1 (.dat d))) : ES X T W (.Return (some e) pos) ρ P :=
  ps_imp (ps_ret h) fun D σ H ⟨B, G, S, p⟩ => ⟨B, G, S, fun v G1 H1 g1 S1 r1 => p.rt ρ1 (.dat d) v σ G1 H1 hp g1 S1 r1⟩
theorem es_retL {xs : List D} (h : EN X T e ρ ρ1 xs) (hp : P (.rt ρ1 (.new xs))) : ES X T W (.Return (some e) pos) ρ P :=
  ps_imp (ps_ret h) fun D σ H ⟨B, G, S, p⟩ => ⟨B, G, S, fun q G1 H1 g1 S1 N => p.rt ρ1 (.new xs) _ σ G1 H1 hp g1 S1 ⟨q, rfl, N⟩⟩
theorem es_if {c : Expr} {a b : List Stmt} {k : Bool} (hc : ET X T c ρ ρ1 k) (ha : k = true → ESs X T W a ρ1 P) (hb : k = false → ESs X T W b ρ1 P) : ES X T W (.If c a b pos) ρ P :=
  ps_imp (ps_if hc (pss_if ha) (pss_if hb)) fun D σ H ⟨B, G, S, p⟩ => ⟨B, G, S, fun G1 H1 g1 S1 => by
    cases k with
    | true => exact ⟨rfl, B, G1, S1, p.mono g1⟩
    | false => exact ⟨rfl, B, G1, S1, p.mono g1⟩⟩
/-- name = value -/
theorem es_set (i : Nat) {x : Str} {pos' : Pos} (h : EX X T e ρ ρ1 d) (hp : P (.nx (ρ1.set i (.dat d)))) (hN : X.N.Nodup) (hi : X.N[i]? = some x := by rfl) (hx : Loc X.env.scope x := by first | exact .inl rfl | exact .inr rfl) (hs : swapsWith e (some (.Name x pos')) pos.line X.env = pure false := by rfl)
    (hf : X.fn x = true ∨ X.env.scope.names.lookup x = some .local := by first | exact .inl rfl | exact .inr rfl) : ES X T W (.Assign [.Name x pos'] e pos) ρ P :=
  ps_imp (ps_set hN hi hx h hs hf) fun D σ H ⟨B, G, S, p⟩ => ⟨B, G, S, fun v G1 H1 g1 S1 r1 => p.nx _ _ G1 H1 hp g1 (S1.setDat i r1)⟩
/-- name = a new list -/
theorem es_setL (i : Nat) {x : Str} {pos' : Pos} {xs : List D} (h : EN X T e ρ ρ1 xs) (hp : ∀ q, q ∉ owns ρ1 → P (.nx (ρ1.set i (.own q (.lst xs))))) (hN : X.N.Nodup) (hi : X.N[i]? = some x := by rfl) (hx : Loc X.env.scope x := by first | exact .inl rfl | exact .inr rfl) (hs : swapsWith e (some (.Name x pos')) pos.line X.env = pure false := by rfl)
    (hf : X.fn x = true ∨ X.env.scope.names.lookup x = some .local := by first | exact .inl rfl | exact .inr rfl) : ES X T W (.Assign [.Name x pos'] e pos) ρ P :=
  ps_imp (ps_set hN hi hx h hs hf) fun D σ H ⟨B, G, S, p⟩ => ⟨B, G, S, fun q G1 H1 g1 S1 N => p.nx _ _ G1 H1 (hp q N.o) g1 (S1.setOwn i N.g N.b (mb_lst N.at_.choose_spec.1) N.at_ N.o)⟩
/-- an expression whose value is dropped -/
theorem es_expr (h : EX X T e ρ ρ1 d) (hp : P (.nx ρ1)) (hs : swapsWith e none pos.line X.env = pure false := by rfl) : ES X T W (.Expr e pos) ρ P :=
  ps_imp (ps_expr h hs) fun D σ H ⟨B, G, S, p⟩ => ⟨B, G, S, fun v G1 H1 g1 S1 _ => p.nx _ _ G1 H1 hp g1 S1⟩
theorem es_pass (hp : P (.nx ρ)) : ES X T W (.Pass pos) ρ P := ps_imp ps_pass fun D σ H ⟨B, G, S, p⟩ => p.nx _ _ G H hp (Same.refl _) S
theorem es_break (hp : P (.bk ρ)) : ES X T W (.Break pos) ρ P := ps_imp ps_break fun D σ H ⟨B, G, S, p⟩ => p.bk _ _ G H hp (Same.refl _) S
theorem es_continue (hp : P (.ct ρ)) : ES X T W (.Continue pos) ρ P := ps_imp ps_continue fun D σ H ⟨B, G, S, p⟩ => p.ct _ _ G H hp (Same.refl _) S
/-- raised out of -/
theorem es_exprR {C : Addr} (h : ER X T W e ρ C) (hp : P (.ex ρ C)) (hs : swapsWith e none pos.line X.env = pure false := by rfl) : ES X T W (.Expr e pos) ρ P :=
  ps_imp (ps_expr h hs) fun D σ H ⟨B, G, S, p⟩ => ⟨B, G, S, fun G1 H1 g1 S1 => p.ex _ _ _ G1 H1 hp g1 S1⟩
theorem es_retR {C : Addr} (h : ER X T W e ρ C) (hp : P (.ex ρ C)) : ES X T W (.Return (some e) pos) ρ P :=
  ps_imp (ps_ret h) fun D σ H ⟨B, G, S, p⟩ => ⟨B, G, S, fun G1 H1 g1 S1 => p.ex _ _ _ G1 H1 hp g1 S1⟩
theorem es_setR (i : Nat) {x : Str} {pos' : Pos} {C : Addr} (h : ER X T W e ρ C) (hp : P (.ex ρ C)) (hN : X.N.Nodup) (hi : X.N[i]? = some x := by rfl) (hx : Loc X.env.scope x := by first | exact .inl rfl | exact .inr rfl) (hs : swapsWith e (some (.Name x pos')) pos.line X.env = pure false := by rfl)
    (hf : X.fn x = true ∨ X.env.scope.names.lookup x = some .local := by first | exact .inl rfl | exact .inr rfl) : ES X T W (.Assign [.Name x pos'] e pos) ρ P :=
  ps_imp (ps_set hN hi hx h hs hf) fun D σ H ⟨B, G, S, p⟩ => ⟨B, G, S, fun G1 H1 g1 S1 => p.ex _ _ _ G1 H1 hp g1 S1⟩
end
end DL
set_option Elab.async false
set_option linter.all false
set_option maxRecDepth 100000
set_option maxHeartbeats 2000000
namespace DL
open PySem PySem.Spec PyProof.Rows L2
/-! ### targets -/
/-- the slots ks alone are touched -/
def tGX' (K : PySem.W.Frag) (T : Tb) (ρ : En) (d : D) (ρ' : En) (ks : List Nat) : TG := fun v σ H Q => ∃ B G, Sta K T B G ρ σ H ∧ Rp K G v d ∧ ∀ σ' G' H', Same G G' → Sta K T B G' ρ' σ' H' → (∀ vs : List Nat, (∀ k ∈ ks, k ∈ vs) → wipe σ' vs = wipe σ vs) → Q σ' H'
def GX (X : Cx) (T : Tb) (tg : Expr) (ρ : En) (d : D) (ρ' : En) (ks : List Nat) : Prop := PG X tg (tGX' X.K T ρ d ρ' ks)
def tGXs (K : PySem.W.Frag) (T : Tb) (ρ : En) (ds : List D) (ρ' : En) (ks : List Nat) : TGs := fun vs σ H Q => ∃ B G, Sta K T B G ρ σ H ∧ RpA K G vs ds ∧ ∀ σ' G' H', Same G G' → Sta K T B G' ρ' σ' H' → (∀ vs : List Nat, (∀ k ∈ ks, k ∈ vs) → wipe σ' vs = wipe σ vs) → Q σ' H'
def GXs (X : Cx) (T : Tb) (ts : List Expr) (ρ : En) (ds : List D) (ρ' : En) (ks : List Nat) : Prop := PGs X ts (tGXs X.K T ρ ds ρ' ks)
theorem wipe_get {σ : L2.St} {i : Nat} : ∀ {vs : List Nat}, i ∉ vs → (wipe σ vs)[i]? = σ[i]?
  | [], _ => rfl
  | v :: vs, h => by
    unfold wipe
    rw [List.getElem?_set_ne fun e => h (by rw [e]; exact List.mem_cons_self)]
    exact wipe_get fun z => h (List.mem_cons_of_mem _ z)
theorem wipe_in {σ : L2.St} {i : Nat} (hi : i < σ.length) : ∀ {vs : List Nat}, i ∈ vs → (wipe σ vs)[i]? = some none
  | v :: vs, h => by
    unfold wipe
    by_cases e : v = i
    · subst e
      rw [List.getElem?_set_self (by rw [wipe_length]; exact hi)]
    · rw [List.getElem?_set_ne e]
      exact wipe_in hi ((List.mem_cons.mp h).resolve_left fun z => e z.symm)
theorem wipe_ext {σ σ' : L2.St} {vs : List Nat} (hl : σ'.length = σ.length) (h : ∀ i, i ∉ vs → σ'[i]? = σ[i]?) : wipe σ' vs = wipe σ vs := by
  apply List.ext_getElem?
  intro i
  by_cases hi : i ∈ vs
  · by_cases hz : i < σ.length
    · rw [wipe_in hz hi, wipe_in (by omega) hi]
    · rw [List.getElem?_eq_none (by rw [wipe_length]; omega), List.getElem?_eq_none (by rw [wipe_length]; omega)]
  · rw [wipe_get hi, wipe_get hi, h i hi]
theorem wipe_out {σ σ' : L2.St} {vs : List Nat} (h : wipe σ' vs = wipe σ vs) : σ'.length = σ.length ∧ ∀ i, i ∉ vs → σ'[i]? = σ[i]? := by
  refine ⟨?_, fun i hi => ?_⟩
  · have := congrArg List.length h
    rwa [wipe_length, wipe_length] at this
  · rw [← wipe_get (σ := σ') hi, ← wipe_get (σ := σ) hi, h]
theorem wipe_set {σ : L2.St} {i : Nat} {x : Option V} {vs : List Nat} (h : i ∈ vs) : wipe (σ.set i x) vs = wipe σ vs :=
  wipe_ext (by rw [List.length_set]) fun j hj => List.getElem?_set_ne fun e => hj (by rw [← e]; exact h)
theorem wipe_wipe {σ : L2.St} {vs : List Nat} : wipe (wipe σ vs) vs = wipe σ vs := wipe_ext (wipe_length _ _) fun _ h => wipe_get h
section
variable {X : Cx} {T : Tb} {ρ ρ1 ρ2 : En} {pos : Pos} {d : D} {ds : List D} {ks kt : List Nat}
theorem gx_name (i : Nat) {x : Str} (hN : X.N.Nodup) (hi : X.N[i]? = some x := by rfl) (hx : Loc X.env.scope x := by first | exact .inl rfl | exact .inr rfl) (hf : X.fn x = true ∨ X.env.scope.names.lookup x = some .local := by first | exact .inl rfl | exact .inr rfl) : GX X T (.Name x pos) ρ d (ρ.set i (.dat d)) [i] :=
  pg_imp (pg_name hN hi hx hf) fun v σ H Q ⟨B, G, S, r, q⟩ => q _ G H (Same.refl _) (S.setDat i r) fun vs h => wipe_set (h i List.mem_cons_self)
theorem gxs_nil : GXs X T [] ρ [] ρ [] := ⟨fun pins s σ H vs us Q I r ⟨B, G, S, ra, q⟩ => pgs_nil.run pins s σ H vs us Q I r (by cases ra; exact ⟨rfl, q σ G H (Same.refl _) S fun _ _ => rfl⟩)⟩
theorem gxs_cons {e : Expr} {es : List Expr} (h : GX X T e ρ d ρ1 ks) (h' : GXs X T es ρ1 ds ρ2 kt) (hs : (assignEach (e :: es) X.env).map (·.2) = assign e X.env :: (assignEach es X.env).map (·.2) := by rfl) : GXs X T (e :: es) ρ (d :: ds) ρ2 (ks ++ kt) :=
  ⟨fun pins s σ H vs us Q I r ⟨B, G, S, ra, q⟩ => (pgs_cons h h' hs).run pins s σ H vs us Q I r (by
    cases ra with
    | cons r1 r2 =>
      refine ⟨_, _, rfl, B, G, S, r1, fun σ1 G1 H1 g1 S1 w1 => ⟨B, G1, S1, r2.mono g1, fun σ2 G2 H2 g2 S2 w2 => q σ2 G2 H2 (g1.trans g2) S2 fun vs hv => ?_⟩⟩
      rw [w2 vs fun k hk => hv k (List.mem_append_right _ hk), w1 vs fun k hk => hv k (List.mem_append_left _ hk)])⟩
theorem gx_tup {es : List Expr} {k n : Nat} (hc : X.calm = true) (h : GXs X T es ρ ds ρ1 ks) (hl : ds.length = n := by rfl) (hn : (assignEach es X.env).length = n := by rfl) (hst : (assignEach es X.env).findIdx? (·.1) = none := by rfl) : GX X T (.Tuple es k pos) ρ (.tup ds) ρ1 ks :=
  pg_imp (pg_tup hc h hn hst) fun v σ H Q ⟨B, G, S, r, q⟩ => by
    obtain ⟨a, xs, rfl, ht, ra⟩ := r.tup_inv
    exact ⟨a, xs, rfl, sqT_mono S.s ht, by rw [ra.length]; exact hl, B, G, S, ra, q⟩
/-- target = value -/
theorem es_asg {W : WX} {P : Out → Prop} {tg e : Expr} (h : EX X T e ρ ρ1 d) (hg : GX X T tg ρ1 d ρ2 ks) (hp : P (.nx ρ2)) (hs : swapsWithSole [tg] e pos.line X.env = pure false := by rfl) (hw : swappedStores [tg] e X.env = pure none := by rfl)
    (h1 : (assignEach [tg] X.env).map (·.2) = [assign tg X.env] := by rfl) : ES X T W (.Assign [tg] e pos) ρ P :=
  ps_imp (ps_asg h hg hs hw h1) fun D σ H ⟨B, G, S, p⟩ => ⟨B, G, S, fun v G1 H1 g1 S1 r1 => ⟨B, G1, S1, r1, fun σ2 G2 H2 g2 S2 _ => p.nx ρ2 σ2 G2 H2 hp (g1.trans g2) S2⟩⟩
/-- a, b = x, y, both sides written -/
theorem es_par {W : WX} {P : Out → Prop} (i j : Nat) {x y : Str} {a b : Expr} {da db : D} {px py pt : Pos} {kt k2 : Nat} {pt2 : Pos} (hc : X.calm = true) (ha : EA X T [a, b] ρ ρ1 [da, db]) (hp : P (.nx ((ρ1.set i (.dat da)).set j (.dat db)))) (hN : X.N.Nodup) (hi : X.N[i]? = some x := by rfl) (hj : X.N[j]? = some y := by rfl) (hij : i ≠ j := by decide)
    (hx : X.env.scope.names.lookup x = some .local := by rfl) (hy : X.env.scope.names.lookup y = some .local := by rfl)
    (hw : swappedStores [.Tuple [.Name x px, .Name y py] kt pt] (.Tuple [a, b] k2 pt2) X.env = pure (some [x, y]) := by rfl)
    (hs : swapsWithSole [.Tuple [.Name x px, .Name y py] kt pt] (.Tuple [a, b] k2 pt2) pos.line X.env = pure false := by rfl) :
    ES X T W (.Assign [.Tuple [.Name x px, .Name y py] kt pt] (.Tuple [a, b] k2 pt2) pos) ρ P :=
  ps_imp (ps_par hc hN hi hj hij hx hy ha hw hs) fun D σ H ⟨B, G, S, p⟩ => ⟨B, G, S, fun vs G1 H1 g1 S1 r1 => by
    cases r1 with
    | cons r1 r2 => cases r2 with
      | cons r2 r3 =>
        cases r3
        exact ⟨_, _, rfl, p.nx _ _ G1 H1 hp g1 ((S1.setDat i r1).setDat j r2)⟩⟩
end
/-! ### what is walked -/
structure ItD (K : PySem.W.Frag) (G : Hp) (J : It) (ds : List D) : Prop where
  go : ∀ (i : Nat) (H G1 : Hp) (d : D), ds[i]? = some d → Same G G1 → Same G1 H → J.go i H ∧ ∀ x H', J.yld i H x H' → ∃ G2, Grow G1 H G2 H' ∧ Rp K G2 x d
  stop : ∀ (H G1 : Hp), Same G G1 → Same G1 H → J.stop ds.length H
def tEI (K : PySem.W.Frag) (T : Tb) (ρ ρ' : En) (ds : List D) : TI := fun σ H R => ∃ B G, Sta K T B G ρ σ H ∧ ∀ J G' H', Same G G' → Sta K T B G' ρ' σ H' → ItD K G' J ds → R J H'
def EI (X : Cx) (T : Tb) (tg iter : Expr) (ρ ρ' : En) (ds : List D) : Prop := PI X tg iter (tEI X.K T ρ ρ' ds)
theorem itD_list {K : PySem.W.Frag} {G : Hp} {a : Addr} {vs : List V} {ds : List D} (h : G a = some (.lst vs)) (r : RpA K G vs ds) : ItD K G (Itl K a) ds where
  go := fun i H G1 d hd g s => by
    obtain ⟨v, hv, rv⟩ := r.get hd
    have hl : SqL K H a vs := .inl (.inl (s _ _ (g _ _ h)))
    refine ⟨⟨vs, v, hl, hv⟩, fun x H' y => ?_⟩
    obtain ⟨rfl, y⟩ := y
    have e : v = x := Option.some.inj (hv.symm.trans (y vs hl))
    subst e
    exact ⟨G1, .refl s, rv.mono g⟩
  stop := fun H G1 g s => ⟨vs, .inl (.inl (s _ _ (g _ _ h))), by rw [r.length]; exact Nat.le_refl _⟩
theorem itD_tup {K : PySem.W.Frag} {G : Hp} {a : Addr} {vs : List V} {ds : List D} (h : SqT K G a vs) (r : RpA K G vs ds) : ItD K G (Itt K a) ds where
  go := fun i H G1 d hd g s => by
    obtain ⟨v, hv, rv⟩ := r.get hd
    have hl : SqT K H a vs := sqT_mono (g.trans s) h
    refine ⟨⟨vs, v, hl, hv⟩, fun x H' y => ?_⟩
    obtain ⟨rfl, y⟩ := y
    have e : v = x := Option.some.inj (hv.symm.trans (y vs hl))
    subst e
    exact ⟨G1, .refl s, rv.mono g⟩
  stop := fun H G1 g s => ⟨vs, sqT_mono (g.trans s) h, by rw [r.length]; exact Nat.le_refl _⟩
theorem itD_range {K : PySem.W.Frag} {G : Hp} {lo : Int} {n : Nat} : ItD K G (Itr lo n) ((List.range n).map fun i => D.int (lo + (i : Nat))) where
  go := fun i H G1 d hd g s => by
    have hi : i < n := by
      have := (List.getElem?_eq_some_iff.mp hd).1
      simpa using this
    have ed : d = D.int (lo + (i : Nat)) := by
      rw [List.getElem?_map, List.getElem?_range hi] at hd
      exact (Option.some.inj hd).symm
    refine ⟨hi, fun x H' y => ?_⟩
    obtain ⟨rfl, rfl⟩ := y
    exact ⟨G1, .refl s, ed ▸ .int _⟩
  stop := fun H G1 g s => by
    show n ≤ _
    simp
section
variable {X : Cx} {T : Tb} {ρ ρ1 ρ2 : En} {pos p : Pos} {tg e : Expr} {ds : List D}
theorem ei_list (h : EX X T e ρ ρ1 (.lst ds)) : EI X T tg e ρ ρ1 ds :=
  pi_imp (pi_list h) fun σ H R ⟨B, G, S, q⟩ => ⟨B, G, S, fun v G1 H1 g1 S1 r1 => by
    obtain ⟨a, xs, rfl, h1, h2⟩ := r1.lst_inv
    exact ⟨a, rfl, ⟨xs, .inl (.inl (S1.s _ _ h1))⟩, q _ G1 H1 g1 S1 (itD_list h1 h2)⟩⟩
theorem ei_tup (h : EX X T e ρ ρ1 (.tup ds)) : EI X T tg e ρ ρ1 ds :=
  pi_imp (pi_tup h) fun σ H R ⟨B, G, S, q⟩ => ⟨B, G, S, fun v G1 H1 g1 S1 r1 => by
    obtain ⟨a, xs, rfl, h1, h2⟩ := r1.tup_inv
    exact ⟨a, rfl, ⟨xs, sqT_mono S1.s h1⟩, q _ G1 H1 g1 S1 (itD_tup h1 h2)⟩⟩
theorem ei_range1 {a : Expr} {j : Int} (hm : X.mg "range" = none) (ha : EA X T [a] ρ ρ1 [.int j]) (hj : -(2 ^ 62) ≤ j ∧ j < 2 ^ 62) (hg : Gl X "range" := by rfl) (hs : starEach [a] X.env = [(false, eval a X.env)] := by rfl) : EI X T tg (.Call (.Name "range" p) [a] [] pos) ρ ρ1 ((List.range j.toNat).map fun i => D.int (0 + (i : Nat))) :=
  pi_imp (pi_range1 hg hm ha hs) fun σ H R ⟨B, G, S, q⟩ => ⟨B, G, S, fun vs G1 H1 g1 S1 r1 => by
    have e : vs = [V.int j] := RpA.ints (ns := [j]) r1
    exact ⟨j, e, hj.1, hj.2, q _ G1 H1 g1 S1 itD_range⟩⟩
theorem ei_range2 {a b : Expr} {i j : Int} (hm : X.mg "range" = none) (ha : EA X T [a, b] ρ ρ1 [.int i, .int j]) (hj : -(2 ^ 62) ≤ i ∧ i < 2 ^ 62 ∧ -(2 ^ 62) ≤ j ∧ j < 2 ^ 62) (hg : Gl X "range" := by rfl) (hs : starEach [a, b] X.env = [(false, eval a X.env), (false, eval b X.env)] := by rfl)
    (hs2 : starEach [b] X.env = [(false, eval b X.env)] := by rfl) : EI X T tg (.Call (.Name "range" p) [a, b] [] pos) ρ ρ1 ((List.range (j - i).toNat).map fun k => D.int (i + (k : Nat))) :=
  pi_imp (pi_range2 hg hm ha hs hs2) fun σ H R ⟨B, G, S, q⟩ => ⟨B, G, S, fun vs G1 H1 g1 S1 r1 => by
    have e : vs = [V.int i, V.int j] := RpA.ints (ns := [i, j]) r1
    exact ⟨i, j, e, hj, q _ G1 H1 g1 S1 itD_range⟩⟩
end
/-! ### loops -/
def Loop (P : Out → Prop) (I : En → Prop) : Out → Prop
  | .nx ρ => I ρ
  | .ct ρ => I ρ
  | .bk ρ => P (.nx ρ)
  | .rt ρ r => P (.rt ρ r)
  | .ex ρ C => P (.ex ρ C)
section
variable {X : Cx} {T : Tb} {W : WX} {ρ ρ1 ρ2 : En} {pos : Pos} {tg iter : Expr} {ds : List D} {body : List Stmt} {P : Out → Prop}
theorem es_for (I : Nat → En → Prop) (hp : PassesOwn (model X.prog X.w) X.A X.env X.xe) (hc : X.calm = true) (hi : EI X T tg iter ρ ρ1 ds) (h0 : I 0 ρ1)
    (hs : ∀ (i : Nat) (d : D) (ρ' : En), ds[i]? = some d → I i ρ' → ∃ ρ2 ks, GX X T tg ρ' d ρ2 ks ∧ ESs X T W body ρ2 (Loop P (I (i + 1)))) (hd : ∀ ρ', I ds.length ρ' → P (.nx ρ'))
    (hf : ∀ x, foldedSetIterable iter X.env x = pure x := by intro _; rfl) : ES X T W (.For tg iter body [] pos) ρ P :=
  ps_imp (ps_for (g := fun v σ H Q => ∃ ρ' d ρ2 ks, GX X T tg ρ' d ρ2 ks ∧ tGX' X.K T ρ' d ρ2 ks v σ H Q) (tb := fun D σ H => ∃ ρ2 P', ESs X T W body ρ2 P' ∧ tES X.K T W ρ2 P' D σ H) hp hc hi
      ⟨fun pins s σ H v u Q I' r ⟨ρ', d, ρ2, ks, h1, h2⟩ => h1.run pins s σ H v u Q I' r h2⟩ ⟨fun pins s σ H D I' ⟨ρ2, P', h1, h2⟩ => h1.run pins s σ H D I' h2⟩ hf) fun D σ H ⟨B, G, S, p⟩ => by
    refine ⟨B, G, S, fun J G1 H1 g1 S1 it => ⟨fun i m σ H => m + i = ds.length ∧ ∃ ρ' G', Same G1 G' ∧ Sta X.K T B G' ρ' σ H ∧ I i ρ', ⟨ds.length, rfl, ρ1, G1, Same.refl _, S1, h0⟩, fun i m σ2 H2 hW => ?_⟩⟩
    obtain ⟨em, ρ', G', g', S', hI⟩ := hW
    by_cases hi' : i < ds.length
    · obtain ⟨d, hd'⟩ : ∃ d, ds[i]? = some d := ⟨_, List.getElem?_eq_getElem hi'⟩
      obtain ⟨go, yl⟩ := it.go i H2 G' d hd' g' S'.s
      refine .inr ⟨go, fun σ3 H3 => ∃ ρ' G', Same G1 G' ∧ Sta X.K T B G' ρ' σ3 H3 ∧ I (i + 1) ρ', fun σ3 H3 ⟨ρ3, G3, g3, S3, I3⟩ => ⟨m - 1, by omega, by omega, ρ3, G3, g3, S3, I3⟩, fun x H' y => ?_⟩
      obtain ⟨G2, gr, rx⟩ := yl x H' y
      obtain ⟨ρ2, ks, hg, hb⟩ := hs i d ρ' hd' hI
      refine ⟨ρ', d, ρ2, ks, hg, B, G2, S'.grow gr, rx, fun σ3 G3 H3 g3 S3 _ => ⟨ρ2, _, hb, B, G3, S3, ?_⟩⟩
      have gg : Same G G3 := g1.trans (g'.trans (gr.g.trans g3))
      have gg1 : Same G1 G3 := g'.trans (gr.g.trans g3)
      exact ⟨fun ρ4 σ4 G4 H4 q g4 S4 => ⟨ρ4, G4, gg1.trans g4, S4, q⟩, fun ρ4 r v σ4 G4 H4 q g4 S4 R => p.rt ρ4 r v σ4 G4 H4 q (gg.trans g4) S4 R, fun ρ4 σ4 G4 H4 q g4 S4 => p.nx ρ4 σ4 G4 H4 q (gg.trans g4) S4,
        fun ρ4 σ4 G4 H4 q g4 S4 => ⟨ρ4, G4, gg1.trans g4, S4, q⟩, fun ρ4 C σ4 G4 H4 q g4 S4 => p.ex ρ4 C σ4 G4 H4 q (gg.trans g4) S4⟩
    · have ei : i = ds.length := by omega
      subst ei
      exact .inl ⟨it.stop H2 G' g' S'.s, p.nx ρ' σ2 G' H2 (hd ρ' hI) (g1.trans g') S'⟩
theorem es_while {c : Expr} (I : Nat → En → Prop) (m0 : Nat) (hp : PassesOwn (model X.prog X.w) X.A X.env X.xe) (h0 : I m0 ρ)
    (hs : ∀ (m : Nat) (ρ' : En), I m ρ' → ∃ ρ2 k, ET X T c ρ' ρ2 k ∧ (k = true → ESs X T W body ρ2 (Loop P fun ρ3 => ∃ m', m' < m ∧ I m' ρ3)) ∧ (k = false → P (.nx ρ2))) : ES X T W (.While c body [] pos) ρ P :=
  ps_imp (ps_while (tc := fun σ H Q => ∃ ρ' ρ2 k, ET X T c ρ' ρ2 k ∧ tET X.K T ρ' ρ2 k σ H Q) (tb := fun D σ H => ∃ ρ2 P', ESs X T W body ρ2 P' ∧ tES X.K T W ρ2 P' D σ H) hp
      ⟨fun pins s σ H Q I' ⟨ρ', ρ2, k, h1, h2⟩ => h1.run pins s σ H Q I' h2⟩ ⟨fun pins s σ H D I' ⟨ρ2, P', h1, h2⟩ => h1.run pins s σ H D I' h2⟩) fun D σ H ⟨B, G, S, p⟩ => by
    refine ⟨fun m σ H => ∃ ρ' G', Same G G' ∧ Sta X.K T B G' ρ' σ H ∧ I m ρ', ⟨m0, ρ, G, Same.refl _, S, h0⟩, fun m σ2 H2 hW => ?_⟩
    obtain ⟨ρ', G', g', S', hI⟩ := hW
    obtain ⟨ρ2, k, ht, h1, h2⟩ := hs m ρ' hI
    refine ⟨ρ', ρ2, k, ht, B, G', S', fun G3 H3 g3 S3 => ?_⟩
    cases k with
    | true =>
      refine ⟨fun σ3 H3 => ∃ m', m' < m ∧ ∃ ρ' G', Same G G' ∧ Sta X.K T B G' ρ' σ3 H3 ∧ I m' ρ', fun σ3 H3 ⟨m', hm, q⟩ => ⟨m', hm, q⟩, ρ2, _, h1 rfl, B, G3, S3, ?_⟩
      have gg : Same G G3 := g'.trans g3
      exact ⟨fun ρ4 σ4 G4 H4 ⟨m', hm, q⟩ g4 S4 => ⟨m', hm, ρ4, G4, gg.trans g4, S4, q⟩, fun ρ4 r v σ4 G4 H4 q g4 S4 R => p.rt ρ4 r v σ4 G4 H4 q (gg.trans g4) S4 R, fun ρ4 σ4 G4 H4 q g4 S4 => p.nx ρ4 σ4 G4 H4 q (gg.trans g4) S4,
        fun ρ4 σ4 G4 H4 ⟨m', hm, q⟩ g4 S4 => ⟨m', hm, ρ4, G4, gg.trans g4, S4, q⟩, fun ρ4 C σ4 G4 H4 q g4 S4 => p.ex ρ4 C σ4 G4 H4 q (gg.trans g4) S4⟩
    | false => exact p.nx ρ2 σ2 G3 H3 (h2 rfl) (g'.trans g3) S3
end
/-! ### an address beside the state: pinned, changed -/
section
variable {K : PySem.W.Frag} {T : Tb} {B : Bs} {G H : Hp} {ρ : En} {σ : L2.St}
/-- the address is bound to stay -/
def Bs.pin (B : Bs) (p : Addr) (o : HO) : Bs := ⟨B.G, upd B.H p o⟩
theorem paired_imp {α β : Type} {F F' : α → β → Prop} : ∀ {l₁ : List α} {l₂ : List β}, Paired F l₁ l₂ → (∀ a b, b ∈ l₂ → F a b → F' a b) → Paired F' l₁ l₂
  | _, _, .nil, _ => .nil
  | _, _, .cons h t, f => .cons (f _ _ List.mem_cons_self h) (paired_imp t fun a b hb => f a b (List.mem_cons_of_mem _ hb))
theorem Sta.pin (S : Sta K T B G ρ σ H) {p : Addr} {vs : List V} (h : H p = some (.lst vs)) (hg : G p = none) (ho : p ∉ owns ρ) : Sta K T (B.pin p (.lst vs)) G ρ σ H where
  g := S.g
  h := fun a o e => by
    by_cases ha : a = p
    · subst ha
      have e' : (upd B.H a (.lst vs)) a = some o := e
      rw [upd_same] at e'
      rw [h]
      exact e'
    · have e' : (upd B.H p (.lst vs)) a = some o := e
      rw [upd_ne ha] at e'
      exact S.h a o e'
  s := S.s
  n := fun a h1 h2 => by
    by_cases ha : a = p
    · rw [ha]
      exact hg
    · have h1' : Mb ((upd B.H p (.lst vs)) a) := h1
      rw [upd_ne ha] at h1'
      exact S.n a h1' h2
  sl := paired_imp S.sl fun o x hx r => by
    cases x with
    | no => trivial
    | dat d => exact r
    | own q c =>
      obtain ⟨e, a1, a2, a3, a4⟩ := r
      have nq : q ≠ p := fun z => ho (z ▸ mem_owns.mpr ⟨c, hx⟩)
      refine ⟨e, a1, ?_, a3, a4⟩
      show (upd B.H p (.lst vs)) q = none
      rw [upd_ne nq]
      exact a2
  nd := S.nd
  tb := S.tb
  tn := fun q hq => ⟨by
    obtain ⟨ps, e, _⟩ := S.tb q hq
    show (upd B.H p (.lst vs)) q.1 = none
    rw [upd_ne fun z => by rw [z, h] at e; cases e]
    exact (S.tn q hq).1, (S.tn q hq).2⟩
theorem Sta.unpin {p : Addr} {vs : List V} (S : Sta K T (B.pin p (.lst vs)) G ρ σ H) (hb : B.H p = none) : Sta K T B G ρ σ H ∧ H p = some (.lst vs) ∧ (B.G p = none → G p = none) ∧ p ∉ owns ρ := by
  have np : ∀ q, (B.pin p (.lst vs)).H q = none → q ≠ p ∧ B.H q = none := fun q h => by
    have h' : (upd B.H p (.lst vs)) q = none := h
    by_cases e : q = p
    · rw [e, upd_same] at h'
      cases h'
    · rw [upd_ne e] at h'
      exact ⟨e, h'⟩
  refine ⟨⟨S.g, fun a u e => ?_, S.s, fun a h1 h2 => ?_, paired_imp S.sl fun u x hx r => ?_, S.nd, S.tb, fun q hq => ⟨(np _ (S.tn q hq).1).2, (S.tn q hq).2⟩⟩, ?_, fun hg => ?_, fun ho => ?_⟩
  · refine S.h a u ?_
    show (upd B.H p (.lst vs)) a = some u
    rw [upd_ne fun z => by rw [z, hb] at e; cases e]
    exact e
  · refine S.n a ?_ h2
    show Mb ((upd B.H p (.lst vs)) a)
    rw [upd_ne fun z => h1.1 (by rw [z]; exact hb)]
    exact h1
  · cases x with
    | no => trivial
    | dat d => exact r
    | own q c =>
      obtain ⟨e, a1, a2, a3, a4⟩ := r
      exact ⟨e, a1, (np q a2).2, a3, a4⟩
  · exact S.h p (.lst vs) (show (upd B.H p (.lst vs)) p = some (.lst vs) from upd_same)
  · exact S.n p (mb_lst (show (upd B.H p (.lst vs)) p = some (.lst vs) from upd_same)) hg
  · obtain ⟨c, hc⟩ := mem_owns.mp ho
    obtain ⟨i, hi⟩ := List.getElem?_of_mem hc
    exact (np p (S.own hi).2.2.1).1 rfl
/-- a list beside the state is written -/
theorem Sta.beside (S : Sta K T B G ρ σ H) {p : Addr} {vs : List V} {o : HO} (h : H p = some (.lst vs)) (hg : G p = none) (hb : B.H p = none) (ho : p ∉ owns ρ) : Sta K T B G ρ σ (upd H p o) where
  g := S.g
  h := fun a u e => by
    rw [upd_ne fun z => by rw [z, hb] at e; cases e]
    exact S.h a u e
  s := fun a u e => by
    rw [upd_ne fun z => by rw [z, hg] at e; cases e]
    exact S.s a u e
  n := S.n
  sl := paired_imp S.sl fun u x hx r => by
    cases x with
    | no => trivial
    | dat d => exact r
    | own q c =>
      obtain ⟨e, a1, a2, a3, a4⟩ := r
      have nq : q ≠ p := fun z => ho (z ▸ mem_owns.mpr ⟨c, hx⟩)
      refine ⟨e, a1, a2, by rw [upd_ne nq]; exact a3, ?_⟩
      cases c with
      | lst xs =>
        obtain ⟨vs', b1, b2⟩ := a4
        exact ⟨vs', by rw [upd_ne nq]; exact b1, b2⟩
      | ho o' => exact ⟨by rw [upd_ne nq]; exact a4.1, a4.2⟩
      | ins C dx fs =>
        obtain ⟨ws, b1, b2⟩ := a4
        exact ⟨ws, by rw [upd_ne nq]; exact b1, b2⟩
  nd := S.nd
  tb := fun q hq => by
    obtain ⟨ps, e1, e2, e3⟩ := S.tb q hq
    refine ⟨ps, ?_, e2, fun pos cv hcv => ?_⟩
    · rw [upd_ne fun z => by rw [z, h] at e1; cases e1]
      exact e1
    · obtain ⟨c, k1, k2⟩ := e3 pos cv hcv
      refine ⟨c, k1, ?_⟩
      rw [upd_ne fun z => by rw [z, h] at k2; cases k2]
      exact k2
  tn := S.tn
/-- a slot's own list is written -/
theorem Sta.write (S : Sta K T B G ρ σ H) {i : Nat} {p : Addr} {xs ys : List D} {vs : List V} (e : ρ[i]? = some (.own p (.lst xs))) (r : RpA K G vs ys) : Sta K T B G (ρ.set i (.own p (.lst ys))) σ (upd H p (.lst vs)) := by
  obtain ⟨e1, a1, a2, a3, ⟨ws, a4, a5⟩⟩ := S.own e
  have hil : i < ρ.length := (List.getElem?_eq_some_iff.mp e).1
  -- without the slot
  have S0 : Sta K T B G (ρ.set i .no) σ H := by
    have := S.setNo i (some (.ref p))
    have es : σ.set i (some (.ref p)) = σ := by
      apply List.ext_getElem?
      intro j
      by_cases hj : i = j
      · subst hj
        rw [e1, List.getElem?_set_self (List.getElem?_eq_some_iff.mp e1).1]
      · rw [List.getElem?_set_ne hj]
    rw [es] at this
    exact this
  have hno : p ∉ owns (ρ.set i .no) := fun z => by
    obtain ⟨c, hc⟩ := mem_owns.mp z
    obtain ⟨j, hj⟩ := List.getElem?_of_mem hc
    have hij : i ≠ j := fun q => by
      subst q
      rw [List.getElem?_set_self hil] at hj
      cases hj
    rw [List.getElem?_set_ne hij] at hj
    exact owns_twice S.nd e hj hij
  have S1 := S0.beside (o := .lst vs) a4 a1 a2 hno
  have S2 := S1.setOwn i (c := .lst ys) a1 a2 (mb_lst upd_same) ⟨vs, upd_same, r⟩ hno
  have es : σ.set i (some (.ref p)) = σ := by
    apply List.ext_getElem?
    intro j
    by_cases hj : i = j
    · subst hj
      rw [e1, List.getElem?_set_self (List.getElem?_eq_some_iff.mp e1).1]
    · rw [List.getElem?_set_ne hj]
  rw [List.set_set, es] at S2
  exact S2
where owns_twice : ∀ {ρ : En} {i j : Nat} {p : Addr} {c c' : Cl}, (owns ρ).Nodup → ρ[i]? = some (.own p c) → ρ[j]? = some (.own p c') → i ≠ j → False
  | [], _, _, _, _, _, _, h, _, _ => by simp at h
  | x :: r, 0, 0, _, _, _, _, _, _, h => h rfl
  | x :: r, 0, j + 1, p, c, c', nd, h1, h2, _ => by
    simp at h1 h2
    subst h1
    exact (List.nodup_cons.mp nd).1 (mem_owns.mpr ⟨c', List.mem_of_getElem? h2⟩)
  | x :: r, i + 1, 0, p, c, c', nd, h1, h2, _ => by
    simp at h1 h2
    subst h2
    exact (List.nodup_cons.mp nd).1 (mem_owns.mpr ⟨c, List.mem_of_getElem? h1⟩)
  | x :: r, i + 1, j + 1, p, c, c', nd, h1, h2, h => by
    have nd' : (owns r).Nodup := by
      cases x with
      | no => exact nd
      | dat d => exact nd
      | own q c0 => exact (List.nodup_cons.mp nd).2
    exact owns_twice nd' (by simpa using h1) (by simpa using h2) fun e => h (by omega)
end
end DL
set_option Elab.async false
set_option linter.all false
set_option maxRecDepth 100000
set_option maxHeartbeats 2000000
namespace DL
open PySem PySem.Spec PyProof.Rows L2
/-! ### comprehensions -/
def wipeE (ρ : En) : List Nat → En
  | [] => ρ
  | v :: vs => (wipeE ρ vs).set v .no
def unwipe (ρ ρ' : En) : List Nat → En
  | [] => ρ'
  | v :: vs => (unwipe ρ ρ' vs).set v (ρ.getD v .no)
def nonOwn (ρ : En) (vs : List Nat) : Bool := vs.all fun v => match ρ.getD v .no with
  | .own _ _ => false
  | _ => true
section
variable {K : PySem.W.Frag} {T : Tb} {B : Bs} {G G2 H H2 : Hp} {ρ ρ' : En} {σ σ2 : L2.St} {vs : List Nat}
theorem Sta.wipe (S : Sta K T B G ρ σ H) : ∀ vs : List Nat, Sta K T B G (wipeE ρ vs) (L2.wipe σ vs) H
  | [] => S
  | v :: vs => (Sta.wipe S vs).setNo v none
theorem paired_len {α β : Type} {F : α → β → Prop} : ∀ {l₁ : List α} {l₂ : List β}, Paired F l₁ l₂ → l₁.length = l₂.length
  | _, _, .nil => rfl
  | _, _, .cons _ t => congrArg (· + 1) (paired_len t)
theorem paired_of {α β : Type} {F : α → β → Prop} : ∀ {l₁ : List α} {l₂ : List β}, l₁.length = l₂.length → (∀ (i : Nat) (a : α) (b : β), l₁[i]? = some a → l₂[i]? = some b → F a b) → Paired F l₁ l₂
  | [], [], _, _ => .nil
  | a :: l, b :: m, h, f => .cons (f 0 a b rfl rfl) (paired_of (by simpa using h) fun i x y h1 h2 => f (i + 1) x y (by simpa using h1) (by simpa using h2))
theorem unwipe_length : ∀ vs : List Nat, (unwipe ρ ρ' vs).length = ρ'.length
  | [] => rfl
  | v :: vs => by
    unfold unwipe
    rw [List.length_set, unwipe_length vs]
theorem unwipe_out {i : Nat} : ∀ {vs : List Nat}, i ∉ vs → (unwipe ρ ρ' vs)[i]? = ρ'[i]?
  | [], _ => rfl
  | v :: vs, h => by
    unfold unwipe
    rw [List.getElem?_set_ne fun e => h (by rw [e]; exact List.mem_cons_self)]
    exact unwipe_out fun z => h (List.mem_cons_of_mem _ z)
theorem unwipe_in {i : Nat} (hi : i < ρ'.length) : ∀ {vs : List Nat}, i ∈ vs → (unwipe ρ ρ' vs)[i]? = some (ρ.getD i .no)
  | v :: vs, h => by
    unfold unwipe
    by_cases e : v = i
    · subst e
      rw [List.getElem?_set_self (by rw [unwipe_length]; exact hi)]
    · rw [List.getElem?_set_ne e]
      exact unwipe_in hi ((List.mem_cons.mp h).resolve_left fun z => e z.symm)
theorem nonOwn_at {v : Nat} (h : nonOwn ρ vs = true) (hv : v ∈ vs) : ∀ p c, ρ.getD v .no ≠ .own p c := fun p c e => by
  have q := List.all_eq_true.mp h v hv
  rw [e] at q
  cases q
theorem owns_unwipe : ∀ {vs : List Nat}, (∀ v ∈ vs, ∀ p c, ρ.getD v .no ≠ .own p c) → (owns (unwipe ρ ρ' vs)).Sublist (owns ρ')
  | [], _ => List.Sublist.refl _
  | v :: vs, h => by
    unfold unwipe
    exact (owns_set_sub (h v List.mem_cons_self) _ _).trans (owns_unwipe fun u hu => h u (List.mem_cons_of_mem _ hu))
theorem Sta.unwipe (S : Sta K T B G ρ σ H) (S2 : Sta K T B G2 ρ' σ2 H2) (g : Same G G2) (hw : L2.wipe σ2 vs = L2.wipe σ vs) (hn : nonOwn ρ vs = true) : Sta K T B G2 (unwipe ρ ρ' vs) σ H2 where
  g := S2.g
  h := S2.h
  s := S2.s
  n := S2.n
  sl := by
    obtain ⟨hl, ho⟩ := wipe_out hw
    have l1 := paired_len S.sl
    have l2 := paired_len S2.sl
    refine paired_of (by rw [unwipe_length]; omega) fun i a b h1 h2 => ?_
    by_cases hi : i ∈ vs
    · have hlt : i < ρ'.length := by
        have := (List.getElem?_eq_some_iff.mp h1).1
        omega
      rw [unwipe_in hlt hi] at h2
      have e := Option.some.inj h2
      cases hb : b with
      | no => trivial
      | dat d =>
        have hr : ρ[i]? = some (.dat d) := by
          have hlt' : i < ρ.length := by omega
          rw [List.getElem?_eq_getElem hlt']
          rw [List.getD_eq_getElem?_getD, List.getElem?_eq_getElem hlt'] at e
          rw [← hb]
          exact congrArg some e
        obtain ⟨v, e1, e2⟩ := S.dat hr
        exact ⟨v, Option.some.inj (h1.symm.trans e1), e2.mono g⟩
      | own p c =>
        rw [hb] at e
        exact absurd e (nonOwn_at hn hi p c)
    · rw [unwipe_out hi] at h2
      rw [← ho i hi] at h1
      obtain ⟨a', e1, e2⟩ := paired_get S2.sl h2
      rw [h1] at e1
      cases e1
      exact e2
  nd := S2.nd.sublist (owns_unwipe fun v hv => nonOwn_at hn hv)
  tb := S2.tb
  tn := S2.tn
end
def ETs (X : Cx) (T : Tb) (ifs : List Expr) (ρ ρ' : En) (b : Bool) : Prop := PTs X ifs (tET X.K T ρ ρ' b)
theorem ets_nil {X : Cx} {T : Tb} {ρ : En} : ETs X T [] ρ ρ true := ⟨fun pins s σ H Q I ⟨B, G, S, q⟩ => pts_nil.run pins s σ H Q I (q G H (Same.refl _) S)⟩
theorem ets_one {X : Cx} {T : Tb} {c : Expr} {ρ ρ' : En} {b : Bool} (h : ET X T c ρ ρ' b) : ETs X T [c] ρ ρ' b := pts_one h
abbrev Blk (X : Cx) (scope : Scope) (s : Shared) (H : Hp) (C : Addr) (cl : List (Str × Addr)) (fp : List Addr) : Cx := X.blk s H scope (compEnvC scope cl C X.env) fp
section
variable {X : Cx} {T : Tb} {W : WX} {ρ ρ1 ρ2 : En} {pos : Pos} {tg iter elt : Expr} {ifs : List Expr} {scope : Scope} {own : List (Str × Nat)} {ds xs : List D}
/-- a comprehension as a statement's or an expression's tree -/
structure LcOk (X : Cx) (T : Tb) (tg iter elt : Expr) (ifs : List Expr) (scope : Scope) (own : List (Str × Nat)) (ρ ρ2 : En) (xs : List D) : Prop where
  ex : ∃ (wi : TI) (g : TG) (tt : TT) (te : TE), PI X tg iter wi ∧
    (∀ (s : Shared) (H : Hp) (C : Addr) (cl : List (Str × Addr)) (fp : List Addr), PG (Blk X scope s H C cl fp) tg g) ∧ (∀ (s : Shared) (H : Hp) (C : Addr) (cl : List (Str × Addr)) (fp : List Addr), PTs (Blk X scope s H C cl fp) ifs tt) ∧
    (∀ (s : Shared) (H : Hp) (C : Addr) (cl : List (Str × Addr)) (fp : List Addr), PE (Blk X scope s H C cl fp) elt te) ∧ ∀ σ H Q, tEN X.K T ρ ρ2 xs σ H Q → tLc wi g tt te (own.map (·.2)) σ H Q
theorem lc_ok (I : Nat → En → List D → Prop) (hi : EI X T tg iter ρ ρ1 ds) (h0 : I 0 ρ1 [])
    (hs : ∀ (i : Nat) (d : D) (ρ' : En) (acc : List D), ds[i]? = some d → I i ρ' acc → ∃ ρa ks ρb k, (∀ v ∈ ks, v ∈ own.map (·.2)) ∧ nonOwn ρ' (own.map (·.2)) = true ∧
      (∀ (s : Shared) (H : Hp) (C : Addr) (cl : List (Str × Addr)) (fp : List Addr), GX (Blk X scope s H C cl fp) T tg (wipeE ρ' (own.map (·.2))) d ρa ks) ∧ (∀ (s : Shared) (H : Hp) (C : Addr) (cl : List (Str × Addr)) (fp : List Addr), ETs (Blk X scope s H C cl fp) T ifs ρa ρb k) ∧
      (k = true → ∃ ρc e, (∀ (s : Shared) (H : Hp) (C : Addr) (cl : List (Str × Addr)) (fp : List Addr), EX (Blk X scope s H C cl fp) T elt ρb ρc e) ∧ acc.length < sizeLine ∧ I (i + 1) (unwipe ρ' ρc (own.map (·.2))) (acc ++ [e])) ∧
      (k = false → I (i + 1) (unwipe ρ' ρb (own.map (·.2))) acc))
    (hd : ∀ ρ' acc, I ds.length ρ' acc → ρ' = ρ2 ∧ acc = xs) : LcOk X T tg iter elt ifs scope own ρ ρ2 xs := by
  refine ⟨⟨tEI X.K T ρ ρ1 ds, fun v σ H Q => ∃ ρa d ρb ks, (∀ (s : Shared) (H : Hp) (C : Addr) (cl : List (Str × Addr)) (fp : List Addr), GX (Blk X scope s H C cl fp) T tg ρa d ρb ks) ∧ tGX' X.K T ρa d ρb ks v σ H Q,
    fun σ H Q => ∃ ρa ρb k, (∀ (s : Shared) (H : Hp) (C : Addr) (cl : List (Str × Addr)) (fp : List Addr), ETs (Blk X scope s H C cl fp) T ifs ρa ρb k) ∧ tET X.K T ρa ρb k σ H Q,
    fun σ H Q => ∃ ρa ρb e, (∀ (s : Shared) (H : Hp) (C : Addr) (cl : List (Str × Addr)) (fp : List Addr), EX (Blk X scope s H C cl fp) T elt ρa ρb e) ∧ tEX X.K T ρa ρb e σ H Q, hi,
    fun s H C cl fp => ⟨fun pins s' σ H v u Q I' r ⟨ρa, d, ρb, ks, h1, h2⟩ => (h1 s _ C cl fp).run pins s' σ H v u Q I' r h2⟩,
    fun s H C cl fp => ⟨fun pins s' σ H Q I' ⟨ρa, ρb, k, h1, h2⟩ => (h1 s _ C cl fp).run pins s' σ H Q I' h2⟩,
    fun s H C cl fp => ⟨fun pins s' σ H Q I' ⟨ρa, ρb, e, h1, h2⟩ => (h1 s _ C cl fp).run pins s' σ H Q I' h2⟩, fun σ H Q h => ?_⟩⟩
  obtain ⟨B, G, S, q⟩ := h
  refine ⟨B, G, S, fun J G1 H1 g1 S1 it D hD => ?_⟩
  have gD : G1 D = none := by
    cases z : G1 D with
    | none => rfl
    | some u => rw [S1.s D u z] at hD; cases hD
  have bD : B.H D = none := by
    cases z : B.H D with
    | none => rfl
    | some u => rw [S1.h D u z] at hD; cases hD
  have bGD : B.G D = none := by
    cases z : B.G D with
    | none => rfl
    | some u => rw [S1.g D u z] at gD; cases gD
  have oD : D ∉ owns ρ1 := fun ho => by
    obtain ⟨c, hc⟩ := mem_owns.mp ho
    obtain ⟨i, hi⟩ := List.getElem?_of_mem hc
    exact (S1.own hi).2.2.2.1.1 hD
  let St (i : Nat) (H : Hp) : Prop := ∃ ρ' G' acc vs, Same G1 G' ∧ Sta X.K T B G' ρ' σ H ∧ I i ρ' acc ∧ H D = some (.lst vs) ∧ RpA X.K G' vs acc ∧ G' D = none ∧ D ∉ owns ρ'
  refine ⟨fun i m H => m + i = ds.length ∧ St i H, ⟨ds.length, rfl, ρ1, G1, [], [], Same.refl _, S1.grow (.aside S1.s hD), h0, upd_same, .nil, gD, oD⟩, fun i m H2 hW => ?_⟩
  obtain ⟨em, ρ', G', acc, vs, g', S', hI, hH, hR, hg', ho'⟩ := hW
  by_cases hi' : i < ds.length
  · obtain ⟨d, hd'⟩ : ∃ d, ds[i]? = some d := ⟨_, List.getElem?_eq_getElem hi'⟩
    obtain ⟨go, yl⟩ := it.go i H2 G' d hd' g' S'.s
    refine .inr ⟨go, St (i + 1), fun H3 h3 => ⟨m - 1, by omega, by omega, h3⟩, fun x H' y => ?_⟩
    obtain ⟨G2, gr, rx⟩ := yl x H' y
    obtain ⟨ρa, ks, ρb, k, hks, hno, hg, ht, hyes, hnot⟩ := hs i d ρ' acc hd' hI
    have S2 := S'.grow gr
    have hH2 : H' D = some (.lst vs) := gr.h _ _ hH
    have gD2 : G2 D = none := gr.n D (mb_lst hH) hg'
    have SP := S2.pin hH2 gD2 ho'
    refine ⟨_, d, ρa, ks, hg, B.pin D (.lst vs), G2, SP.wipe _, rx, fun σ3 G3 H3 g3 S3 w3 => ⟨?_, ρa, ρb, k, ht, B.pin D (.lst vs), G3, S3, fun G4 H4 g4 S4 => ?_⟩⟩
    · rw [w3 _ hks, wipe_wipe]
    have hw : wipe σ3 (own.map (·.2)) = wipe σ (own.map (·.2)) := by rw [w3 _ hks, wipe_wipe]
    cases k with
    | true =>
      obtain ⟨ρc, e, he, hz, hI2⟩ := hyes rfl
      refine ⟨ρb, ρc, e, he, B.pin D (.lst vs), G4, S4, fun yv G5 H5 g5 S5 ry => ⟨vs, ?_⟩⟩
      have SU := SP.unwipe S5 ((g3.trans g4).trans g5) hw hno
      obtain ⟨S6, h6, n6, o6⟩ := SU.unpin bD
      refine ⟨h6, by rw [hR.length]; exact hz, _, G5, acc ++ [e], vs ++ [yv], g'.trans (gr.g.trans ((g3.trans g4).trans g5)), S6.beside h6 (n6 bGD) bD o6, hI2, upd_same, (hR.mono (gr.g.trans ((g3.trans g4).trans g5))).snoc ry, n6 bGD, o6⟩
    | false =>
      have SU := SP.unwipe S4 (g3.trans g4) hw hno
      obtain ⟨S6, h6, n6, o6⟩ := SU.unpin bD
      exact ⟨_, G4, acc, vs, g'.trans (gr.g.trans (g3.trans g4)), S6, hnot rfl, h6, hR.mono (gr.g.trans (g3.trans g4)), n6 bGD, o6⟩
  · have ei : i = ds.length := by omega
    subst ei
    obtain ⟨e1, e2⟩ := hd ρ' acc hI
    subst e1 e2
    exact .inl ⟨it.stop H2 G' g' S'.s, q D G' H2 (g1.trans g') S' ⟨⟨vs, hH, hR⟩, hg', bD, ho'⟩⟩
theorem LcOk.en (h : LcOk X T tg iter elt ifs scope own ρ ρ2 xs) (hc : X.calm = true) (hN : X.N.Nodup) (ok : BlkOk X.N X.env.scope scope own) (hs : ∀ x, foldedSetIterable iter X.env x = pure x := by intro _; rfl) : EN X T (.ListComp elt [⟨tg, iter, ifs, 0⟩] scope pos) ρ ρ2 xs := by
  obtain ⟨wi, g, tt, te, h1, h2, h3, h4, h5⟩ := h.ex
  exact pe_imp (pe_lc hc hN h1 ok h2 h3 h4 hs) h5
/-- name = [..] on one line -/
theorem LcOk.set {P : Out → Prop} {i : Nat} {y : Str} {py spos : Pos} (h : LcOk X T tg iter elt ifs scope own ρ ρ2 xs) (hc : X.calm = true) (hN : X.N.Nodup) (ok : BlkOk X.N X.env.scope scope own) (hp : P (.nx (ρ2.set i (.dat (.lst xs))))) (hy : X.N[i]? = some y) (hyl : X.env.scope.names.lookup y = some .local)
    (hsw : swapsWith (.ListComp elt [⟨tg, iter, ifs, 0⟩] scope pos) (some (.Name y py)) spos.line X.env = pure true) (hs : ∀ x, foldedSetIterable iter X.env x = pure x := by intro _; rfl) : ES X T W (.Assign [.Name y py] (.ListComp elt [⟨tg, iter, ifs, 0⟩] scope pos) spos) ρ P := by
  obtain ⟨wi, g, tt, te, h1, h2, h3, h4, h5⟩ := h.ex
  refine ps_imp (ps_setLc hc hN hy hyl hsw h1 ok h2 h3 h4 hs) fun D σ H ⟨B, G, S, p⟩ => h5 σ H _ ⟨B, G, S, fun q G1 H1 g1 S1 N => ?_⟩
  obtain ⟨G2, g2, S2, r⟩ := N.take S1
  exact p.nx _ _ G2 H1 hp (g1.trans g2) (S2.setDat i r)
theorem LcOk.setL {P : Out → Prop} {i : Nat} {y : Str} {py spos : Pos} (h : LcOk X T tg iter elt ifs scope own ρ ρ2 xs) (hc : X.calm = true) (hN : X.N.Nodup) (ok : BlkOk X.N X.env.scope scope own) (hp : ∀ q, q ∉ owns ρ2 → P (.nx (ρ2.set i (.own q (.lst xs))))) (hy : X.N[i]? = some y) (hyl : X.env.scope.names.lookup y = some .local)
    (hsw : swapsWith (.ListComp elt [⟨tg, iter, ifs, 0⟩] scope pos) (some (.Name y py)) spos.line X.env = pure true) (hs : ∀ x, foldedSetIterable iter X.env x = pure x := by intro _; rfl) : ES X T W (.Assign [.Name y py] (.ListComp elt [⟨tg, iter, ifs, 0⟩] scope pos) spos) ρ P := by
  obtain ⟨wi, g, tt, te, h1, h2, h3, h4, h5⟩ := h.ex
  refine ps_imp (ps_setLc hc hN hy hyl hsw h1 ok h2 h3 h4 hs) fun D σ H ⟨B, G, S, p⟩ => h5 σ H _ ⟨B, G, S, fun q G1 H1 g1 S1 N => ?_⟩
  exact p.nx _ _ G1 H1 (hp q N.o) g1 (S1.setOwn i N.g N.b (mb_lst N.at_.choose_spec.1) N.at_ N.o)
/-- the names ahead of the loop are as they were -/
theorem lc_pure {α : Type} (zs : List α) (enc : α → D) (p : α → Bool) (f : α → D) (ρa : α → En) (ks : List Nat) (hi : EI X T tg iter ρ ρ1 (zs.map enc)) (hks : ∀ v ∈ ks, v ∈ own.map (·.2)) (hno : nonOwn ρ1 (own.map (·.2)) = true)
    (hg : ∀ a ∈ zs, ∀ (s : Shared) (H : Hp) (C : Addr) (cl : List (Str × Addr)) (fp : List Addr), GX (Blk X scope s H C cl fp) T tg (wipeE ρ1 (own.map (·.2))) (enc a) (ρa a) ks)
    (ht : ∀ a ∈ zs, ∀ (s : Shared) (H : Hp) (C : Addr) (cl : List (Str × Addr)) (fp : List Addr), ETs (Blk X scope s H C cl fp) T ifs (ρa a) (ρa a) (p a))
    (he : ∀ a ∈ zs, p a = true → ∀ (s : Shared) (H : Hp) (C : Addr) (cl : List (Str × Addr)) (fp : List Addr), EX (Blk X scope s H C cl fp) T elt (ρa a) (ρa a) (f a)) (hr : ∀ a, unwipe ρ1 (ρa a) (own.map (·.2)) = ρ1) (hz : zs.length < sizeLine) :
    LcOk X T tg iter elt ifs scope own ρ ρ1 ((zs.filter p).map f) := by
  refine lc_ok (fun i ρ' acc => ρ' = ρ1 ∧ acc = ((zs.take i).filter p).map f) hi ⟨rfl, rfl⟩ (fun i d ρ' acc hd hI => ?_) fun ρ' acc hI => ⟨hI.1, ?_⟩
  · obtain ⟨e1, e2⟩ := hI
    rw [List.getElem?_map] at hd
    obtain ⟨a, ha, ea⟩ : ∃ a, zs[i]? = some a ∧ enc a = d := by
      cases z : zs[i]? with
      | none => rw [z] at hd; cases hd
      | some a => rw [z] at hd; exact ⟨a, rfl, Option.some.inj hd⟩
    subst e1 ea
    have hm : a ∈ zs := List.mem_of_getElem? ha
    have tk : zs.take (i + 1) = zs.take i ++ [a] := by rw [List.take_add_one, ha]; rfl
    refine ⟨ρa a, ks, ρa a, p a, hks, hno, hg a hm, ht a hm, fun k => ⟨ρa a, f a, he a hm k, ?_, (hr a), ?_⟩, fun k => ⟨hr a, ?_⟩⟩
    · rw [e2, List.length_map]
      exact Nat.lt_of_le_of_lt (Nat.le_trans (List.length_filter_le _ _) (by rw [List.length_take]; omega)) hz
    · rw [e2, tk, List.filter_append, List.map_append, List.filter_cons, if_pos k]
      rfl
    · rw [e2, tk, List.filter_append, List.map_append, List.filter_cons, if_neg (by rw [k]; decide)]
      simp
  · rw [hI.2, List.length_map, List.take_length]
end
end DL
set_option Elab.async false
set_option linter.all false
set_option maxRecDepth 100000
set_option maxHeartbeats 2000000
namespace DL
open PySem PySem.Spec PyProof.Rows L2
theorem passN {X : Cx} : Passes (L2N.CX X.prog X.w) X E0 := fun _ _ _ _ _ _ _ h => by
  obtain ⟨_, _, _, _, _, _, _, _, _, _, _, _, z⟩ := h
  exact z.elim
/-! ### promises over data -/
/-- of data alone -/
def spP (K : PySem.W.Frag) (T : Tb) (R : List D → Rs → Prop) : Sp := fun vs H Q E => ∃ (B : Bs) (G : Hp) (ds : List D) (r : Rs), Sta K T B G [] [] H ∧ RpA K G vs ds ∧ R ds r ∧
  ∀ G' H', Same G G' → Sta K T B G' [] [] H' → (∀ v, RsR K B G' [] H' v r → Q v H') ∧ ∀ C, r = .exc C → E (.ref C) none H'
/-- of data and one thing of the caller's own, at p -/
def spO (K : PySem.W.Frag) (T : Tb) (R : Addr → List D → Cl → Cl → Rs → Prop) : Sp := fun vs H Q E => ∃ (B : Bs) (G : Hp) (ds : List D) (p : Addr) (c c' : Cl) (r : Rs), Sta K T B G [.own p c] [some (.ref p)] H ∧ RpA K G vs ds ∧ R p ds c c' r ∧
  ∀ G' H', Same G G' → Sta K T B G' [.own p c'] [some (.ref p)] H' → (∀ v, RsR K B G' [.own p c'] H' v r → Q v H') ∧ ∀ C, r = .exc C → E (.ref C) none H'
/-- a def as the callers know it -/
structure Fn (P : Program) (w : World) (K : PySem.W.Frag) (mg : Str → Option Value) (base : Heap) (CX : CXT) (k : Nat) (x : Str) (sp : Sp) : Prop where
  ex : ∃ f fd ps, mg x = some (.ref f) ∧ PySem.W.keepIn K (.ref f) = true ∧ Binds K fd ps [] ∧ FnOk P w K mg base CX k f fd ps sp
theorem Fn.mono {P : Program} {w : World} {K : PySem.W.Frag} {mg : Str → Option Value} {base : Heap} {CX : CXT} {j k : Nat} {x : Str} {sp : Sp} (F : Fn P w K mg base CX j x sp) (h : j ≤ k) : Fn P w K mg base CX k x sp := by
  obtain ⟨f, fd, ps, h1, h2, h3, h4⟩ := F.ex
  exact ⟨f, fd, ps, h1, h2, h3, h4.mono h⟩
/-! ### the base that a callee gets -/
def hideL (L : List Addr) (H : Hp) : Hp := fun a => if a ∈ L then none else H a
theorem hideL_in {L : List Addr} {H : Hp} {a : Addr} (h : a ∈ L) : hideL L H a = none := by unfold hideL; rw [if_pos h]
theorem hideL_out {L : List Addr} {H : Hp} {a : Addr} (h : a ∉ L) : hideL L H a = H a := by unfold hideL; rw [if_neg h]
theorem hideL_sub {L : List Addr} {H : Hp} : Same (hideL L H) H := fun a o e => by
  by_cases h : a ∈ L
  · rw [hideL_in h] at e; cases e
  · rw [hideL_out h] at e; exact e
abbrev tabL (T : Tb) : List Addr := T.map (·.1)
section
variable {K : PySem.W.Frag} {T : Tb} {B : Bs} {G G2 H H2 : Hp} {ρ : En} {σ : L2.St}
theorem Sta.tabH (S : Sta K T B G ρ σ H) {a : Addr} (h : a ∈ tabL T) : (∃ ps, H a = some (.tbl ps)) ∧ B.H a = none ∧ G a = none := by
  obtain ⟨p, hp, rfl⟩ := List.mem_map.mp h
  obtain ⟨ps, e, _⟩ := S.tb p hp
  exact ⟨⟨ps, e⟩, (S.tn p hp).1, (S.tn p hp).2⟩
/-- for a callee that gets data alone -/
theorem Sta.call0 (S : Sta K T B G ρ σ H) : Sta K T ⟨G, hideL (tabL T) H⟩ G [] [] H where
  g := Same.refl _
  h := hideL_sub
  s := S.s
  n := fun a _ h => h
  sl := .nil
  nd := List.nodup_nil
  tb := S.tb
  tn := fun p hp => ⟨hideL_in (List.mem_map.mpr ⟨p, hp, rfl⟩), (S.tn p hp).2⟩
theorem Sta.back0 (S : Sta K T B G ρ σ H) (S2 : Sta K T ⟨G, hideL (tabL T) H⟩ G2 [] [] H2) : Sta K T B G2 ρ σ H2 where
  g := S.g.trans S2.g
  h := fun a o e => S2.h a o (by
    have na : a ∉ tabL T := fun z => by rw [(S.tabH z).2.1] at e; cases e
    show hideL (tabL T) H a = some o
    rw [hideL_out na]
    exact S.h a o e)
  s := S2.s
  n := fun a h1 h2 => by
    have na : a ∉ tabL T := fun z => h1.1 (S.tabH z).2.1
    refine S2.n a ?_ (S.n a h1 h2)
    show Mb (hideL (tabL T) H a)
    rw [hideL_out na]
    exact same_mb S.h h1
  sl := paired_imp S.sl fun u x hx r => by
    cases x with
    | no => trivial
    | dat d =>
      obtain ⟨v, e, rv⟩ := r
      exact ⟨v, e, rv.mono S2.g⟩
    | own q c =>
      obtain ⟨e, a1, a2, a3, a4⟩ := r
      have na : q ∉ tabL T := fun z => by
        obtain ⟨⟨ps, e⟩, _⟩ := S.tabH z
        exact a4.notbl e
      have kq : ∀ o, H q = some o → H2 q = some o := fun o e => S2.h q o (by show hideL (tabL T) H q = some o; rw [hideL_out na]; exact e)
      refine ⟨e, S2.n q (by show Mb (hideL (tabL T) H q); rw [hideL_out na]; exact a3) a1, a2, ?_, ?_⟩
      · cases hq : H q with
        | none => exact absurd hq a3.1
        | some o => rw [kq o hq]; rw [hq] at a3; exact a3
      · cases c with
        | lst xs => exact ⟨a4.choose, kq _ a4.choose_spec.1, a4.choose_spec.2.mono S2.g⟩
        | ho o => exact ⟨kq _ a4.1, a4.2⟩
        | ins C dx fs => exact ⟨a4.choose, kq _ a4.choose_spec.1, a4.choose_spec.2.mono S2.g⟩
  nd := S.nd
  tb := S2.tb
  tn := fun p hp => ⟨(S.tn p hp).1, (S2.tn p hp).2⟩
/-- for a callee that gets one thing of ours -/
theorem Sta.call1 (S : Sta K T B G ρ σ H) {i : Nat} {p : Addr} {c : Cl} (e : ρ[i]? = some (.own p c)) : Sta K T ⟨G, hideL (p :: tabL T) H⟩ G [.own p c] [some (.ref p)] H where
  g := Same.refl _
  h := hideL_sub
  s := S.s
  n := fun a _ h => h
  sl := .cons ⟨rfl, (S.own e).2.1, hideL_in List.mem_cons_self, (S.own e).2.2.2.1, (S.own e).2.2.2.2⟩ .nil
  nd := by simp [owns]
  tb := S.tb
  tn := fun q hq => ⟨hideL_in (List.mem_cons_of_mem _ (List.mem_map.mpr ⟨q, hq, rfl⟩)), (S.tn q hq).2⟩
theorem Sta.back1 (S : Sta K T B G ρ σ H) {i : Nat} {p : Addr} {c c' : Cl} (e : ρ[i]? = some (.own p c)) (S2 : Sta K T ⟨G, hideL (p :: tabL T) H⟩ G2 [.own p c'] [some (.ref p)] H2) : Sta K T B G2 (ρ.set i (.own p c')) σ H2 where
  g := S.g.trans S2.g
  h := fun a o h => S2.h a o (by
    have na : a ∉ p :: tabL T := fun z => by
      rcases List.mem_cons.mp z with z | z
      · rw [z, (S.own e).2.2.1] at h; cases h
      · rw [(S.tabH z).2.1] at h; cases h
    show hideL (p :: tabL T) H a = some o
    rw [hideL_out na]
    exact S.h a o h)
  s := S2.s
  n := fun a h1 h2 => by
    have na : a ∉ p :: tabL T := fun z => by
      rcases List.mem_cons.mp z with z | z
      · exact h1.1 (by rw [z]; exact (S.own e).2.2.1)
      · exact h1.1 (S.tabH z).2.1
    refine S2.n a ?_ (S.n a h1 h2)
    show Mb (hideL (p :: tabL T) H a)
    rw [hideL_out na]
    exact same_mb S.h h1
  sl := by
    have l1 := paired_len S.sl
    refine paired_of (by rw [List.length_set]; exact l1) fun j u x h1 h2 => ?_
    by_cases hj : i = j
    · subst hj
      have hlt : i < ρ.length := (List.getElem?_eq_some_iff.mp e).1
      rw [List.getElem?_set_self hlt] at h2
      have hx := Option.some.inj h2
      subst hx
      obtain ⟨_, a1, _, a3, a4⟩ := S2.own (i := 0) rfl
      have eu : u = some (.ref p) := Option.some.inj (h1.symm.trans (S.own e).1)
      exact ⟨eu, a1, (S.own e).2.2.1, a3, a4⟩
    · rw [List.getElem?_set_ne hj] at h2
      obtain ⟨u', e1, r⟩ := DL.paired_get S.sl h2
      rw [h1] at e1
      cases e1
      cases x with
      | no => trivial
      | dat d =>
        obtain ⟨v, e, rv⟩ := r
        exact ⟨v, e, rv.mono S2.g⟩
      | own q c1 =>
        obtain ⟨e', a1, a2, a3, a4⟩ := r
        have na : q ∉ p :: tabL T := fun z => by
          rcases List.mem_cons.mp z with z | z
          · subst z
            exact Sta.write.owns_twice S.nd e h2 hj
          · obtain ⟨⟨ps, e⟩, _⟩ := S.tabH z
            exact a4.notbl e
        have kq : ∀ o, H q = some o → H2 q = some o := fun o e => S2.h q o (by show hideL (p :: tabL T) H q = some o; rw [hideL_out na]; exact e)
        refine ⟨e', S2.n q (by show Mb (hideL (p :: tabL T) H q); rw [hideL_out na]; exact a3) a1, a2, ?_, ?_⟩
        · cases hq : H q with
          | none => exact absurd hq a3.1
          | some o => rw [kq o hq]; rw [hq] at a3; exact a3
        · cases c1 with
          | lst xs => exact ⟨a4.choose, kq _ a4.choose_spec.1, a4.choose_spec.2.mono S2.g⟩
          | ho o => exact ⟨kq _ a4.1, a4.2⟩
          | ins C dx fs => exact ⟨a4.choose, kq _ a4.choose_spec.1, a4.choose_spec.2.mono S2.g⟩
  nd := by
    rw [owns_set_same S.nd e]
    exact S.nd
  tb := S2.tb
  tn := fun q hq => ⟨(S.tn q hq).1, (S2.tn q hq).2⟩
where owns_set_same : ∀ {ρ : En} {i : Nat}, (owns ρ).Nodup → ρ[i]? = some (.own p c) → owns (ρ.set i (.own p c')) = owns ρ
  | [], _, _, h => by simp at h
  | x :: r, 0, _, h => by
    simp at h
    subst h
    rfl
  | x :: r, i + 1, nd, h => by
    have nd' : (owns r).Nodup := by
      cases x with
      | no => exact nd
      | dat d => exact nd
      | own q c0 => exact (List.nodup_cons.mp nd).2
    have ih := owns_set_same (ρ := r) (i := i) nd' (by simpa using h)
    rw [List.set_cons_succ]
    cases x with
    | no => exact ih
    | dat d => exact ih
    | own q c0 => exact congrArg (q :: ·) ih
/-- a new list of the callee's is new to us -/
theorem NewL.out (S : Sta K T B G ρ σ H) {L : List Addr} {ρa : En} {p : Addr} {xs : List D} (hL : ∀ a ∈ L, ∀ vs, H2 a ≠ some (.lst vs) ∨ a ∈ owns ρa) (N : NewL K ⟨G, hideL L H⟩ G2 ρa H2 p xs) (ρ' : En) (ho : ∀ q ∈ owns ρ', H q ≠ none ∨ q ∈ owns ρa) : NewL K B G2 ρ' H2 p xs := by
  obtain ⟨vs, h1, h2⟩ := N.at_
  have nL : p ∉ L := fun z => by
    rcases hL p z vs with q | q
    · exact q h1
    · exact N.o q
  have nH : H p = none := by
    have := N.b
    have e : hideL L H p = none := this
    rw [hideL_out nL] at e
    exact e
  refine ⟨N.at_, N.g, ?_, fun z => ?_⟩
  · cases q : B.H p with
    | none => rfl
    | some o => rw [S.h p o q] at nH; cases nH
  · rcases ho p z with q | q
    · exact q nH
    · exact N.o q
theorem Sta.ownsH (S : Sta K T B G ρ σ H) : ∀ q ∈ owns ρ, H q ≠ none := fun q h => by
  obtain ⟨c, hc⟩ := mem_owns.mp h
  obtain ⟨i, hi⟩ := List.getElem?_of_mem hc
  exact (S.own hi).2.2.2.1.1
theorem Sta.tabN {ρa : En} {σa : L2.St} (S2 : Sta K T B G ρa σa H) : ∀ a ∈ tabL T, ∀ vs, H a ≠ some (.lst vs) ∨ a ∈ owns ρa := fun a h vs => by
  obtain ⟨⟨ps, e⟩, _⟩ := S2.tabH h
  exact .inl fun z => by rw [e] at z; cases z
end
/-! ### calls -/
section
variable {X : Cx} {T : Tb} {CX : CXT} {k j : Nat} {x : Str} {ρ ρ1 : En} {p pos : Pos} {e : Expr} {es : List Expr} {ds xs : List D} {d : D}
theorem sp0 {σ : L2.St} {B : Bs} {G H : Hp} {vs : List V} {R : List D → Rs → Prop} {r : Rs} {Q : VK} {E : XK} (S : Sta X.K T B G ρ σ H) (ra : RpA X.K G vs ds) (hR : R ds r)
    (q : ∀ G' H', Same G G' → Sta X.K T B G' ρ σ H' → (∀ v, RsR X.K B G' ρ H' v r → Q v H') ∧ ∀ C, r = .exc C → E (.ref C) none H') : spP X.K T R vs H Q E :=
  ⟨⟨G, hideL (tabL T) H⟩, G, ds, r, S.call0, ra, hR, fun G' H' g S2 => by
    obtain ⟨q1, q2⟩ := q G' H' g (S.back0 S2)
    refine ⟨fun v rv => q1 v ?_, q2⟩
    cases r with
    | dat d => exact rv
    | new xs =>
      obtain ⟨p, e, N⟩ := rv
      exact ⟨p, e, N.out S S2.tabN ρ fun q hq => .inl (S.ownsH q hq)⟩
    | exc C => exact rv⟩
theorem ex_call {R : List D → Rs → Prop} (F : Fn X.prog X.w X.K X.mg X.base CX k x (spP X.K T R)) (hr : Room j X.A) (ha : EA X T (e :: es) ρ ρ1 ds) (hR : R ds (.dat d)) (hk : k ≤ j := by decide) (hx : Passes CX X E0 := by first | exact pass0 | exact passN) (hg : Gl X x := by rfl) (hdb : (x == ("__debug__" : Str)) = false := by decide)
    (he : starEach (e :: es) X.env = (false, eval e X.env) :: starEach es X.env := by rfl) (hpl : (backTo pos (starEach es X.env)).any (·.1) = false := by rfl) : EX X T (.Call (.Name x p) (e :: es) [] pos) ρ ρ1 d := by
  obtain ⟨f, fd, ps, h1, h2, h3, h4⟩ := F.ex
  exact pe_imp (pe_call h4 (hr.mono hk) hg h1 h2 h3 .nil hx ha hdb he hpl) fun σ H Q ⟨B, G, S, q⟩ => ⟨B, G, S, fun vs G1 H1 g1 S1 r1 => by
    show spP X.K T R (vs ++ []) H1 Q E0
    rw [List.append_nil]
    exact sp0 S1 r1 hR fun G2 H2 g2 S2 => ⟨fun v rv => q v G2 H2 (g1.trans g2) S2 rv, fun C e => nomatch e⟩⟩
theorem en_call {R : List D → Rs → Prop} (F : Fn X.prog X.w X.K X.mg X.base CX k x (spP X.K T R)) (hr : Room j X.A) (ha : EA X T (e :: es) ρ ρ1 ds) (hR : R ds (.new xs)) (hk : k ≤ j := by decide) (hx : Passes CX X E0 := by first | exact pass0 | exact passN) (hg : Gl X x := by rfl) (hdb : (x == ("__debug__" : Str)) = false := by decide)
    (he : starEach (e :: es) X.env = (false, eval e X.env) :: starEach es X.env := by rfl) (hpl : (backTo pos (starEach es X.env)).any (·.1) = false := by rfl) : EN X T (.Call (.Name x p) (e :: es) [] pos) ρ ρ1 xs := by
  obtain ⟨f, fd, ps, h1, h2, h3, h4⟩ := F.ex
  exact pe_imp (pe_call h4 (hr.mono hk) hg h1 h2 h3 .nil hx ha hdb he hpl) fun σ H Q ⟨B, G, S, q⟩ => ⟨B, G, S, fun vs G1 H1 g1 S1 r1 => by
    show spP X.K T R (vs ++ []) H1 Q E0
    rw [List.append_nil]
    exact sp0 S1 r1 hR fun G2 H2 g2 S2 => ⟨fun v ⟨p, e, N⟩ => e ▸ q p G2 H2 (g1.trans g2) S2 N, fun C e => nomatch e⟩⟩
theorem ex_call0 {R : List D → Rs → Prop} (F : Fn X.prog X.w X.K X.mg X.base CX k x (spP X.K T R)) (hr : Room j X.A) (hR : R [] (.dat d)) (hk : k ≤ j := by decide) (hx : Passes CX X E0 := by first | exact pass0 | exact passN) (hg : Gl X x := by rfl) (hdb : (x == ("__debug__" : Str)) = false := by decide) : EX X T (.Call (.Name x p) [] [] pos) ρ ρ d := by
  obtain ⟨f, fd, ps, h1, h2, h3, h4⟩ := F.ex
  exact pe_imp (pe_call0 h4 (hr.mono hk) hg h1 h2 h3 .nil hx hdb) fun σ H Q ⟨B, G, S, q⟩ =>
    sp0 S .nil hR fun G2 H2 g2 S2 => ⟨fun v rv => q v G2 H2 g2 S2 rv, fun C e => nomatch e⟩
theorem en_call0 {R : List D → Rs → Prop} (F : Fn X.prog X.w X.K X.mg X.base CX k x (spP X.K T R)) (hr : Room j X.A) (hR : R [] (.new xs)) (hk : k ≤ j := by decide) (hx : Passes CX X E0 := by first | exact pass0 | exact passN) (hg : Gl X x := by rfl) (hdb : (x == ("__debug__" : Str)) = false := by decide) : EN X T (.Call (.Name x p) [] [] pos) ρ ρ xs := by
  obtain ⟨f, fd, ps, h1, h2, h3, h4⟩ := F.ex
  exact pe_imp (pe_call0 h4 (hr.mono hk) hg h1 h2 h3 .nil hx hdb) fun σ H Q ⟨B, G, S, q⟩ =>
    sp0 S .nil hR fun G2 H2 g2 S2 => ⟨fun v ⟨p, e, N⟩ => e ▸ q p G2 H2 g2 S2 N, fun C e => nomatch e⟩
/-- a call that is raised out of -/
theorem er_call {R : List D → Rs → Prop} {W : WX} {C : Addr} (F : Fn X.prog X.w X.K X.mg X.base (L2N.CX X.prog X.w) k x (spP X.K T R)) (tk : L2N.Takes X W) (hr : Room j X.A) (ha : EA X T (e :: es) ρ ρ ds) (hR : R ds (.exc C)) (hk : k ≤ j := by decide) (hg : Gl X x := by rfl) (hdb : (x == ("__debug__" : Str)) = false := by decide)
    (he : starEach (e :: es) X.env = (false, eval e X.env) :: starEach es X.env := by rfl) (hpl : (backTo pos (starEach es X.env)).any (·.1) = false := by rfl) : ER X T W (.Call (.Name x p) (e :: es) [] pos) ρ C := by
  obtain ⟨f, fd, ps, h1, h2, h3, h4⟩ := F.ex
  exact pe_imp (pe_callS h4 (hr.mono hk) hg h1 h2 h3 (fun σ => L2N.passAt tk σ) ha hdb he hpl) fun σ H Q ⟨B, G, S, q⟩ => ⟨B, G, S, fun vs G1 H1 g1 S1 r1 =>
    sp0 S1 r1 hR fun G2 H2 g2 S2 => ⟨fun v rv => rv.elim, fun C' e => by cases e; exact q G2 H2 (g1.trans g2) S2⟩⟩
/-- a call whose first argument is raised out of -/
theorem er_arg {R : List D → Rs → Prop} {W : WX} {C : Addr} {sp : Sp} (F : Fn X.prog X.w X.K X.mg X.base CX k x sp) (hr : Room j X.A) (ha : ER X T W e ρ C) (hk : k ≤ j := by decide) (hx : Passes CX X E0 := by first | exact pass0 | exact passN) (hg : Gl X x := by rfl) (hdb : (x == ("__debug__" : Str)) = false := by decide)
    (he : starEach (e :: es) X.env = (false, eval e X.env) :: starEach es X.env := by rfl) (hpl : (backTo pos (starEach es X.env)).any (·.1) = false := by rfl) : ER X T W (.Call (.Name x p) (e :: es) [] pos) ρ C := by
  obtain ⟨f, fd, ps, h1, h2, h3, h4⟩ := F.ex
  exact pe_imp (pe_call h4 (hr.mono hk) hg h1 h2 h3 .nil hx (pa_cons ha pa_never he) hdb he hpl) fun σ H Q h => h
/-- a call with one thing of our own -/
theorem ex_callO (i : Nat) {R : Addr → List D → Cl → Cl → Rs → Prop} {q : Addr} {c c' : Cl} (F : Fn X.prog X.w X.K X.mg X.base CX k x (spO X.K T R)) (hr : Room j X.A) (ha : EA X T (e :: es) ρ ρ1 ds) (ho : ρ1[i]? = some (.own q c)) (hR : R q ds c c' (.dat d)) (hk : k ≤ j := by decide) (hx : Passes CX X E0 := by first | exact pass0 | exact passN)
    (hg : Gl X x := by rfl) (hdb : (x == ("__debug__" : Str)) = false := by decide) (he : starEach (e :: es) X.env = (false, eval e X.env) :: starEach es X.env := by rfl) (hpl : (backTo pos (starEach es X.env)).any (·.1) = false := by rfl) : EX X T (.Call (.Name x p) (e :: es) [] pos) ρ (ρ1.set i (.own q c')) d := by
  obtain ⟨f, fd, ps, h1, h2, h3, h4⟩ := F.ex
  exact pe_imp (pe_call h4 (hr.mono hk) hg h1 h2 h3 .nil hx ha hdb he hpl) fun σ H Q ⟨B, G, S, qq⟩ => ⟨B, G, S, fun vs G1 H1 g1 S1 r1 => by
    show spO X.K T R (vs ++ []) H1 Q E0
    rw [List.append_nil]
    exact ⟨_, G1, ds, q, c, c', .dat d, S1.call1 ho, r1, hR, fun G2 H2 g2 S2 => ⟨fun v rv => qq v G2 H2 (g1.trans g2) (S1.back1 ho S2) rv, fun C e => nomatch e⟩⟩⟩
end
/-! ### a def keeps its promise -/
def Ret (r : Rs) : Out → Prop
  | .rt _ r' => r' = r
  | .nx _ => r = .dat .non
  | _ => False
def RetX (r : Rs) : Out → Prop
  | .rt _ r' => r' = r
  | .nx _ => r = .dat .non
  | .ex _ C => r = .exc C
  | _ => False
def RetO (p : Addr) (c' : Cl) (r : Rs) : Out → Prop
  | .rt ρ r' => r' = r ∧ ∃ i : Nat, ρ[i]? = some (.own p c')
  | .nx ρ => r = .dat .non ∧ ∃ i : Nat, ρ[i]? = some (.own p c')
  | _ => False
def RetOX (p : Addr) (c' : Cl) (r : Rs) : Out → Prop
  | .rt ρ r' => r' = r ∧ ∃ i : Nat, ρ[i]? = some (.own p c')
  | .nx ρ => r = .dat .non ∧ ∃ i : Nat, ρ[i]? = some (.own p c')
  | .ex ρ C => r = .exc C ∧ ∃ i : Nat, ρ[i]? = some (.own p c')
  | _ => False
abbrev W0 : WX := fun _ _ _ _ => False
abbrev WE0 (E : XK) : WX := fun cls d _ H => E cls d H
section
variable {P : Program} {w : World} {K : PySem.W.Frag} {mg : Str → Option Value} {base : Heap} {T : Tb}
theorem paired_app {α β : Type} {F : α → β → Prop} : ∀ {a c : List α} {b d : List β}, Paired F a b → Paired F c d → Paired F (a ++ c) (b ++ d)
  | _, _, _, _, .nil, q => q
  | _, _, _, _, .cons r t, q => .cons r (paired_app t q)
theorem paired_rep {α β : Type} {F : α → β → Prop} {a : α} {b : β} (h : F a b) : ∀ m : Nat, Paired F (List.replicate m a) (List.replicate m b)
  | 0 => .nil
  | m + 1 => .cons h (paired_rep h m)
theorem paired_dat {B : Bs} {G H : Hp} {vs : List V} {ds : List D} (r : RpA K G vs ds) : Paired (SlR K B G H) (vs.map some) (ds.map Sl.dat) := by
  refine paired_of (by rw [List.length_map, List.length_map, r.length]) fun i a b e1 e2 => ?_
  rw [List.getElem?_map] at e1 e2
  cases q : ds[i]? with
  | none => rw [q] at e2; cases e2
  | some d =>
    obtain ⟨v, hv, rv⟩ := r.get q
    rw [q] at e2
    rw [hv] at e1
    cases e1
    cases e2
    exact ⟨v, rfl, rv⟩
theorem owns_dat : ∀ (ds : List D) (m : Nat), owns (ds.map Sl.dat ++ List.replicate m .no) = []
  | [], 0 => rfl
  | [], m + 1 => owns_dat [] m
  | _ :: r, m => owns_dat r m
/-- a def's names at its entry: the arguments, the rest unset -/
abbrev en0 (N : List Str) (n : Nat) (ds : List D) : En := ds.map Sl.dat ++ List.replicate (N.length - n) .no
theorem sta_start {B : Bs} {G H : Hp} {vs : List V} {ds : List D} {N : List Str} {n : Nat} (S : Sta K T B G [] [] H) (ra : RpA K G vs ds) (hn : ds.length = n) : Sta K T B G (en0 N n ds) (L2.start N vs) H where
  g := S.g
  h := S.h
  s := S.s
  n := S.n
  sl := by
    unfold L2.start
    rw [ra.length, hn]
    exact paired_app (paired_dat ra) (paired_rep trivial _)
  nd := by
    rw [owns_dat]
    exact List.nodup_nil
  tb := S.tb
  tn := S.tn
theorem RsR.forget {B : Bs} {G H : Hp} {ρ ρ' : En} {v : V} {r : Rs} (h : RsR K B G ρ H v r) (ho : ∀ p, p ∈ owns ρ' → p ∈ owns ρ) : RsR K B G ρ' H v r := by
  cases r with
  | dat d => exact h
  | new xs =>
    obtain ⟨p, e, N⟩ := h
    exact ⟨p, e, N.at_, N.g, N.b, fun z => N.o (ho p z)⟩
  | exc C => exact h
theorem ends_of {X : Cx} {W : WX} {B : Bs} {G H : Hp} {ρ ρ0 : En} {σ σ0 : L2.St} {r : Rs} {Q : VK} {E : XK} {st : List Stmt} {P : Out → Prop} (h : ESs X T W st ρ P) (hK : X.K = K) (S : Sta K T B G ρ σ H)
    (hn : ∀ ρ', P (.nx ρ') → r = .dat .non) (ht : ∀ ρ' r', P (.rt ρ' r') → r' = r) (hb : ∀ ρ', ¬ P (.bk ρ')) (hc : ∀ ρ', ¬ P (.ct ρ')) (hx : ∀ ρ' C, P (.ex ρ' C) → r = .exc C ∧ ∀ σ' H', E (.ref C) none H' → W (.ref C) none σ' H')
    (em : ∀ (o : Out) (ρ' : En), P o → (o = .nx ρ' ∨ (∃ r, o = .rt ρ' r) ∨ ∃ C, o = .ex ρ' C) → ∀ G' H' σ', Sta K T B G' ρ' σ' H' → Sta K T B G' ρ0 σ0 H' ∧ ∀ p, p ∈ owns ρ0 → p ∈ owns ρ')
    (q : ∀ G' H', Same G G' → Sta K T B G' ρ0 σ0 H' → (∀ v, RsR K B G' ρ0 H' v r → Q v H') ∧ ∀ C, r = .exc C → E (.ref C) none H') : ∃ t, PSs X st t ∧ t { nx := fun _ H' => Q .non H', rt := Q } σ H := by
  subst hK
  refine ⟨_, h, B, G, S, fun ρ' σ' G' H' hp g S' => ?_, fun ρ' r' v σ' G' H' hp g S' R => ?_, fun ρ' _ _ _ hp => (hb ρ' hp).elim, fun ρ' _ _ _ hp => (hc ρ' hp).elim, fun ρ' C σ' G' H' hp g S' => ?_⟩
  · have e := hn ρ' hp
    subst e
    exact (q G' H' g (em _ _ hp (.inl rfl) _ _ _ S').1).1 .non .non
  · have e := ht ρ' r' hp
    subst e
    obtain ⟨S2, ho⟩ := em _ _ hp (.inr (.inl ⟨_, rfl⟩)) _ _ _ S'
    exact (q G' H' g S2).1 v (R.forget ho)
  · obtain ⟨e, hW⟩ := hx ρ' C hp
    exact hW σ' H' ((q G' H' g (em _ _ hp (.inr (.inr ⟨_, rfl⟩)) _ _ _ S').1).2 C e)
theorem Sta.bare {B : Bs} {G H : Hp} {ρ : En} {σ : L2.St} (S : Sta K T B G ρ σ H) : Sta K T B G [] [] H := ⟨S.g, S.h, S.s, S.n, .nil, List.nodup_nil, S.tb, S.tn⟩
theorem Sta.one {B : Bs} {G H : Hp} {ρ : En} {σ : L2.St} (S : Sta K T B G ρ σ H) {i : Nat} {p : Addr} {c : Cl} (e : ρ[i]? = some (.own p c)) : Sta K T B G [.own p c] [some (.ref p)] H :=
  ⟨S.g, S.h, S.s, S.n, .cons ⟨rfl, (S.own e).2⟩ .nil, by simp [owns], S.tb, S.tn⟩
/-- a def that raises nothing -/
theorem fn_pure {x qual : Str} {st : Stmt} {f : Addr} {fd : FuncData} {N ps : List Str} {k : Nat} {R : List D → Rs → Prop} (F : L2.Fun K x qual st f fd) (S : FnScope N ps (defScope st)) (hl : ∀ ds r, R ds r → ds.length = ps.length)
    (hb : ∀ (cdv : Value) (A : Around) (outer : List Env) (s : Shared) (H : Hp) (E : XK), Room k (A.deeper (envOfC qual (defScope st) s.heap.objs.size f cdv)) → ∀ ds r, R ds r →
      ESs (cxOf CX0 P w K mg base N qual (defScope st) f cdv A outer s H E).nox T W0 (defBody st) (en0 N ps.length ds) (Ret r)) : FnOk P w K mg base CX0 (k + 1) f fd ps (spP K T R) := by
  refine F.ok S (fun vs H Q E h => ?_) (fun cdv A outer s H vs Q E hr h => ?_)
  · obtain ⟨B, G, ds, r, _, ra, hR, _⟩ := h
    rw [ra.length]
    exact hl ds r hR
  · obtain ⟨B, G, ds, r, S0, ra, hR, q⟩ := h
    exact ends_of (hb cdv A outer s H E hr ds r hR) rfl (sta_start S0 ra (hl ds r hR)) (fun _ h => h) (fun _ _ h => h) (fun _ h => h) (fun _ h => h) (fun _ _ h => h.elim) (fun _ _ _ _ _ _ _ S' => ⟨S'.bare, fun _ z => nomatch z⟩) q
/-- a def that may raise -/
theorem fn_pureX {x qual : Str} {st : Stmt} {f : Addr} {fd : FuncData} {N ps : List Str} {k : Nat} {R : List D → Rs → Prop} (F : L2.Fun K x qual st f fd) (S : FnScope N ps (defScope st)) (hl : ∀ ds r, R ds r → ds.length = ps.length)
    (hb : ∀ (cdv : Value) (A : Around) (outer : List Env) (s : Shared) (H : Hp) (E : XK), Room k (A.deeper (envOfC qual (defScope st) s.heap.objs.size f cdv)) → ∀ ds r, R ds r →
      ESs (cxOf (L2N.CX P w) P w K mg base N qual (defScope st) f cdv A outer s H E) T (WE0 E) (defBody st) (en0 N ps.length ds) (RetX r)) : FnOk P w K mg base (L2N.CX P w) (k + 1) f fd ps (spP K T R) := by
  obtain ⟨oc, od, kV, doc, pm, an, cdv, ct, osl, rfl, lk, hcd⟩ := F.ex
  refine fn_of lk hcd S (fun vs H Q E h => ?_) (fun A outer s H vs Q E hr h => ?_)
  · obtain ⟨B, G, ds, r, _, ra, hR, _⟩ := h
    rw [ra.length]
    exact hl ds r hR
  · obtain ⟨B, G, ds, r, S0, ra, hR, q⟩ := h
    exact ends_of (hb cdv A outer s H E hr ds r hR) rfl (sta_start S0 ra (hl ds r hR)) (fun _ h => h) (fun _ _ h => h) (fun _ h => h) (fun _ h => h) (fun _ _ h => ⟨h, fun _ _ z => z⟩) (fun _ _ _ _ _ _ _ S' => ⟨S'.bare, fun _ z => nomatch z⟩) q
/-- the names of a def that gets one thing of the caller's own at place j -/
theorem sta_startO {B : Bs} {G H : Hp} {vs : List V} {ds : List D} {N : List Str} {n j : Nat} {p : Addr} {c : Cl} (S : Sta K T B G [.own p c] [some (.ref p)] H) (ra : RpA K G vs ds) (hn : ds.length = n) (hj : ds[j]? = some (.raw (.ref p))) :
    Sta K T B G ((en0 N n ds).set j (.own p c)) (L2.start N vs) H := by
  have S1 := sta_start (N := N) S.bare ra hn
  obtain ⟨_, a1, a2, a3, a4⟩ := S.own (i := 0) rfl
  obtain ⟨v, hv, rv⟩ := ra.get hj
  have ev := rv.raw_inv
  subst ev
  have S2 := S1.setOwn j a1 a2 a3 a4 (by rw [owns_dat]; exact fun z => nomatch z)
  have e : (L2.start N vs).set j (some (.ref p)) = L2.start N vs := by
    have hjl : j < vs.length := (List.getElem?_eq_some_iff.mp hv).1
    apply List.ext_getElem?
    intro i
    by_cases hi : j = i
    · subst hi
      rw [List.getElem?_set_self (by unfold L2.start; rw [List.length_append, List.length_map]; omega)]
      unfold L2.start
      rw [List.getElem?_append_left (by rw [List.length_map]; exact hjl), List.getElem?_map, hv]
      rfl
    · rw [List.getElem?_set_ne hi]
  rw [e] at S2
  exact S2
theorem fn_own {x qual : Str} {st : Stmt} {f : Addr} {fd : FuncData} {N ps : List Str} {k : Nat} (j : Nat) {R : Addr → List D → Cl → Cl → Rs → Prop} (F : L2.Fun K x qual st f fd) (S : FnScope N ps (defScope st)) (hl : ∀ p ds c c' r, R p ds c c' r → ds.length = ps.length ∧ ds[j]? = some (.raw (.ref p)))
    (hb : ∀ (cdv : Value) (A : Around) (outer : List Env) (s : Shared) (H : Hp) (E : XK), Room k (A.deeper (envOfC qual (defScope st) s.heap.objs.size f cdv)) → ∀ p ds c c' r, R p ds c c' r →
      ESs (cxOf CX0 P w K mg base N qual (defScope st) f cdv A outer s H E).nox T W0 (defBody st) ((en0 N ps.length ds).set j (.own p c)) (RetO p c' r)) : FnOk P w K mg base CX0 (k + 1) f fd ps (spO K T R) := by
  refine F.ok S (fun vs H Q E h => ?_) (fun cdv A outer s H vs Q E hr h => ?_)
  · obtain ⟨B, G, ds, p, c, c', r, _, ra, hR, _⟩ := h
    rw [ra.length]
    exact (hl p ds c c' r hR).1
  · obtain ⟨B, G, ds, p, c, c', r, S0, ra, hR, q⟩ := h
    refine ends_of (hb cdv A outer s H E hr p ds c c' r hR) rfl (sta_startO S0 ra (hl p ds c c' r hR).1 (hl p ds c c' r hR).2) (fun _ h => h.1) (fun _ _ h => h.1) (fun _ h => h) (fun _ h => h) (fun _ _ h => h.elim) (fun o ρ' hP ho _ _ _ S' => ?_) q
    have : ∃ i : Nat, ρ'[i]? = some (.own p c') := by
      rcases ho with e | ⟨_, e⟩ | ⟨_, e⟩ <;> subst e
      · exact hP.2
      · exact hP.2
      · exact hP.elim
    obtain ⟨i, hi⟩ := this
    refine ⟨S'.one hi, fun a ha => ?_⟩
    have ea : a = p := by simpa [owns] using ha
    rw [ea]
    exact mem_owns.mpr ⟨c', List.mem_of_getElem? hi⟩
end
end DL
set_option Elab.async false
set_option linter.all false
set_option maxRecDepth 100000
set_option maxHeartbeats 2000000
namespace DL
open PySem PySem.Spec PyProof.Rows L2
/-! ### data of the plain kind as the library's -/
mutual
def toP : D → PyData
  | .non => .none
  | .bl b => .bool b
  | .int i => .int i
  | .str x => .str x
  | .tup xs => .tuple (toPs xs)
  | .lst xs => .list (toPs xs)
  | .dct _ => .none
  | .raw _ => .none
def toPs : List D → List PyData
  | [] => []
  | d :: r => toP d :: toPs r
end
mutual
/-- no dict, no raw value, texts that can be, not nested deeper than n -/
def flat : Nat → D → Bool
  | _, .non => true
  | _, .bl _ => true
  | _, .int _ => true
  | _, .str x => PyData.canLay0 (.str x)
  | n, .tup xs => match n with | 0 => false | n + 1 => flats n xs
  | n, .lst xs => match n with | 0 => false | n + 1 => flats n xs
  | _, .dct _ => false
  | _, .raw _ => false
def flats : Nat → List D → Bool
  | _, [] => true
  | n, d :: r => flat n d && flats n r
end
mutual
theorem Rp.dp {K : PySem.W.Frag} {G H : Hp} (s : Same G H) : ∀ {v : V} {d : D} {n : Nat}, Rp K G v d → flat n d = true → Dp K H v (toP d)
  | _, _, _, .non, _ => .non
  | _, _, _, .bl b, _ => .bl b
  | _, _, _, .int i, _ => .int i
  | _, _, _, .str x, _ => .str x
  | _, _, _, .raw v, h => nomatch h
  | _, _, 0, .tup _ _, h => nomatch h
  | _, _, n + 1, .tup h r, f => .tup (.inl (.inl (s _ _ h))) (RpA.dp (n := n) s r f)
  | _, _, 0, .lst _ _, h => nomatch h
  | _, _, n + 1, .lst h r, f => .lst (.inl (.inl (s _ _ h))) (RpA.dp (n := n) s r f)
  | _, _, _, .dct _ _, h => nomatch h
theorem RpA.dp {K : PySem.W.Frag} {G H : Hp} (s : Same G H) : ∀ {vs : List V} {ds : List D} {n : Nat}, RpA K G vs ds → flats n ds = true → DpAll K H vs (toPs ds)
  | _, _, _, .nil, _ => .nil
  | _, _, n, .cons h r, f => by
    have f' := Bool.and_eq_true_iff.mp f
    exact .cons (Rp.dp (n := n) s h f'.1) (RpA.dp (n := n) s r f'.2)
end
mutual
theorem flat_lay : ∀ (n : Nat) (d : D), flat n d = true → PyData.canLay0 (toP d) = true ∧ PyData.depth (toP d) ≤ n
  | _, .non, _ => ⟨rfl, Nat.zero_le _⟩
  | _, .bl _, _ => ⟨rfl, Nat.zero_le _⟩
  | _, .int _, _ => ⟨rfl, Nat.zero_le _⟩
  | _, .str x, h => ⟨h, Nat.zero_le _⟩
  | 0, .tup _, h => nomatch h
  | n + 1, .tup xs, h => by
    have q := flats_lay n xs h
    exact ⟨q.1, Nat.succ_le_succ q.2⟩
  | 0, .lst _, h => nomatch h
  | n + 1, .lst xs, h => by
    have q := flats_lay n xs h
    exact ⟨q.1, Nat.succ_le_succ q.2⟩
  | _, .dct _, h => nomatch h
  | _, .raw _, h => nomatch h
theorem flats_lay : ∀ (n : Nat) (ds : List D), flats n ds = true → PyData.canLayAll0 (toPs ds) = true ∧ PyData.depthAll (toPs ds) ≤ n
  | _, [], _ => ⟨rfl, Nat.zero_le _⟩
  | n, d :: r, h => by
    have f' := Bool.and_eq_true_iff.mp h
    have a := flat_lay n d f'.1
    have b := flats_lay n r f'.2
    exact ⟨Bool.and_eq_true_iff.mpr ⟨a.1, b.1⟩, Nat.max_le.mpr ⟨a.2, b.2⟩⟩
end
theorem flat_shaped {n : Nat} {d : D} (h : flat n d = true) (hn : n ≤ 64) : SeqAt.shaped (toP d) = true := by
  obtain ⟨a, b⟩ := flat_lay n d h
  exact Bool.and_eq_true_iff.mpr ⟨a, decide_eq_true (Nat.le_trans b hn)⟩
/-- == of data -/
def eqv (d e : D) : Bool := PyData.eqv (toP d) (toP e)
def eqvs (ds es : List D) : Bool := PyData.eqvAll (toPs ds) (toPs es)
theorem eqv_tup (xs ys : List D) : eqv (.tup xs) (.tup ys) = eqvs xs ys := rfl
theorem eqv_lst (xs ys : List D) : eqv (.lst xs) (.lst ys) = eqvs xs ys := rfl
theorem eqv_int (i j : Int) : eqv (.int i) (.int j) = decide (i = j) := (Bool.beq_eq_decide_eq i j)
theorem eqv_bl (i j : Bool) : eqv (.bl i) (.bl j) = (i == j) := rfl
theorem eqv_str (i j : Str) : eqv (.str i) (.str j) = (i == j) := rfl
theorem eqvs_nil : eqvs [] [] = true := rfl
theorem eqvs_cons (d e : D) (ds es : List D) : eqvs (d :: ds) (e :: es) = (eqv d e && eqvs ds es) := rfl
theorem eqvs_nc (d : D) (ds : List D) : eqvs [] (d :: ds) = false := rfl
theorem eqvs_cn (d : D) (ds : List D) : eqvs (d :: ds) [] = false := rfl
/-- two lists of one kind of things -/
theorem eqvs_map {α : Type} {enc : α → D} {p : α → α → Bool} (h : ∀ a b, eqv (enc a) (enc b) = p a b) : ∀ xs ys : List α, eqvs (xs.map enc) (ys.map enc) = (xs.length == ys.length && (xs.zip ys).all fun z => p z.1 z.2)
  | [], [] => rfl
  | [], _ :: _ => rfl
  | _ :: _, [] => rfl
  | x :: xs, y :: ys => by
    rw [List.map_cons, List.map_cons, eqvs_cons, h, eqvs_map h xs ys]
    simp only [List.length_cons, List.zip_cons_cons, List.all_cons]
    have e : (xs.length + 1 == ys.length + 1) = (xs.length == ys.length) := by
      rw [Bool.eq_iff_iff]
      simp
    rw [e]
    cases p x y <;> simp
theorem eqvs_dec {α : Type} [DecidableEq α] {enc : α → D} (h : ∀ a b, eqv (enc a) (enc b) = decide (a = b)) : ∀ xs ys : List α, eqvs (xs.map enc) (ys.map enc) = decide (xs = ys)
  | [], [] => rfl
  | [], y :: ys => by simp [eqvs_nc]
  | x :: xs, [] => by simp [eqvs_cn]
  | x :: xs, y :: ys => by
    rw [List.map_cons, List.map_cons, eqvs_cons, h, eqvs_dec h xs ys, Bool.eq_iff_iff]
    simp
theorem flats_map {α : Type} {enc : α → D} {n : Nat} (h : ∀ a, flat n (enc a) = true) : ∀ xs : List α, flats n (xs.map enc) = true
  | [] => rfl
  | x :: xs => by
    show (flat n (enc x) && flats n (xs.map enc)) = true
    rw [h, flats_map h xs]
    rfl
theorem flats_of {n : Nat} : ∀ {ds : List D}, (∀ d ∈ ds, flat n d = true) → flats n ds = true
  | [], _ => rfl
  | d :: r, h => by
    show (flat n d && flats n r) = true
    rw [h d List.mem_cons_self, flats_of fun e he => h e (List.mem_cons_of_mem _ he)]
    rfl
mutual
theorem flat_mono : ∀ {n m : Nat} (d : D), n ≤ m → flat n d = true → flat m d = true
  | _, _, .non, _, _ => rfl
  | _, _, .bl _, _, _ => rfl
  | _, _, .int _, _, _ => rfl
  | _, _, .str x, _, h => h
  | 0, _, .tup _, _, h => nomatch h
  | n + 1, 0, .tup xs, hm, h => absurd hm (by omega)
  | n + 1, m + 1, .tup xs, hm, h => flats_mono (n := n) (m := m) xs (by omega) h
  | 0, _, .lst _, _, h => nomatch h
  | n + 1, 0, .lst xs, hm, h => absurd hm (by omega)
  | n + 1, m + 1, .lst xs, hm, h => flats_mono (n := n) (m := m) xs (by omega) h
  | _, _, .dct _, _, h => nomatch h
  | _, _, .raw _, _, h => nomatch h
theorem flats_mono : ∀ {n m : Nat} (ds : List D), n ≤ m → flats n ds = true → flats m ds = true
  | _, _, [], _, _ => rfl
  | _, _, d :: r, hm, h => by
    have f' := Bool.and_eq_true_iff.mp h
    exact Bool.and_eq_true_iff.mpr ⟨flat_mono d hm f'.1, flats_mono r hm f'.2⟩
end
/-! ### the operators -/
section
variable {K : PySem.W.Frag} {i j : Int} {a b d e : D} {xs ys : List D}
theorem rr_I0 {g : Int → Int → V} : RR K (rI0 g) (.int i) (.int j) (DL.dv (g i j)) := fun G H x y Q rx ry s q => ⟨i, j, rx.int_inv, ry.int_inv, q _ G H (.refl s) (.dv _)⟩
theorem rr_I {C : Int → Int → Prop} {g : Int → Int → V} (hc : C i j) : RR K (rI C g) (.int i) (.int j) (DL.dv (g i j)) := fun G H x y Q rx ry s q => ⟨i, j, rx.int_inv, ry.int_inv, hc, q _ G H (.refl s) (.dv _)⟩
theorem ru_I {g : Int → V} : RU K (rU g) (.int i) (DL.dv (g i)) := fun G H x Q rx s q => ⟨i, rx.int_inv, q _ G H (.refl s) (.dv _)⟩
/-- == of scalars -/
theorem rr_eqS {x y : V} (h : scal x y = true) (hx : ∀ {K G v}, Rp K G v (DL.dv x) → v = x) (hy : ∀ {K G v}, Rp K G v (DL.dv y) → v = y) : RR K rEq (DL.dv x) (DL.dv y) (.bl (decide (x = y))) := fun G H u v Q rx ry s q => by
  have e1 := hx rx
  have e2 := hy ry
  subst e1 e2
  exact ⟨h, q _ G H (.refl s) (.bl _)⟩
theorem rr_eqI : RR K rEq (.int i) (.int j) (.bl (decide (i = j))) := fun G H u v Q rx ry s q => by
  rw [rx.int_inv, ry.int_inv]
  refine ⟨rfl, ?_⟩
  rw [dec_int, Bool.beq_eq_decide_eq]
  exact q _ G H (.refl s) (.bl _)
theorem rr_neI : RR K rNe (.int i) (.int j) (.bl (!decide (i = j))) := fun G H u v Q rx ry s q => by
  rw [rx.int_inv, ry.int_inv]
  refine ⟨rfl, ?_⟩
  rw [dec_int, Bool.beq_eq_decide_eq]
  exact q _ G H (.refl s) (.bl _)
theorem rr_eqB {k l : Bool} : RR K rEq (.bl k) (.bl l) (.bl (k == l)) := fun G H u v Q rx ry s q => by
  rw [rx.bl_inv, ry.bl_inv]
  refine ⟨rfl, ?_⟩
  rw [dec_bl]
  exact q _ G H (.refl s) (.bl _)
theorem rr_eqT {k l : Str} : RR K rEq (.str k) (.str l) (.bl (k == l)) := fun G H u v Q rx ry s q => by
  rw [rx.str_inv, ry.str_inv]
  refine ⟨rfl, ?_⟩
  rw [dec_str]
  exact q _ G H (.refl s) (.bl _)
theorem rr_neT {k l : Str} : RR K rNe (.str k) (.str l) (.bl (!(k == l))) := fun G H u v Q rx ry s q => by
  rw [rx.str_inv, ry.str_inv]
  refine ⟨rfl, ?_⟩
  rw [dec_str]
  exact q _ G H (.refl s) (.bl _)
/-- == of data at any depth -/
theorem rr_eqD {n m : Nat} (hd : flat n d = true) (he : flat m e = true) (hn : n ≤ 64 := by decide) (hm : m ≤ 64 := by decide) : RR K (rEqD K) d e (.bl (eqv d e)) := fun G H u v Q rx ry s q => ⟨_, _, rx.dp s hd, ry.dp s he, flat_shaped hd hn, flat_shaped he hm, q _ G H (.refl s) (.bl _)⟩
theorem rr_neD {n m : Nat} (hd : flat n d = true) (he : flat m e = true) (hn : n ≤ 64 := by decide) (hm : m ≤ 64 := by decide) : RR K (rNeD K) d e (.bl (!eqv d e)) := fun G H u v Q rx ry s q => ⟨_, _, rx.dp s hd, ry.dp s he, flat_shaped hd hn, flat_shaped he hm, q _ G H (.refl s) (.bl _)⟩
/-- in a list of data -/
theorem toPs_any (d : D) : ∀ xs : List D, (toPs xs).any (fun z => PyData.eqv z (toP d)) = xs.any fun z => eqv z d
  | [] => rfl
  | x :: xs => by
    show (PyData.eqv (toP x) (toP d) || (toPs xs).any _) = _
    rw [toPs_any d xs]
    rfl
theorem rr_inD {n m : Nat} (hd : flat n d = true) (he : flats m xs = true) (hn : n ≤ 64 := by decide) (hm : m < 64 := by decide) : RR K (rInD K) d (.lst xs) (.bl (xs.any fun z => eqv z d)) := fun G H u v Q rx ry s q => by
  have he' : flat (m + 1) (.lst xs) = true := he
  refine ⟨_, _, rx.dp s hd, ry.dp s he', flat_shaped hd hn, flat_shaped he' hm, ?_⟩
  rw [toPs_any]
  exact q _ G H (.refl s) (.bl _)
theorem rr_ninD {n m : Nat} (hd : flat n d = true) (he : flats m xs = true) (hn : n ≤ 64 := by decide) (hm : m < 64 := by decide) : RR K (rNotInD K) d (.lst xs) (.bl (!xs.any fun z => eqv z d)) := fun G H u v Q rx ry s q => by
  have he' : flat (m + 1) (.lst xs) = true := he
  refine ⟨_, _, rx.dp s hd, ry.dp s he', flat_shaped hd hn, flat_shaped he' hm, ?_⟩
  rw [toPs_any]
  exact q _ G H (.refl s) (.bl _)
/-- in a flat list or tuple of ints, of texts -/
theorem inV_ints (i : Int) : ∀ ns : List Int, inV (.int i) (ns.map V.int) = decide (i ∈ ns)
  | [] => rfl
  | n :: r => by
    show (eqV (.int n) (.int i) || inV (.int i) (r.map V.int)) = _
    rw [inV_ints i r]
    have e : eqV (.int n) (.int i) = decide (i = n) := by
      show (n == i) = _
      rw [Bool.beq_eq_decide_eq, Bool.eq_iff_iff]
      simp only [decide_eq_true_eq]
      exact eq_comm
    rw [e, Bool.eq_iff_iff]
    simp
theorem inV_strs (x : Str) : ∀ ns : List Str, inV (.str x) (ns.map V.str) = ns.any fun y => y == x
  | [] => rfl
  | n :: r => by
    show (eqV (.str n) (.str x) || inV (.str x) (r.map V.str)) = _
    rw [inV_strs x r]
    rfl
theorem flat_ints (ns : List Int) : (ns.map V.int).all flatV = true := by simp [List.all_eq_true, flatV]
theorem flat_strs (ns : List Str) : (ns.map V.str).all flatV = true := by simp [List.all_eq_true, flatV]
theorem rr_inI {ns : List Int} (hd : d = .lst (ns.map D.int) ∨ d = .tup (ns.map D.int)) : RR K (rIn K false) (.int i) d (.bl (decide (i ∈ ns))) := fun G H u v Q rx ry s q => by
  rw [rx.int_inv]
  rcases hd with e | e <;> subst e
  · obtain ⟨p, vs, rfl, h, r⟩ := ry.lst_inv
    rw [r.ints] at h
    refine ⟨p, _, rfl, .inl (.inl (.inl (s _ _ h))), rfl, flat_ints ns, ?_⟩
    show Q (.bl (inV (.int i) (ns.map V.int))) H
    rw [inV_ints]
    exact q _ G H (.refl s) (.bl _)
  · obtain ⟨p, vs, rfl, h, r⟩ := ry.tup_inv
    rw [r.ints] at h
    refine ⟨p, _, rfl, .inr (sqT_mono s h), rfl, flat_ints ns, ?_⟩
    show Q (.bl (inV (.int i) (ns.map V.int))) H
    rw [inV_ints]
    exact q _ G H (.refl s) (.bl _)
theorem rr_ninI {ns : List Int} (hd : d = .lst (ns.map D.int) ∨ d = .tup (ns.map D.int)) : RR K (rIn K true) (.int i) d (.bl (!decide (i ∈ ns))) := fun G H u v Q rx ry s q => by
  rw [rx.int_inv]
  rcases hd with e | e <;> subst e
  · obtain ⟨p, vs, rfl, h, r⟩ := ry.lst_inv
    rw [r.ints] at h
    refine ⟨p, _, rfl, .inl (.inl (.inl (s _ _ h))), rfl, flat_ints ns, ?_⟩
    show Q (.bl (!inV (.int i) (ns.map V.int))) H
    rw [inV_ints]
    exact q _ G H (.refl s) (.bl _)
  · obtain ⟨p, vs, rfl, h, r⟩ := ry.tup_inv
    rw [r.ints] at h
    refine ⟨p, _, rfl, .inr (sqT_mono s h), rfl, flat_ints ns, ?_⟩
    show Q (.bl (!inV (.int i) (ns.map V.int))) H
    rw [inV_ints]
    exact q _ G H (.refl s) (.bl _)
theorem rr_inT {x : Str} {ns : List Str} : RR K (rIn K false) (.str x) (.tup (ns.map D.str)) (.bl (ns.any fun y => y == x)) := fun G H u v Q rx ry s q => by
  rw [rx.str_inv]
  obtain ⟨p, vs, rfl, h, r⟩ := ry.tup_inv
  rw [r.strs] at h
  refine ⟨p, _, rfl, .inr (sqT_mono s h), rfl, flat_strs ns, ?_⟩
  show Q (.bl (inV (.str x) (ns.map V.str))) H
  rw [inV_strs]
  exact q _ G H (.refl s) (.bl _)
/-- sums and multiples of lists and tuples -/
theorem rr_cat (hl : xs.length + ys.length ≤ sizeLine) : RR K rCat (.lst xs) (.lst ys) (.lst (xs ++ ys)) := fun G H u v Q rx ry s q => by
  obtain ⟨p, vs, rfl, h, r⟩ := rx.lst_inv
  obtain ⟨p2, ws, rfl, h2, r2⟩ := ry.lst_inv
  refine ⟨p, p2, vs, ws, rfl, rfl, s _ _ h, s _ _ h2, by rw [r.length, r2.length]; exact hl, fun l hn => ?_⟩
  have g := Grow.new (o := .lst (vs ++ ws)) s hn
  exact q _ _ _ g (.lst upd_same ((r.append r2).mono g.g))
theorem rr_catT (hl : xs.length + ys.length ≤ sizeLine) : RR K (rCatA K) (.tup xs) (.tup ys) (.tup (xs ++ ys)) := fun G H u v Q rx ry s q => by
  obtain ⟨p, vs, rfl, h, r⟩ := id rx.tup_inv
  obtain ⟨p2, ws, rfl, h2, r2⟩ := id ry.tup_inv
  refine ⟨p, p2, vs, ws, rfl, rfl, sqT_mono s h, sqT_mono s h2, by rw [r.length, r2.length]; exact hl, fun e => ?_, fun _ e => ?_, fun _ _ l hn => ?_⟩
  · subst e
    cases r
    exact q _ G H (.refl s) ry
  · subst e
    cases r2
    rw [List.append_nil] at q
    exact q _ G H (.refl s) rx
  · have g := Grow.new (o := .tup (vs ++ ws)) s hn
    exact q _ _ _ g (.tup upd_same ((r.append r2).mono g.g))
theorem rr_rep {k : Int} (h1 : -(2 ^ 63) ≤ k) (h2 : k < 2 ^ 63) (hl : xs.length * k.toNat ≤ sizeLine) : RR K rRep (.lst xs) (.int k) (.lst (List.replicate k.toNat xs).flatten) := fun G H u v Q rx ry s q => by
  obtain ⟨p, vs, rfl, h, r⟩ := rx.lst_inv
  rw [ry.int_inv]
  refine ⟨p, k, vs, rfl, rfl, s _ _ h, h1, h2, by rw [r.length]; exact hl, fun l hn => ?_⟩
  have g := Grow.new (o := .lst (List.replicate k.toNat vs).flatten) s hn
  exact q _ _ _ g (.lst upd_same ((r.rep _).mono g.g))
theorem rr_repT {k : Int} (h0 : xs ≠ []) (h1 : 2 ≤ k) (h2 : k ≤ 1000) (hl : xs.length ≤ 1000) : RR K (rRepT K) (.tup xs) (.int k) (.tup (List.replicate k.toNat xs).flatten) := fun G H u v Q rx ry s q => by
  obtain ⟨p, vs, rfl, h, r⟩ := rx.tup_inv
  rw [ry.int_inv]
  refine ⟨p, k, vs, rfl, rfl, sqT_mono s h, fun e => ?_, h1, h2, by rw [r.length]; exact hl, fun l hn => ?_⟩
  · subst e
    cases r
    exact h0 rfl
  · have g := Grow.new (o := .tup (List.replicate k.toNat vs).flatten) s hn
    exact q _ _ _ g (.tup upd_same ((r.rep _).mono g.g))
/-- an item -/
theorem atI_rp {G : Hp} {vs : List V} (r : RpA K G vs xs) (h : atI xs i = some d) : ∃ v, atI vs i = some v ∧ Rp K G v d := by
  unfold atI at h ⊢
  rw [r.length]
  cases e : ixN xs.length i with
  | none => rw [e] at h; cases h
  | some j =>
    rw [e] at h
    exact r.get h
theorem rr_ixL (h : atI xs i = some d) : RR K (rIxL K) (.lst xs) (.int i) d := fun G H u v Q rx ry s q => by
  obtain ⟨p, vs, rfl, hp, r⟩ := rx.lst_inv
  obtain ⟨w, hw, rw_⟩ := atI_rp r h
  exact ⟨p, vs, i, w, rfl, ry.int_inv, .inl (.inl (s _ _ hp)), hw, q _ G H (.refl s) rw_⟩
theorem rr_ixT (h : atI xs i = some d) : RR K (rIxT K) (.tup xs) (.int i) d := fun G H u v Q rx ry s q => by
  obtain ⟨p, vs, rfl, hp, r⟩ := rx.tup_inv
  obtain ⟨w, hw, rw_⟩ := atI_rp r h
  exact ⟨p, vs, i, w, rfl, ry.int_inv, sqT_mono s hp, hw, q _ G H (.refl s) rw_⟩
end
/-! ### slices -/
def cut {α : Type} (xs : List α) (lo hi : Option Int) : List α := (xs.drop (HT.sIx xs.length 0 lo)).take (HT.sIx xs.length xs.length hi - HT.sIx xs.length 0 lo)
theorem cut_map {α β : Type} (f : α → β) (xs : List α) (lo hi : Option Int) : cut (xs.map f) lo hi = (cut xs lo hi).map f := by
  unfold cut
  rw [List.length_map, List.map_take, List.map_drop]
theorem RpA.cut {K : PySem.W.Frag} {G : Hp} {vs : List V} {ds : List D} (r : RpA K G vs ds) (lo hi : Option Int) : RpA K G (cutV vs lo hi) (DL.cut ds lo hi) := by
  unfold cutV DL.cut
  rw [r.length]
  exact (r.drop _).take _
def tEO (K : PySem.W.Frag) (T : Tb) (ρ ρ' : En) (o : Option Int) : TO := fun σ H Q => ∃ B G, Sta K T B G ρ σ H ∧ ∀ G' H', Same G G' → Sta K T B G' ρ' σ H' → Q o H'
def EO (X : Cx) (T : Tb) (e : Option Expr) (ρ ρ' : En) (o : Option Int) : Prop := PO X e (tEO X.K T ρ ρ' o)
section
variable {X : Cx} {T : Tb} {ρ ρ1 ρ2 ρ3 : En} {pos p2 : Pos} {e : Expr} {lo hi : Option Expr} {xs : List D} {o o' : Option Int}
theorem po_imp {e : Option Expr} {t t' : TO} (h : PO X e t) (i : ∀ σ H Q, t' σ H Q → t σ H Q) : PO X e t' := ⟨fun pins s σ H Q I w => h.run pins s σ H Q I (i σ H Q w)⟩
theorem eo_none : EO X T none ρ ρ none := po_imp po_none fun σ H Q ⟨B, G, S, q⟩ => q G H (Same.refl _) S
theorem eo_some {i : Int} (h : EX X T e ρ ρ1 (.int i)) : EO X T (some e) ρ ρ1 (some i) := po_imp (po_some h) fun σ H Q ⟨B, G, S, q⟩ => ⟨B, G, S, fun v G1 H1 g1 S1 r1 => ⟨i, r1.int_inv, q G1 H1 g1 S1⟩⟩
theorem ex_sliceL (h : EX X T e ρ ρ1 (.lst xs)) (hl : EO X T lo ρ1 ρ2 o) (hu : EO X T hi ρ2 ρ3 o') : EX X T (.Subscript e (.Slice lo hi none p2) pos) ρ ρ3 (.lst (cut xs o o')) :=
  pe_imp (pe_slice sl_list h hl hu) fun σ H Q ⟨B, G, S, q⟩ => ⟨B, G, S, fun v G1 H1 g1 S1 r1 => ⟨B, G1, S1, fun G2 H2 g2 S2 => ⟨B, G2, S2, fun G3 H3 g3 S3 => by
    obtain ⟨a, vs, rfl, hp, r⟩ := (r1.mono (g2.trans g3)).lst_inv
    refine ⟨a, vs, rfl, .inl (.inl (S3.s _ _ hp)), fun p hn => ?_⟩
    have g := Grow.new (o := .lst (cutV vs o o')) S3.s hn
    exact q _ _ _ (((g1.trans g2).trans g3).trans g.g) (S3.grow g) (.lst upd_same ((r.cut o o').mono g.g))⟩⟩⟩
theorem cut_whole {α : Type} {xs : List α} {o o' : Option Int} (h : HT.sIx xs.length 0 o = 0 ∧ HT.sIx xs.length xs.length o' = xs.length) : cut xs o o' = xs := by
  unfold cut
  rw [h.1, h.2, List.drop_zero, Nat.sub_zero, List.take_length]
theorem ex_sliceT (h : EX X T e ρ ρ1 (.tup xs)) (hl : EO X T lo ρ1 ρ2 o) (hu : EO X T hi ρ2 ρ3 o') : EX X T (.Subscript e (.Slice lo hi none p2) pos) ρ ρ3 (.tup (cut xs o o')) :=
  pe_imp (pe_slice sl_tupA h hl hu) fun σ H Q ⟨B, G, S, q⟩ => ⟨B, G, S, fun v G1 H1 g1 S1 r1 => ⟨B, G1, S1, fun G2 H2 g2 S2 => ⟨B, G2, S2, fun G3 H3 g3 S3 => by
    have r1' := r1.mono (g2.trans g3)
    obtain ⟨a, vs, rfl, hp, r⟩ := id r1'.tup_inv
    refine ⟨a, vs, rfl, sqT_mono S3.s hp, fun hw => ?_, fun _ p hn => ?_⟩
    · rw [r.length] at hw
      rw [cut_whole hw] at q
      exact q _ G3 H3 ((g1.trans g2).trans g3) S3 r1'
    · have g := Grow.new (o := .tup (cutV vs o o')) S3.s hn
      exact q _ _ _ (((g1.trans g2).trans g3).trans g.g) (S3.grow g) (.tup upd_same ((r.cut o o').mono g.g))⟩⟩⟩
end
/-! ### built-ins -/
section
variable {K : PySem.W.Frag} {i j : Int} {d e : D} {xs ys : List D}
def rLen (K : PySem.W.Frag) : List V → Hp → VK → Prop := fun xs H Q => ∃ p ys, xs = [.ref p] ∧ (SqL K H p ys ∨ SqT K H p ys) ∧ Q (.int ys.length) H
theorem rc_len (h : d = .lst xs ∨ d = .tup xs) : RC K (rLen K) [d] (.int xs.length) := fun G H vs Q r s q => by
  cases r with
  | cons r0 rn =>
    cases rn
    rcases h with e | e <;> subst e
    · obtain ⟨p, ys, rfl, hp, ra⟩ := r0.lst_inv
      refine ⟨p, ys, rfl, .inl (.inl (.inl (s _ _ hp))), ?_⟩
      rw [ra.length]
      exact q _ G H (.refl s) (.int _)
    · obtain ⟨p, ys, rfl, hp, ra⟩ := r0.tup_inv
      refine ⟨p, ys, rfl, .inr (sqT_mono s hp), ?_⟩
      rw [ra.length]
      exact q _ G H (.refl s) (.int _)
theorem rc_abs : RC K (fun xs H Q => ∃ i, xs = [.int i] ∧ Q (.int (if i < 0 then -i else i)) H) [.int i] (.int (if i < 0 then -i else i)) := fun G H vs Q r s q => by
  have e : vs = [V.int i] := RpA.ints (ns := [i]) r
  exact ⟨i, e, q _ G H (.refl s) (.int _)⟩
theorem rc_max2 : RC K (fun xs H Q => ∃ i j, xs = [.int i, .int j] ∧ Q (.int (if j > i then j else i)) H) [.int i, .int j] (.int (if j > i then j else i)) := fun G H vs Q r s q => by
  have e : vs = [V.int i, V.int j] := RpA.ints (ns := [i, j]) r
  exact ⟨i, j, e, q _ G H (.refl s) (.int _)⟩
theorem rc_min2 : RC K (fun xs H Q => ∃ i j, xs = [.int i, .int j] ∧ Q (.int (if j < i then j else i)) H) [.int i, .int j] (.int (if j < i then j else i)) := fun G H vs Q r s q => by
  have e : vs = [V.int i, V.int j] := RpA.ints (ns := [i, j]) r
  exact ⟨i, j, e, q _ G H (.refl s) (.int _)⟩
theorem rc_int1 : RC K (fun xs H Q => (∃ i, xs = [.int i] ∧ Q (.int i) H) ∨ ∃ k, xs = [.bl k] ∧ Q (.int (if k then 1 else 0)) H) [.int i] (.int i) := fun G H vs Q r s q => by
  have e : vs = [V.int i] := RpA.ints (ns := [i]) r
  exact .inl ⟨i, e, q _ G H (.refl s) (.int _)⟩
theorem rc_all {bs : List Bool} : RC K (rAll K) [.lst (bs.map D.bl)] (.bl (bs.all id)) := fun G H vs Q r s q => by
  cases r with
  | cons r0 rn =>
    cases rn
    obtain ⟨p, ys, rfl, hp, ra⟩ := r0.lst_inv
    rw [ra.bls] at hp
    exact ⟨p, bs, rfl, .inl (.inl (s _ _ hp)), q _ G H (.refl s) (.bl _)⟩
theorem rc_any {bs : List Bool} : RC K (rAny K) [.lst (bs.map D.bl)] (.bl (bs.any id)) := fun G H vs Q r s q => by
  cases r with
  | cons r0 rn =>
    cases rn
    obtain ⟨p, ys, rfl, hp, ra⟩ := r0.lst_inv
    rw [ra.bls] at hp
    exact ⟨p, bs, rfl, .inl (.inl (s _ _ hp)), q _ G H (.refl s) (.bl _)⟩
def rTupOf (K : PySem.W.Frag) : List V → Hp → VK → Prop := fun xs H Q => ∃ p ys, xs = [.ref p] ∧ ((SqL K H p ys ∧ ∀ l, H l = none → Q (.ref l) (upd H l (.tup ys))) ∨ (SqT K H p ys ∧ Q (.ref p) H))
theorem rc_tupL : RC K (rTupOf K) [.lst xs] (.tup xs) := fun G H vs Q r s q => by
  cases r with
  | cons r0 rn =>
    cases rn
    obtain ⟨p, ys, rfl, hp, ra⟩ := r0.lst_inv
    refine ⟨p, ys, rfl, .inl ⟨.inl (.inl (s _ _ hp)), fun l hn => ?_⟩⟩
    have g := Grow.new (o := .tup ys) s hn
    exact q _ _ _ g (.tup upd_same (ra.mono g.g))
def rLstOf (K : PySem.W.Frag) : List V → Hp → VK → Prop := fun xs H Q => ∃ p ys, xs = [.ref p] ∧ (SqL K H p ys ∨ SqT K H p ys) ∧ ∀ l, H l = none → Q (.ref l) (upd H l (.lst ys))
theorem rc_lst (h : d = .lst xs ∨ d = .tup xs) : RC K (rLstOf K) [d] (.lst xs) := fun G H vs Q r s q => by
  cases r with
  | cons r0 rn =>
    cases rn
    rcases h with e | e <;> subst e
    · obtain ⟨p, ys, rfl, hp, ra⟩ := r0.lst_inv
      refine ⟨p, ys, rfl, .inl (.inl (.inl (s _ _ hp))), fun l hn => ?_⟩
      have g := Grow.new (o := .lst ys) s hn
      exact q _ _ _ g (.lst upd_same (ra.mono g.g))
    · obtain ⟨p, ys, rfl, hp, ra⟩ := r0.tup_inv
      refine ⟨p, ys, rfl, .inr (sqT_mono s hp), fun l hn => ?_⟩
      have g := Grow.new (o := .lst ys) s hn
      exact q _ _ _ g (.lst upd_same (ra.mono g.g))
/-- the name of the type of data -/
def tyD : D → Option String
  | .non => some "NoneType"
  | .bl _ => some "bool"
  | .int _ => some "int"
  | .str _ => some "str"
  | .tup _ => some "tuple"
  | .lst _ => some "list"
  | .dct _ => none
  | .raw _ => none
theorem tyD_is {G H : Hp} {v : V} {t : String} (r : Rp K G v d) (s : Same G H) (h : tyD d = some t) : TyX K H v (.type t) := by
  cases r with
  | non => cases h; exact .base .non
  | bl b => cases h; exact .base (.bl b)
  | int i => cases h; exact .base (.int i)
  | str x => cases h; exact .base (.str x)
  | raw v => cases h
  | tup hs ra =>
    cases h
    exact .base (.tup (s _ _ hs))
  | lst hs ra => cases h; exact .base (.lst (s _ _ hs))
  | dct _ _ => cases h
theorem rc_isi {c t : String} {k : Bool} (ht : tyD d = some t) (hk : kitB t c = some k) : RC K (rIsi K) [d, .raw (.ty c)] (.bl k) := fun G H vs Q r s q => by
  cases r with
  | cons r0 rn =>
    cases rn with
    | cons r1 rn =>
      cases rn
      rw [r1.raw_inv]
      exact ⟨_, _, _, _, k, rfl, .ty c, tyD_is r0 s ht, kit_ty hk, q _ G H (.refl s) (.bl _)⟩
end
/-! ### a list of one's own -/
section
variable {X : Cx} {T : Tb} {W : WX} {ρ ρ1 : En} {P : Out → Prop} {p : Addr} {xs xs1 ys : List D} {d : D} {pos apos cpos : Pos} {x : Str} {e : Expr}
/-- x.append(e) -/
theorem es_append (i : Nat) (h0 : ρ[i]? = some (.own p (.lst xs))) (he : EX X T e ρ ρ1 d) (h1 : ρ1[i]? = some (.own p (.lst xs1))) (hz : xs1.length < sizeLine) (hp : P (.nx (ρ1.set i (.own p (.lst (xs1 ++ [d])))))) (hN : X.N[i]? = some x := by rfl)
    (hv : Vis X.env.scope x := by first | exact Or.inl rfl | exact Or.inr (Or.inl rfl) | exact Or.inr (Or.inr rfl)) (hd : (x == ("__debug__" : Str)) = false := by decide) (hcd : (x == ("__classdict__" : Str)) = false := by decide)
    (hbase : attributeBase (.Name x pos) "append" X.env (eval (.Name x pos) X.env) = eval (.Name x pos) X.env := by rfl)
    (hfew : ((backTo cpos (starEach [e] X.env)).all (fun x => !x.1) && (backToKw cpos (keywordEach [] X.env)).all (fun x => x.1.isSome)
      && decide (([e] : List Expr).length + ([] : List Keyword).length + (if ([] : List Keyword).isEmpty then 0 else 1) < 30)) = true := by rfl)
    (hline : (apos.endLine == cpos.line) = true := by rfl) (hs : starEach [e] X.env = (false, eval e X.env) :: starEach [] X.env := by rfl) (hplain : (backTo cpos (starEach [] X.env)).any (·.1) = false := by rfl)
    (hsw : swapsWith (.Call (.Attribute (.Name x pos) "append" apos) [e] [] cpos) none cpos.line X.env = pure false := by rfl) {pos' : Pos} (hpl : pos'.line = cpos.line := by rfl) : ES X T W (.Expr (.Call (.Attribute (.Name x pos) "append" apos) [e] [] cpos) pos') ρ P :=
  ps_imp (ps_expr (pe_bm PySem.F.plainAttrs_list PySem.F.slot_list_append PySem.F.type_list_append mt_append (pe_var hN hv hd hcd) (pa_cons he pa_nil hs) hbase hfew hline hs hplain) (by rw [hpl]; exact hsw)) fun D σ H ⟨B, G, S, pp⟩ => by
    obtain ⟨e1, a1, a2, a3, ⟨vs, a4, a5⟩⟩ := S.own h0
    refine ⟨_, e1, .inl ⟨rfl, _, .inl (.inl a4)⟩, B, G, S, fun v G1 H1 g1 S1 r1 => ?_⟩
    obtain ⟨_, _, _, _, ⟨ws, b4, b5⟩⟩ := S1.own h1
    exact ⟨p, ws, v, rfl, rfl, b4, by rw [b5.length]; exact hz, pp.nx _ _ G1 _ hp g1 (S1.write h1 (b5.snoc r1))⟩
/-- x.extend(e) -/
theorem es_extend (i : Nat) (h0 : ρ[i]? = some (.own p (.lst xs))) (he : EX X T e ρ ρ1 (.lst ys)) (h1 : ρ1[i]? = some (.own p (.lst xs1))) (hz : xs1.length + ys.length ≤ sizeLine) (hp : P (.nx (ρ1.set i (.own p (.lst (xs1 ++ ys)))))) (hN : X.N[i]? = some x := by rfl)
    (hv : Vis X.env.scope x := by first | exact Or.inl rfl | exact Or.inr (Or.inl rfl) | exact Or.inr (Or.inr rfl)) (hd : (x == ("__debug__" : Str)) = false := by decide) (hcd : (x == ("__classdict__" : Str)) = false := by decide)
    (hbase : attributeBase (.Name x pos) "extend" X.env (eval (.Name x pos) X.env) = eval (.Name x pos) X.env := by rfl)
    (hfew : ((backTo cpos (starEach [e] X.env)).all (fun x => !x.1) && (backToKw cpos (keywordEach [] X.env)).all (fun x => x.1.isSome)
      && decide (([e] : List Expr).length + ([] : List Keyword).length + (if ([] : List Keyword).isEmpty then 0 else 1) < 30)) = true := by rfl)
    (hline : (apos.endLine == cpos.line) = true := by rfl) (hs : starEach [e] X.env = (false, eval e X.env) :: starEach [] X.env := by rfl) (hplain : (backTo cpos (starEach [] X.env)).any (·.1) = false := by rfl)
    (hsw : swapsWith (.Call (.Attribute (.Name x pos) "extend" apos) [e] [] cpos) none cpos.line X.env = pure false := by rfl) {pos' : Pos} (hpl : pos'.line = cpos.line := by rfl) : ES X T W (.Expr (.Call (.Attribute (.Name x pos) "extend" apos) [e] [] cpos) pos') ρ P :=
  ps_imp (ps_expr (pe_bm PySem.F.plainAttrs_list PySem.F.slot_list_extend PySem.F.type_list_extend mt_extend (pe_var hN hv hd hcd) (pa_cons he pa_nil hs) hbase hfew hline hs hplain) (by rw [hpl]; exact hsw)) fun D σ H ⟨B, G, S, pp⟩ => by
    obtain ⟨e1, a1, a2, a3, ⟨vs, a4, a5⟩⟩ := S.own h0
    refine ⟨_, e1, .inl ⟨rfl, _, .inl (.inl a4)⟩, B, G, S, fun v G1 H1 g1 S1 r1 => ?_⟩
    obtain ⟨_, _, _, _, ⟨ws, b4, b5⟩⟩ := S1.own h1
    obtain ⟨b, zs, rfl, hb, rb⟩ := r1.lst_inv
    exact ⟨p, b, ws, zs, rfl, rfl, b4, S1.s _ _ hb, by rw [b5.length, rb.length]; exact hz, pp.nx _ _ G1 _ hp g1 (S1.write h1 (b5.append rb))⟩
/-- return x, a list of one's own: it is the caller's from here on -/
theorem es_retOwn (i : Nat) (h0 : ρ[i]? = some (.own p (.lst xs))) (hp : P (.rt (ρ.set i .no) (.new xs))) (hN : X.N[i]? = some x := by rfl)
    (hv : Vis X.env.scope x := by first | exact Or.inl rfl | exact Or.inr (Or.inl rfl) | exact Or.inr (Or.inr rfl)) (hd : (x == ("__debug__" : Str)) = false := by decide) (hcd : (x == ("__classdict__" : Str)) = false := by decide) : ES X T W (.Return (some (.Name x pos)) cpos) ρ P :=
  ps_imp (ps_ret (pe_var hN hv hd hcd)) fun D σ H ⟨B, G, S, pp⟩ => by
    obtain ⟨e1, a1, a2, a3, a4⟩ := S.own h0
    have hil : i < ρ.length := (List.getElem?_eq_some_iff.mp h0).1
    have S0 := S.setNo i (some (.ref p))
    refine ⟨_, e1, pp.rt _ _ _ _ G H hp (Same.refl _) S0 ⟨p, rfl, a4, a1, a2, fun z => ?_⟩⟩
    obtain ⟨c, hc⟩ := mem_owns.mp z
    obtain ⟨j, hj⟩ := List.getElem?_of_mem hc
    have hij : i ≠ j := fun q => by
      subst q
      rw [List.getElem?_set_self hil] at hj
      cases hj
    rw [List.getElem?_set_ne hij] at hj
    exact Sta.write.owns_twice S.nd h0 hj hij
/-- from here on the list is data -/
theorem ess_freeze (i : Nat) {st : List Stmt} (h0 : ρ[i]? = some (.own p (.lst xs))) (h : ESs X T W st (ρ.set i (.dat (.lst xs))) P) : ESs X T W st ρ P :=
  pss_imp h fun D σ H ⟨B, G, S, pp⟩ => by
    obtain ⟨e1, a1, a2, a3, ⟨vs, a4, a5⟩⟩ := S.own h0
    have hil : i < ρ.length := (List.getElem?_eq_some_iff.mp h0).1
    have S0 := S.setNo i (some (.ref p))
    have hno : p ∉ owns (ρ.set i .no) := fun z => by
      obtain ⟨c, hc⟩ := mem_owns.mp z
      obtain ⟨j, hj⟩ := List.getElem?_of_mem hc
      have hij : i ≠ j := fun q => by
        subst q
        rw [List.getElem?_set_self hil] at hj
        cases hj
      rw [List.getElem?_set_ne hij] at hj
      exact Sta.write.owns_twice S.nd h0 hj hij
    have S1 := S0.adopt a4 a1 a2 hno
    have S2 := S1.setDat i (v := .ref p) (d := .lst xs) (.lst upd_same (a5.mono (same_upd a1)))
    have es : (σ.set i (some (V.ref p))).set i (some (V.ref p)) = σ := by
      rw [List.set_set]
      apply List.ext_getElem?
      intro j
      by_cases hj : i = j
      · subst hj
        rw [e1, List.getElem?_set_self (List.getElem?_eq_some_iff.mp e1).1]
      · rw [List.getElem?_set_ne hj]
    rw [es, List.set_set] at S2
    exact ⟨B, _, S2, pp.mono (same_upd a1)⟩
end
end DL
set_option Elab.async false
set_option linter.all false
set_option maxRecDepth 100000
set_option maxHeartbeats 2000000
namespace DL
open PySem PySem.Spec PyProof.Rows L2
/-! ### short forms -/
/-- a module's constant that is an int -/
def CI (mg : Str → Option Value) (x : Str) (i : Int) : Prop := ∃ t, mg x = some (.int i t)
section
variable {X : Cx} {T : Tb} {ρ ρ1 ρ2 ρ3 : En} {pos p : Pos} {x : Str} {i j k : Int} {a b c e : Expr} {es : List Expr} {d : D} {xs : List D}
theorem ex_ci (h : CI X.mg x i) (hg : Gl X x := by rfl) (hdb : (x == ("__debug__" : Str)) = false := by decide) : EX X T (.Name x pos) ρ ρ (.int i) := by
  obtain ⟨t, h⟩ := h
  exact ex_glob (v := .int i) h ⟨t, rfl⟩ rfl hg hdb
/-- the name of a built-in type -/
theorem ex_ty {n : String} (hm : X.mg x = none) (hv : bootBuiltins x = some (.type n)) (hg : Gl X x := by rfl) (hn : x ≠ "__name__" := by decide) (hdb : (x == ("__debug__" : Str)) = false := by decide) : EX X T (.Name x pos) ρ ρ (.raw (.ty n)) :=
  ex_bltn (v := .ty n) hm hv rfl rfl hg hn hdb
theorem ex_add (ha : EX X T a ρ ρ1 (.int i)) (hb : EX X T b ρ1 ρ2 (.int j)) : EX X T (.BinOp a .Add b pos) ρ ρ2 (.int (i + j)) := ex_op op_add ha hb rr_I0
theorem ex_sub (ha : EX X T a ρ ρ1 (.int i)) (hb : EX X T b ρ1 ρ2 (.int j)) : EX X T (.BinOp a .Sub b pos) ρ ρ2 (.int (i - j)) := ex_op op_sub ha hb rr_I0
theorem ex_mul (ha : EX X T a ρ ρ1 (.int i)) (hb : EX X T b ρ1 ρ2 (.int j)) (hc : CMul i j) : EX X T (.BinOp a .Mult b pos) ρ ρ2 (.int (i * j)) := ex_op op_mul ha hb (rr_I hc)
/-- the rest by a positive number -/
theorem ex_mod (ha : EX X T a ρ ρ1 (.int i)) (hb : EX X T b ρ1 ρ2 (.int j)) (hc : 0 < j) : EX X T (.BinOp a .Mod b pos) ρ ρ2 (.int (i % j)) := ex_op op_mod ha hb (rr_I hc)
theorem ex_div (ha : EX X T a ρ ρ1 (.int i)) (hb : EX X T b ρ1 ρ2 (.int j)) (hc : CDiv i j) : EX X T (.BinOp a .FloorDiv b pos) ρ ρ2 (.int (i / j)) := ex_op op_fdiv ha hb (rr_I hc)
theorem ex_pow (ha : EX X T a ρ ρ1 (.int i)) (hb : EX X T b ρ1 ρ2 (.int j)) (hc : CPow i j) : EX X T (.BinOp a .Pow b pos) ρ ρ2 (.int (i ^ j.toNat)) := ex_op op_pow ha hb (rr_I hc)
theorem ex_lt (ha : EX X T a ρ ρ1 (.int i)) (hb : EX X T b ρ1 ρ2 (.int j)) : EX X T (.Compare a [.Lt] [b] pos) ρ ρ2 (.bl (decide (i < j))) := ex_cmp op_lt ha hb rr_I0
theorem ex_le (ha : EX X T a ρ ρ1 (.int i)) (hb : EX X T b ρ1 ρ2 (.int j)) : EX X T (.Compare a [.LtE] [b] pos) ρ ρ2 (.bl (decide (i ≤ j))) := ex_cmp op_le ha hb rr_I0
theorem ex_gt (ha : EX X T a ρ ρ1 (.int i)) (hb : EX X T b ρ1 ρ2 (.int j)) : EX X T (.Compare a [.Gt] [b] pos) ρ ρ2 (.bl (decide (j < i))) := ex_cmp op_gt ha hb rr_I0
theorem ex_ge (ha : EX X T a ρ ρ1 (.int i)) (hb : EX X T b ρ1 ρ2 (.int j)) : EX X T (.Compare a [.GtE] [b] pos) ρ ρ2 (.bl (decide (j ≤ i))) := ex_cmp op_ge ha hb rr_I0
theorem ex_eqI (ha : EX X T a ρ ρ1 (.int i)) (hb : EX X T b ρ1 ρ2 (.int j)) : EX X T (.Compare a [.Eq] [b] pos) ρ ρ2 (.bl (decide (i = j))) := ex_cmp op_eq ha hb rr_eqI
theorem ex_neI (ha : EX X T a ρ ρ1 (.int i)) (hb : EX X T b ρ1 ρ2 (.int j)) : EX X T (.Compare a [.NotEq] [b] pos) ρ ρ2 (.bl (!decide (i = j))) := ex_cmp op_ne ha hb rr_neI
theorem et_lt (ha : EX X T a ρ ρ1 (.int i)) (hb : EX X T b ρ1 ρ2 (.int j)) : ET X T (.Compare a [.Lt] [b] pos) ρ ρ2 (decide (i < j)) := et_cmp op_lt ha hb rr_I0
theorem et_le (ha : EX X T a ρ ρ1 (.int i)) (hb : EX X T b ρ1 ρ2 (.int j)) : ET X T (.Compare a [.LtE] [b] pos) ρ ρ2 (decide (i ≤ j)) := et_cmp op_le ha hb rr_I0
theorem et_gt (ha : EX X T a ρ ρ1 (.int i)) (hb : EX X T b ρ1 ρ2 (.int j)) : ET X T (.Compare a [.Gt] [b] pos) ρ ρ2 (decide (j < i)) := et_cmp op_gt ha hb rr_I0
theorem et_ge (ha : EX X T a ρ ρ1 (.int i)) (hb : EX X T b ρ1 ρ2 (.int j)) : ET X T (.Compare a [.GtE] [b] pos) ρ ρ2 (decide (j ≤ i)) := et_cmp op_ge ha hb rr_I0
theorem et_eqI (ha : EX X T a ρ ρ1 (.int i)) (hb : EX X T b ρ1 ρ2 (.int j)) : ET X T (.Compare a [.Eq] [b] pos) ρ ρ2 (decide (i = j)) := et_cmp op_eq ha hb rr_eqI
theorem et_neI (ha : EX X T a ρ ρ1 (.int i)) (hb : EX X T b ρ1 ρ2 (.int j)) : ET X T (.Compare a [.NotEq] [b] pos) ρ ρ2 (!decide (i = j)) := et_cmp op_ne ha hb rr_neI
/-- a <= b <= c -/
theorem ex_le2 (ha : EX X T a ρ ρ1 (.int i)) (hb : EX X T b ρ1 ρ2 (.int j)) (hc : EX X T c ρ2 ρ2 (.int k)) (hm : lastMarks [.LtE, .LtE] [b, c] = false := by with_unfolding_all rfl) : EX X T (.Compare a [.LtE, .LtE] [b, c] pos) ρ ρ2 (.bl (decide (i ≤ j) && decide (j ≤ k))) := by
  refine ex_chain (k := decide (i ≤ j)) (dc := .int k) op_le op_le ha hb rr_I0 (fun _ => hc) (fun h => ?_) (fun h => ⟨rfl, ?_⟩) hm
  · rw [h]
    exact rr_I0
  · rw [h]
    rfl
theorem et_le2 (ha : EX X T a ρ ρ1 (.int i)) (hb : EX X T b ρ1 ρ2 (.int j)) (hc : EX X T c ρ2 ρ2 (.int k)) (hm : lastMarks [.LtE, .LtE] [b, c] = false := by with_unfolding_all rfl) : ET X T (.Compare a [.LtE, .LtE] [b, c] pos) ρ ρ2 (decide (i ≤ j) && decide (j ≤ k)) :=
  et_chain (k := decide (i ≤ j)) (k' := decide (j ≤ k)) (dc := .int k) op_le op_le ha hb rr_I0 (fun _ => hc) (fun _ => rr_I0) (fun _ => rfl) hm
/-- isinstance(e, T) -/
theorem ex_isi {n t : String} {k : Bool} {y : Str} {p2 p3 : Pos} (hm : X.mg "isinstance" = none) (he : EX X T e ρ ρ1 d) (hy : X.mg y = none) (hv : bootBuiltins y = some (.type n)) (ht : tyD d = some t) (hk : kitB t n = some k) (hg : Gl X "isinstance") (hg2 : Gl X y) (hn : y ≠ "__name__") (hdb : (y == ("__debug__" : Str)) = false)
    (h1 : starEach [e, .Name y p2] X.env = (false, eval e X.env) :: starEach [.Name y p2] X.env) (h2 : starEach [.Name y p2] X.env = (false, eval (.Name y p2) X.env) :: starEach [] X.env) (hpl : (backTo pos (starEach [.Name y p2] X.env)).any (·.1) = false) :
    EX X T (.Call (.Name "isinstance" p) [e, .Name y p2] [] pos) ρ ρ1 (.bl k) :=
  ex_callB call_isi hm (by decide +kernel) (ea_cons he (ea_cons (ex_ty hy hv hg2 hn hdb) ea_nil h2) h1) (rc_isi ht hk) hg (by decide) (by decide) h1 hpl
def isI : D → Bool
  | .int _ => true
  | .bl _ => true
  | _ => false
def isB : D → Bool
  | .bl _ => true
  | _ => false
def isT : D → Bool
  | .tup _ => true
  | _ => false
def isS : D → Bool
  | .str _ => true
  | _ => false
def isL : D → Bool
  | .lst _ => true
  | _ => false
theorem kt_Int {d : D} {t : String} (h : tyD d = some t) : kitB t "int" = some (isI d) := by
  cases d <;> cases h <;> first | exact (show kitB _ _ = some true by decide +kernel) | exact (show kitB _ _ = some false by decide +kernel)
theorem ex_isInt {t : String} {p2 : Pos} (hm : X.mg "isinstance" = none) (he : EX X T e ρ ρ1 d) (hy : X.mg "int" = none) (ht : tyD d = some t) (hg : Gl X "isinstance" := by rfl) (hg2 : Gl X "int" := by rfl)
    (h1 : starEach [e, .Name "int" p2] X.env = (false, eval e X.env) :: starEach [.Name "int" p2] X.env := by rfl) (h2 : starEach [.Name "int" p2] X.env = (false, eval (.Name "int" p2) X.env) :: starEach [] X.env := by rfl) (hpl : (backTo pos (starEach [.Name "int" p2] X.env)).any (·.1) = false := by rfl) :
    EX X T (.Call (.Name "isinstance" p) [e, .Name "int" p2] [] pos) ρ ρ1 (.bl (isI d)) := ex_isi (p3 := p2) hm he hy (by decide +kernel) ht (kt_Int ht) hg hg2 (by decide) (by decide) h1 h2 hpl
theorem kt_Bool {d : D} {t : String} (h : tyD d = some t) : kitB t "bool" = some (isB d) := by
  cases d <;> cases h <;> first | exact (show kitB _ _ = some true by decide +kernel) | exact (show kitB _ _ = some false by decide +kernel)
theorem ex_isBool {t : String} {p2 : Pos} (hm : X.mg "isinstance" = none) (he : EX X T e ρ ρ1 d) (hy : X.mg "bool" = none) (ht : tyD d = some t) (hg : Gl X "isinstance" := by rfl) (hg2 : Gl X "bool" := by rfl)
    (h1 : starEach [e, .Name "bool" p2] X.env = (false, eval e X.env) :: starEach [.Name "bool" p2] X.env := by rfl) (h2 : starEach [.Name "bool" p2] X.env = (false, eval (.Name "bool" p2) X.env) :: starEach [] X.env := by rfl) (hpl : (backTo pos (starEach [.Name "bool" p2] X.env)).any (·.1) = false := by rfl) :
    EX X T (.Call (.Name "isinstance" p) [e, .Name "bool" p2] [] pos) ρ ρ1 (.bl (isB d)) := ex_isi (p3 := p2) hm he hy (by decide +kernel) ht (kt_Bool ht) hg hg2 (by decide) (by decide) h1 h2 hpl
theorem kt_Tup {d : D} {t : String} (h : tyD d = some t) : kitB t "tuple" = some (isT d) := by
  cases d <;> cases h <;> first | exact (show kitB _ _ = some true by decide +kernel) | exact (show kitB _ _ = some false by decide +kernel)
theorem ex_isTup {t : String} {p2 : Pos} (hm : X.mg "isinstance" = none) (he : EX X T e ρ ρ1 d) (hy : X.mg "tuple" = none) (ht : tyD d = some t) (hg : Gl X "isinstance" := by rfl) (hg2 : Gl X "tuple" := by rfl)
    (h1 : starEach [e, .Name "tuple" p2] X.env = (false, eval e X.env) :: starEach [.Name "tuple" p2] X.env := by rfl) (h2 : starEach [.Name "tuple" p2] X.env = (false, eval (.Name "tuple" p2) X.env) :: starEach [] X.env := by rfl) (hpl : (backTo pos (starEach [.Name "tuple" p2] X.env)).any (·.1) = false := by rfl) :
    EX X T (.Call (.Name "isinstance" p) [e, .Name "tuple" p2] [] pos) ρ ρ1 (.bl (isT d)) := ex_isi (p3 := p2) hm he hy (by decide +kernel) ht (kt_Tup ht) hg hg2 (by decide) (by decide) h1 h2 hpl
theorem kt_Str {d : D} {t : String} (h : tyD d = some t) : kitB t "str" = some (isS d) := by
  cases d <;> cases h <;> first | exact (show kitB _ _ = some true by decide +kernel) | exact (show kitB _ _ = some false by decide +kernel)
theorem ex_isStr {t : String} {p2 : Pos} (hm : X.mg "isinstance" = none) (he : EX X T e ρ ρ1 d) (hy : X.mg "str" = none) (ht : tyD d = some t) (hg : Gl X "isinstance" := by rfl) (hg2 : Gl X "str" := by rfl)
    (h1 : starEach [e, .Name "str" p2] X.env = (false, eval e X.env) :: starEach [.Name "str" p2] X.env := by rfl) (h2 : starEach [.Name "str" p2] X.env = (false, eval (.Name "str" p2) X.env) :: starEach [] X.env := by rfl) (hpl : (backTo pos (starEach [.Name "str" p2] X.env)).any (·.1) = false := by rfl) :
    EX X T (.Call (.Name "isinstance" p) [e, .Name "str" p2] [] pos) ρ ρ1 (.bl (isS d)) := ex_isi (p3 := p2) hm he hy (by decide +kernel) ht (kt_Str ht) hg hg2 (by decide) (by decide) h1 h2 hpl
theorem kt_Lst {d : D} {t : String} (h : tyD d = some t) : kitB t "list" = some (isL d) := by
  cases d <;> cases h <;> first | exact (show kitB _ _ = some true by decide +kernel) | exact (show kitB _ _ = some false by decide +kernel)
theorem ex_isLst {t : String} {p2 : Pos} (hm : X.mg "isinstance" = none) (he : EX X T e ρ ρ1 d) (hy : X.mg "list" = none) (ht : tyD d = some t) (hg : Gl X "isinstance" := by rfl) (hg2 : Gl X "list" := by rfl)
    (h1 : starEach [e, .Name "list" p2] X.env = (false, eval e X.env) :: starEach [.Name "list" p2] X.env := by rfl) (h2 : starEach [.Name "list" p2] X.env = (false, eval (.Name "list" p2) X.env) :: starEach [] X.env := by rfl) (hpl : (backTo pos (starEach [.Name "list" p2] X.env)).any (·.1) = false := by rfl) :
    EX X T (.Call (.Name "isinstance" p) [e, .Name "list" p2] [] pos) ρ ρ1 (.bl (isL d)) := ex_isi (p3 := p2) hm he hy (by decide +kernel) ht (kt_Lst ht) hg hg2 (by decide) (by decide) h1 h2 hpl
/-- len(e) -/
theorem ex_len (hm : X.mg "len" = none) (he : EX X T e ρ ρ1 d) (h : d = .lst xs ∨ d = .tup xs) (hg : Gl X "len" := by rfl) (h1 : starEach [e] X.env = (false, eval e X.env) :: starEach [] X.env := by rfl) (hpl : (backTo pos (starEach [] X.env)).any (·.1) = false := by rfl) :
    EX X T (.Call (.Name "len" p) [e] [] pos) ρ ρ1 (.int xs.length) :=
  ex_callB call_len_seq hm PySem.boot_len (ea_cons he ea_nil h1) (rc_len h) hg (by decide) (by decide) h1 hpl
theorem ex_lenL (hm : X.mg "len" = none) (he : EX X T e ρ ρ1 (.lst xs)) (hg : Gl X "len" := by rfl) (h1 : starEach [e] X.env = (false, eval e X.env) :: starEach [] X.env := by rfl) (hpl : (backTo pos (starEach [] X.env)).any (·.1) = false := by rfl) :
    EX X T (.Call (.Name "len" p) [e] [] pos) ρ ρ1 (.int xs.length) := ex_len hm he (.inl rfl) hg h1 hpl
theorem ex_lenT (hm : X.mg "len" = none) (he : EX X T e ρ ρ1 (.tup xs)) (hg : Gl X "len" := by rfl) (h1 : starEach [e] X.env = (false, eval e X.env) :: starEach [] X.env := by rfl) (hpl : (backTo pos (starEach [] X.env)).any (·.1) = false := by rfl) :
    EX X T (.Call (.Name "len" p) [e] [] pos) ρ ρ1 (.int xs.length) := ex_len hm he (.inr rfl) hg h1 hpl
theorem ex_lenLM {α : Type} {f : α → D} {zs : List α} (hm : X.mg "len" = none) (he : EX X T e ρ ρ1 (.lst (zs.map f))) (hg : Gl X "len" := by rfl) (h1 : starEach [e] X.env = (false, eval e X.env) :: starEach [] X.env := by rfl) (hpl : (backTo pos (starEach [] X.env)).any (·.1) = false := by rfl) :
    EX X T (.Call (.Name "len" p) [e] [] pos) ρ ρ1 (.int zs.length) := by
  have h := ex_lenL (p := p) (pos := pos) hm he hg h1 hpl
  rwa [List.length_map] at h
theorem ex_lenTM {α : Type} {f : α → D} {zs : List α} (hm : X.mg "len" = none) (he : EX X T e ρ ρ1 (.tup (zs.map f))) (hg : Gl X "len" := by rfl) (h1 : starEach [e] X.env = (false, eval e X.env) :: starEach [] X.env := by rfl) (hpl : (backTo pos (starEach [] X.env)).any (·.1) = false := by rfl) :
    EX X T (.Call (.Name "len" p) [e] [] pos) ρ ρ1 (.int zs.length) := by
  have h := ex_lenT (p := p) (pos := pos) hm he hg h1 hpl
  rwa [List.length_map] at h
theorem ex_all {bs : List Bool} (hm : X.mg "all" = none) (hc : X.calm = true) (he : EX X T e ρ ρ1 (.lst (bs.map D.bl))) (hg : Gl X "all" := by rfl) (h1 : starEach [e] X.env = (false, eval e X.env) :: starEach [] X.env := by rfl) (hpl : (backTo pos (starEach [] X.env)).any (·.1) = false := by rfl) :
    EX X T (.Call (.Name "all" p) [e] [] pos) ρ ρ1 (.bl (bs.all id)) :=
  ex_callB (cr_all hc) hm (by decide +kernel) (ea_cons he ea_nil h1) rc_all hg (by decide) (by decide) h1 hpl
theorem ex_tupOf (hm : X.mg "tuple" = none) (he : EX X T e ρ ρ1 (.lst xs)) (hg : Gl X "tuple" := by rfl) (h1 : starEach [e] X.env = (false, eval e X.env) :: starEach [] X.env := by rfl) (hpl : (backTo pos (starEach [] X.env)).any (·.1) = false := by rfl) :
    EX X T (.Call (.Name "tuple" p) [e] [] pos) ρ ρ1 (.tup xs) :=
  ex_callTy call_tuple_of hm (by decide +kernel) (ea_cons he ea_nil h1) rc_tupL hg (by decide) (by decide) h1 hpl
theorem ex_intOf (hm : X.mg "int" = none) (he : EX X T e ρ ρ1 (.int i)) (hg : Gl X "int" := by rfl) (h1 : starEach [e] X.env = (false, eval e X.env) :: starEach [] X.env := by rfl) (hpl : (backTo pos (starEach [] X.env)).any (·.1) = false := by rfl) :
    EX X T (.Call (.Name "int" p) [e] [] pos) ρ ρ1 (.int i) :=
  ex_callTy call_int1 hm (by decide +kernel) (ea_cons he ea_nil h1) rc_int1 hg (by decide) (by decide) h1 hpl
theorem ex_atT (ha : EX X T a ρ ρ1 (.tup xs)) (hb : EX X T b ρ1 ρ2 (.int i)) (h : atI xs i = some d) (hs : PlainIx b := by exact fun _ _ => rfl) : EX X T (.Subscript a b pos) ρ ρ2 d := ex_ix ix_tup ha hb (rr_ixT h) hs
theorem ex_atL (ha : EX X T a ρ ρ1 (.lst xs)) (hb : EX X T b ρ1 ρ2 (.int i)) (h : atI xs i = some d) (hs : PlainIx b := by exact fun _ _ => rfl) : EX X T (.Subscript a b pos) ρ ρ2 d := ex_ix ix_list ha hb (rr_ixL h) hs
end
section
variable {X : Cx} {T : Tb} {W : WX} {ρ ρ1 ρ2 : En} {pos : Pos} {tg iter elt c : Expr} {scope : Scope} {own : List (Str × Nat)} {α : Type} {zs : List α} {enc : α → D}
/-- [e for x in xs] -/
theorem lc_map (f : α → D) {ρa : α → En} {ks : List Nat} (hi : EI X T tg iter ρ ρ1 (zs.map enc))
    (hg : ∀ a ∈ zs, ∀ (s : Shared) (H : Hp) (C : Addr) (cl : List (Str × Addr)) (fp : List Addr), GX (Blk X scope s H C cl fp) T tg (wipeE ρ1 (own.map (·.2))) (enc a) (ρa a) ks)
    (he : ∀ a ∈ zs, ∀ (s : Shared) (H : Hp) (C : Addr) (cl : List (Str × Addr)) (fp : List Addr), EX (Blk X scope s H C cl fp) T elt (ρa a) (ρa a) (f a)) (hz : zs.length < sizeLine)
    (hks : ∀ v ∈ ks, v ∈ own.map (·.2) := by decide) (hno : nonOwn ρ1 (own.map (·.2)) = true := by rfl) (hr : ∀ a, unwipe ρ1 (ρa a) (own.map (·.2)) = ρ1 := by exact fun _ => rfl) : LcOk X T tg iter elt [] scope own ρ ρ1 (zs.map f) := by
  have h := lc_pure zs enc (fun _ => true) f ρa ks hi hks hno hg (fun _ _ _ _ _ _ _ => ets_nil) (fun a ha _ => he a ha) hr hz
  rwa [List.filter_eq_self.mpr fun _ _ => rfl] at h
/-- [e for x in xs if c] -/
theorem lc_filt (q : α → Bool) (f : α → D) {ρa : α → En} {ks : List Nat} (hi : EI X T tg iter ρ ρ1 (zs.map enc))
    (hg : ∀ a ∈ zs, ∀ (s : Shared) (H : Hp) (C : Addr) (cl : List (Str × Addr)) (fp : List Addr), GX (Blk X scope s H C cl fp) T tg (wipeE ρ1 (own.map (·.2))) (enc a) (ρa a) ks)
    (ht : ∀ a ∈ zs, ∀ (s : Shared) (H : Hp) (C : Addr) (cl : List (Str × Addr)) (fp : List Addr), ET (Blk X scope s H C cl fp) T c (ρa a) (ρa a) (q a))
    (he : ∀ a ∈ zs, q a = true → ∀ (s : Shared) (H : Hp) (C : Addr) (cl : List (Str × Addr)) (fp : List Addr), EX (Blk X scope s H C cl fp) T elt (ρa a) (ρa a) (f a)) (hz : zs.length < sizeLine)
    (hks : ∀ v ∈ ks, v ∈ own.map (·.2) := by decide) (hno : nonOwn ρ1 (own.map (·.2)) = true := by rfl) (hr : ∀ a, unwipe ρ1 (ρa a) (own.map (·.2)) = ρ1 := by exact fun _ => rfl) : LcOk X T tg iter elt [c] scope own ρ ρ1 ((zs.filter q).map f) :=
  lc_pure zs enc q f ρa ks hi hks hno hg (fun a ha s H C cl fp => ets_one (ht a ha s H C cl fp)) he hr hz
/-- as an expression -/
theorem LcOk.val {xs : List D} {ifs : List Expr} {N ps : List Str} {sc : Scope} (S : FnScope N ps sc) (h : LcOk X T tg iter elt ifs scope own ρ ρ2 xs) (hb : blkC N sc scope own = true := by decide +kernel) (eN : X.N = N := by rfl) (es : X.env.scope = sc := by rfl) (hc : X.calm = true := by rfl) (hs : ∀ x, foldedSetIterable iter X.env x = pure x := by intro _; rfl) : EX X T (.ListComp elt [⟨tg, iter, ifs, 0⟩] scope pos) ρ ρ2 (.lst xs) :=
  (h.en hc (by rw [eN]; exact S.nd) (by rw [eN, es]; exact blkOk_by hb) hs).ex
/-- within another's block -/
theorem LcOk.valB {xs : List D} {ifs : List Expr} {N ps : List Str} {sc scope0 : Scope} (S : FnScope N ps sc) (h : LcOk X T tg iter elt ifs scope own ρ ρ2 xs) (eN : X.N = N := by rfl) (es : X.env.scope = relS scope0 sc := by rfl) (hb : blkC N (relS scope0 sc) scope own = true := by decide +kernel) (hc : X.calm = true := by rfl) (hs : ∀ x, foldedSetIterable iter X.env x = pure x := by intro _; rfl) : EX X T (.ListComp elt [⟨tg, iter, ifs, 0⟩] scope pos) ρ ρ2 (.lst xs) :=
  (h.en hc (by rw [eN]; exact S.nd) (by rw [eN, es]; exact blkOk_by hb) hs).ex
/-- name = [..] -/
theorem LcOk.asg {P : Out → Prop} {xs : List D} {ifs : List Expr} {N ps : List Str} {sc : Scope} {y : Str} {py spos : Pos} (i : Nat) (S : FnScope N ps sc) (h : LcOk X T tg iter elt ifs scope own ρ ρ2 xs) (hp : P (.nx (ρ2.set i (.dat (.lst xs))))) (hb : blkC N sc scope own = true := by decide +kernel) (eN : X.N = N := by rfl) (es : X.env.scope = sc := by rfl) (hc : X.calm = true := by rfl)
    (hy : X.N[i]? = some y := by rfl) (hyl : X.env.scope.names.lookup y = some .local := by rfl) (hsw : swapsWith (.ListComp elt [⟨tg, iter, ifs, 0⟩] scope pos) (some (.Name y py)) spos.line X.env = pure true := by exact sw_true rfl rfl rfl (by decide +kernel)) (hs : ∀ x, foldedSetIterable iter X.env x = pure x := by intro _; rfl) :
    ES X T W (.Assign [.Name y py] (.ListComp elt [⟨tg, iter, ifs, 0⟩] scope pos) spos) ρ P :=
  h.set hc (by rw [eN]; exact S.nd) (by rw [eN, es]; exact blkOk_by hb) hp hy hyl hsw hs
end
/-! ### where nothing of one's own is changed -/
section
variable {X : Cx} {T : Tb} {W : WX} {ρ : En} {pos : Pos} {a b c : Expr} {rest : List Expr} {k k' : Bool} {P : Out → Prop} {d : D}
theorem es_ifP (k : Bool) {A B : List Stmt} (hc : ET X T c ρ ρ k) (ha : k = true → ESs X T W A ρ P) (hb : k = false → ESs X T W B ρ P) : ES X T W (.If c A B pos) ρ P := es_if hc ha hb
theorem et_and2 (h : ET X T a ρ ρ k) (h' : k = true → ET X T b ρ ρ k') : ET X T (.BoolOp .And [a, b] pos) ρ ρ (k && k') := EW.et (ew_and h (fun z => ew_and1 (h' z)) fun _ => rfl)
theorem et_or2 (h : ET X T a ρ ρ k) (h' : k = false → ET X T b ρ ρ k') : ET X T (.BoolOp .Or [a, b] pos) ρ ρ (k || k') := EW.et (ew_or h (fun z => ew_or1 (h' z)) fun _ => rfl)
theorem et_or3 {k2 : Bool} (h : ET X T a ρ ρ k) (h' : k = false → ET X T b ρ ρ k') (h2 : k = false → k' = false → ET X T c ρ ρ k2) : ET X T (.BoolOp .Or [a, b, c] pos) ρ ρ (k || (k' || k2)) :=
  EW.et (ew_or h (fun z => ew_or (h' z) (fun y => ew_or1 (h2 z y)) fun _ => rfl) fun _ => rfl)
theorem et_and3 {k2 : Bool} (h : ET X T a ρ ρ k) (h' : k = true → ET X T b ρ ρ k') (h2 : k = true → k' = true → ET X T c ρ ρ k2) : ET X T (.BoolOp .And [a, b, c] pos) ρ ρ (k && (k' && k2)) :=
  EW.et (ew_and h (fun z => ew_and (h' z) (fun y => ew_and1 (h2 z y)) fun _ => rfl) fun _ => rfl)
theorem ex_and2 (h : EX X T a ρ ρ (.bl k)) (h' : k = true → EX X T b ρ ρ (.bl k')) : EX X T (.BoolOp .And [a, b] pos) ρ ρ (.bl (k && k')) := ex_and h (fun z => ex_one (h' z)) fun _ => rfl
theorem ex_or2 (h : EX X T a ρ ρ (.bl k)) (h' : k = false → EX X T b ρ ρ (.bl k')) : EX X T (.BoolOp .Or [a, b] pos) ρ ρ (.bl (k || k')) := ex_or h (fun z => ex_one (h' z)) fun _ => rfl
theorem ex_and3 {k2 : Bool} (h : EX X T a ρ ρ (.bl k)) (h' : k = true → EX X T b ρ ρ (.bl k')) (h2 : k = true → k' = true → EX X T c ρ ρ (.bl k2)) : EX X T (.BoolOp .And [a, b, c] pos) ρ ρ (.bl (k && (k' && k2))) :=
  ex_and h (fun z => ex_and (h' z) (fun y => ex_one (h2 z y)) fun _ => rfl) fun _ => rfl
theorem et_eq {e : Expr} {k' : Bool} (h : ET X T e ρ ρ k) (q : k = k') : ET X T e ρ ρ k' := q ▸ h
theorem ex_eq {e : Expr} {ρ1 : En} {d' : D} (h : EX X T e ρ ρ1 d) (q : d = d') : EX X T e ρ ρ1 d' := q ▸ h
end
section
variable {X : Cx} {T : Tb} {W : WX} {ρ : En} {P : Out → Prop} {p : Addr} {xs ys : List D} {d : D} {pos apos cpos : Pos} {x : Str} {e : Expr}
theorem es_appendP (i : Nat) (h0 : ρ[i]? = some (.own p (.lst xs))) (he : EX X T e ρ ρ d) (hz : xs.length < sizeLine) (hp : P (.nx (ρ.set i (.own p (.lst (xs ++ [d])))))) (hN : X.N[i]? = some x := by rfl)
    (hv : Vis X.env.scope x := by first | exact Or.inl rfl | exact Or.inr (Or.inl rfl) | exact Or.inr (Or.inr rfl)) (hd : (x == ("__debug__" : Str)) = false := by decide) (hcd : (x == ("__classdict__" : Str)) = false := by decide)
    (hbase : attributeBase (.Name x pos) "append" X.env (eval (.Name x pos) X.env) = eval (.Name x pos) X.env := by rfl)
    (hfew : ((backTo cpos (starEach [e] X.env)).all (fun x => !x.1) && (backToKw cpos (keywordEach [] X.env)).all (fun x => x.1.isSome)
      && decide (([e] : List Expr).length + ([] : List Keyword).length + (if ([] : List Keyword).isEmpty then 0 else 1) < 30)) = true := by rfl)
    (hline : (apos.endLine == cpos.line) = true := by rfl) (hs : starEach [e] X.env = (false, eval e X.env) :: starEach [] X.env := by rfl) (hplain : (backTo cpos (starEach [] X.env)).any (·.1) = false := by rfl)
    (hsw : swapsWith (.Call (.Attribute (.Name x pos) "append" apos) [e] [] cpos) none cpos.line X.env = pure false := by rfl) {pos' : Pos} (hpl : pos'.line = cpos.line := by rfl) : ES X T W (.Expr (.Call (.Attribute (.Name x pos) "append" apos) [e] [] cpos) pos') ρ P :=
  es_append i h0 he h0 hz hp hN hv hd hcd hbase hfew hline hs hplain hsw hpl
theorem es_extendP (i : Nat) (h0 : ρ[i]? = some (.own p (.lst xs))) (he : EX X T e ρ ρ (.lst ys)) (hz : xs.length + ys.length ≤ sizeLine) (hp : P (.nx (ρ.set i (.own p (.lst (xs ++ ys)))))) (hN : X.N[i]? = some x := by rfl)
    (hv : Vis X.env.scope x := by first | exact Or.inl rfl | exact Or.inr (Or.inl rfl) | exact Or.inr (Or.inr rfl)) (hd : (x == ("__debug__" : Str)) = false := by decide) (hcd : (x == ("__classdict__" : Str)) = false := by decide)
    (hbase : attributeBase (.Name x pos) "extend" X.env (eval (.Name x pos) X.env) = eval (.Name x pos) X.env := by rfl)
    (hfew : ((backTo cpos (starEach [e] X.env)).all (fun x => !x.1) && (backToKw cpos (keywordEach [] X.env)).all (fun x => x.1.isSome)
      && decide (([e] : List Expr).length + ([] : List Keyword).length + (if ([] : List Keyword).isEmpty then 0 else 1) < 30)) = true := by rfl)
    (hline : (apos.endLine == cpos.line) = true := by rfl) (hs : starEach [e] X.env = (false, eval e X.env) :: starEach [] X.env := by rfl) (hplain : (backTo cpos (starEach [] X.env)).any (·.1) = false := by rfl)
    (hsw : swapsWith (.Call (.Attribute (.Name x pos) "extend" apos) [e] [] cpos) none cpos.line X.env = pure false := by rfl) {pos' : Pos} (hpl : pos'.line = cpos.line := by rfl) : ES X T W (.Expr (.Call (.Attribute (.Name x pos) "extend" apos) [e] [] cpos) pos') ρ P :=
  es_extend i h0 he h0 hz hp hN hv hd hcd hbase hfew hline hs hplain hsw hpl
end
/-! ### lists of lists, sums of lists -/
theorem room65 {k : Nat} {A : Around} (r : Room k A) : A.units + 65 < cLine := by have := r.un; omega
theorem room64 {k : Nat} {A : Around} (r : Room k A) : A.units + 64 < cLine := by have := r.un; omega
section
variable {X : Cx} {T : Tb} {ρ ρ1 ρ2 : En} {pos apos cpos : Pos} {k : Nat} {a b e o : Expr} {d d' : D} {xs ys : List D} {j : Nat}
theorem ex_catL (ha : EX X T a ρ ρ1 (.lst xs)) (hb : EX X T b ρ1 ρ2 (.lst ys)) (hl : xs.length + ys.length ≤ sizeLine) : EX X T (.BinOp a .Add b pos) ρ ρ2 (.lst (xs ++ ys)) := ex_op op_cat ha hb (rr_cat hl)
theorem ex_catT (ha : EX X T a ρ ρ1 (.tup xs)) (hb : EX X T b ρ1 ρ2 (.tup ys)) (hl : xs.length + ys.length ≤ sizeLine) : EX X T (.BinOp a .Add b pos) ρ ρ2 (.tup (xs ++ ys)) := ex_op op_catA ha hb (rr_catT hl)
theorem ex_xor {i j : Int} (ha : EX X T a ρ ρ1 (.int i)) (hb : EX X T b ρ1 ρ2 (.int j)) : EX X T (.BinOp a .BitXor b pos) ρ ρ2 (.int (Builtin.bitXor i j)) := ex_op op_xor ha hb rr_I0
theorem ex_neg {i : Int} (ha : EX X T a ρ ρ1 (.int i)) : EX X T (.UnaryOp .USub a pos) ρ ρ1 (.int (-i)) := ex_un un_neg ha ru_I
/-- == and != of data -/
theorem ex_eqD {n m : Nat} (hr : Room k X.A) (ha : EX X T a ρ ρ1 d) (hb : EX X T b ρ1 ρ2 d') (hd : flat n d = true) (he : flat m d' = true) (hn : n ≤ 64 := by decide) (hm : m ≤ 64 := by decide) : EX X T (.Compare a [.Eq] [b] pos) ρ ρ2 (.bl (eqv d d')) := ex_cmp (op_eqD (room64 hr)) ha hb (rr_eqD hd he hn hm)
theorem ex_neD {n m : Nat} (hr : Room k X.A) (ha : EX X T a ρ ρ1 d) (hb : EX X T b ρ1 ρ2 d') (hd : flat n d = true) (he : flat m d' = true) (hn : n ≤ 64 := by decide) (hm : m ≤ 64 := by decide) : EX X T (.Compare a [.NotEq] [b] pos) ρ ρ2 (.bl (!eqv d d')) := ex_cmp (op_neD (room64 hr)) ha hb (rr_neD hd he hn hm)
theorem et_eqD {n m : Nat} (hr : Room k X.A) (ha : EX X T a ρ ρ1 d) (hb : EX X T b ρ1 ρ2 d') (hd : flat n d = true) (he : flat m d' = true) (hn : n ≤ 64 := by decide) (hm : m ≤ 64 := by decide) : ET X T (.Compare a [.Eq] [b] pos) ρ ρ2 (eqv d d') := et_cmp (op_eqD (room64 hr)) ha hb (rr_eqD hd he hn hm)
theorem et_neD {n m : Nat} (hr : Room k X.A) (ha : EX X T a ρ ρ1 d) (hb : EX X T b ρ1 ρ2 d') (hd : flat n d = true) (he : flat m d' = true) (hn : n ≤ 64 := by decide) (hm : m ≤ 64 := by decide) : ET X T (.Compare a [.NotEq] [b] pos) ρ ρ2 (!eqv d d') := et_cmp (op_neD (room64 hr)) ha hb (rr_neD hd he hn hm)
/-- x not in xs -/
theorem et_ninD {n m : Nat} (hr : Room k X.A) (ha : EX X T a ρ ρ1 d) (hb : EX X T b ρ1 ρ2 (.lst xs)) (hd : flat n d = true) (he : flats m xs = true) (hn : n ≤ 64 := by decide) (hm : m < 64 := by decide) (hmk : behindInMarks .NotIn b = false := by rfl) : ET X T (.Compare a [.NotIn] [b] pos) ρ ρ2 (!xs.any fun z => eqv z d) :=
  et_cmp (op_notInD (room65 hr)) ha hb (rr_ninD hd he hn hm) hmk
theorem et_inD {n m : Nat} (hr : Room k X.A) (ha : EX X T a ρ ρ1 d) (hb : EX X T b ρ1 ρ2 (.lst xs)) (hd : flat n d = true) (he : flats m xs = true) (hn : n ≤ 64 := by decide) (hm : m < 64 := by decide) (hmk : behindInMarks .In b = false := by rfl) : ET X T (.Compare a [.In] [b] pos) ρ ρ2 (xs.any fun z => eqv z d) :=
  et_cmp (op_inD (room65 hr)) ha hb (rr_inD hd he hn hm) hmk
/-- xs.index(x) -/
theorem toPs_get : ∀ (xs : List D) (j : Nat), (toPs xs)[j]? = (xs[j]?).map toP
  | [], _ => by simp [toPs]
  | x :: xs, 0 => rfl
  | x :: xs, j + 1 => by
    show (toPs xs)[j]? = _
    rw [toPs_get xs j]
    rfl
theorem ex_index {n m : Nat} {z : D} (hr : Room k X.A) (ho : EX X T o ρ ρ1 (.lst xs)) (he : EX X T e ρ1 ρ2 d) (hd : flat n d = true) (hx : flats m xs = true) (hz : xs[j]? = some z) (hzj : eqv z d = true) (hno : ∀ (i : Nat) (z' : D), i < j → xs[i]? = some z' → eqv z' d = false) (hn : n ≤ 64 := by decide) (hm : m < 64 := by decide)
    (hbase : attributeBase o "index" X.env (eval o X.env) = eval o X.env := by rfl)
    (hfew : ((backTo cpos (starEach [e] X.env)).all (fun x => !x.1) && (backToKw cpos (keywordEach [] X.env)).all (fun x => x.1.isSome)
      && decide (([e] : List Expr).length + ([] : List Keyword).length + (if ([] : List Keyword).isEmpty then 0 else 1) < 30)) = true := by rfl)
    (hline : (apos.endLine == cpos.line) = true := by rfl) (hs : starEach [e] X.env = (false, eval e X.env) :: starEach [] X.env := by rfl) (hplain : (backTo cpos (starEach [] X.env)).any (·.1) = false := by rfl) : EX X T (.Call (.Attribute o "index" apos) [e] [] cpos) ρ ρ2 (.int (j : Nat)) :=
  pe_imp (pe_bm PySem.F.plainAttrs_list PySem.F.slot_list_index PySem.F.type_list_index (mt_indexD (room65 hr)) ho (pa_cons he pa_nil hs) hbase hfew hline hs hplain) fun σ H Q ⟨B, G, S, q⟩ => ⟨B, G, S, fun v G1 H1 g1 S1 r1 => by
    obtain ⟨a, vs, rfl, ha, ra⟩ := id r1.lst_inv
    refine ⟨.inl ⟨rfl, vs, .inl (.inl (S1.s _ _ ha))⟩, B, G1, S1, fun y G2 H2 g2 S2 r2 => ?_⟩
    have hx' : flat (m + 1) (.lst xs) = true := hx
    have rl := (r1.mono g2).dp S2.s hx'
    refine ⟨a, y, _, toPs xs, j, toP z, rfl, rfl, rl, r2.dp S2.s hd, flat_shaped hx' hm, flat_shaped hd hn, by rw [toPs_get, hz]; rfl, hzj, fun i z' hi hz' => ?_, q _ G2 H2 (g1.trans g2) S2 (.int _)⟩
    rw [toPs_get] at hz'
    cases hq : xs[i]? with
    | none => rw [hq] at hz'; cases hz'
    | some z2 =>
      rw [hq] at hz'
      have : z' = toP z2 := (Option.some.inj hz').symm
      rw [this]
      exact hno i z2 hi hq⟩
end
/-! ### raise -/
abbrev veB : List Value := [.type "ValueError", .type "Exception", .type "BaseException", .type "object"]
/-- an own class over ValueError, without an __init__ of its own -/
structure XCls (K : PySem.W.Frag) (mg : Str → Option Value) (x : Str) (C : Addr) : Prop where
  g : mg x = some (.ref C)
  q : PySem.W.excIn K C veB "ValueError.__new__" = true
  k : PySem.W.keepIn K (.ref C) = true
  b : PySem.W.subIn K (.ref C) (.type "BaseException") = some true
  t : PySem.W.typeIn K (.ref C) = some (.type "type")
section
variable {X : Cx} {T : Tb} {W : WX} {ρ : En} {P : Out → Prop} {C : Addr} {x m : Str} {j : Nat} {p p2 pos pos' : Pos}
/-- raise X('m') -/
theorem es_raise (c : XCls X.K X.mg x C) (tk : L2N.Takes X W) (hp : P (.ex ρ C)) (hc : X.calm = true := by rfl) (hg : Gl X x := by rfl) (hdb : (x == ("__debug__" : Str)) = false := by decide) : ES X T W (.Raise (some (.Call (.Name x p) [.Constant (.str m) j p2] [] pos)) none pos') ρ P :=
  ps_imp (L2N.ps_raise hc tk (L2N.pmk_own PySem.F.excBase_ValueError c.q c.g c.k (raises_own c.b c.t) hg hdb)) fun D σ H ⟨B, G, S, pp⟩ => pp.ex ρ C σ G H hp (Same.refl _) S
end
/-- a def's Fun and its binding make it known -/
theorem fn_mk {P : Program} {w : World} {K : PySem.W.Frag} {mg : Str → Option Value} {base : Heap} {CX : CXT} {k : Nat} {x : Str} {sp : Sp} {f : Addr} {fd : FuncData} {ps : List Str} (hm : mg x = some (.ref f)) (hk : PySem.W.keepIn K (.ref f) = true) (hb : Binds K fd ps []) (F : FnOk P w K mg base CX k f fd ps sp) : Fn P w K mg base CX k x sp := ⟨f, fd, ps, hm, hk, hb, F⟩
/-- a def of the text as it stands -/
structure Df (K : PySem.W.Frag) (mg : Str → Option Value) (x : Str) (st : Stmt) (ps : List Str) : Prop where
  ex : ∃ f fd, mg x = some (.ref f) ∧ L2.Fun K x x st f fd ∧ Binds K fd ps []
theorem Df.fn {P : Program} {w : World} {K : PySem.W.Frag} {mg : Str → Option Value} {base : Heap} {CX : CXT} {k : Nat} {x : Str} {st : Stmt} {sp : Sp} {ps : List Str} (d : Df K mg x st ps) (h : ∀ f fd, L2.Fun K x x st f fd → FnOk P w K mg base CX k f fd ps sp) : Fn P w K mg base CX k x sp := by
  obtain ⟨f, fd, h1, h2, h3⟩ := d.ex
  exact ⟨f, fd, ps, h1, h2.kp, h3, h f fd h2⟩
end DL
set_option Elab.async false
set_option linter.all false
set_option maxRecDepth 100000
set_option maxHeartbeats 2000000
namespace DL
open PySem PySem.Spec PyProof.Rows L2
/-! ### enumerate of a tuple -/
theorem meets_enumB1 {v : Value} {o : Obj} {Hc : Heap → Prop} (B : Begins v o Hc) :
    Meets (Builtin.«enumerate.__new__» ⟨[.type "enumerate", v], []⟩) (fun _ R s => Hc s.heap ∧
      R (.ok (.ret (.ref (s.heap.push o).objs.size))) { s with heap := (s.heap.push o).push { cls := .type "enumerate", data := .fields #[.none, .bool false, .ref s.heap.objs.size, rawInt 0, .none, .none] } }) :=
  .of_wp fun prog w A R s jq => by
    obtain ⟨jpq, g, d, tk, os⟩ := s
    obtain ⟨j1q, jq⟩ := jq
    have jsubq := sub_enumerate
    have q1 : ∀ {A' : Around} {E : Value → Shared → Prop} {Q : Value → Shared → Prop}, Q (.ref jpq.objs.size) ⟨jpq.push o, g, d, tk, os⟩ → wpAny (model prog w) A' (pyIter v) Q E ⟨jpq, g, d, tk, os⟩ :=
      fun q => B.iter prog w _ _ ⟨jpq, g, d, tk, os⟩ _ j1q q
    wp_walk using q1
    refine wpAny_stack_any fun st => wpAny_pure ?_
    split
    · rename_i c _ _ _ _ _
      cases (c == Value.type "enumerate")
      · wp_walk using q1
        exact ⟨_, rfl, jq⟩
      · wp_walk using q1
        exact ⟨_, rfl, jq⟩
    · wp_walk using q1
      exact ⟨_, rfl, jq⟩
section
variable {prog : Program} {w : World} {A : Around} {E : Value → Shared → Prop} {s : Shared}
theorem call_enumT {t : Addr} {items : Array Value} {Q : Value → Shared → Prop} (j1q : s.heap.IsTuple t items)
    (jq : ∀ j'q, IsEnum j'q (s.heap.objs.size + 1) s.heap.objs.size 0 .none → j'q.IsTupleIter s.heap.objs.size t 0 → j'q.objs.size = s.heap.objs.size + 2 →
      (∀ b o, s.heap.get? b = some o → j'q.get? b = some o) → Q (.ref (s.heap.objs.size + 1)) { s with heap := j'q }) :
    wpAny (model prog w) A (call (.type "enumerate") [.ref t]) Q E s := by
  refine callType_new F.called_enumerate (by decide) (F.typeCall_enumerate_1 _) (F.newCall_enumerate_1 _) (fun obj => F.args_object_init_2 obj _) F.entry_enumerate_new
    (meets_enumB1 (begins_tuple t items)) ⟨j1q, ?_⟩
  have jzq : (s.heap.push { cls := .type "tuple_iterator", data := .fields #[.ref t, .int 0 0] }).objs.size = s.heap.objs.size + 1 := Heap.size_push ..
  show _ ∧ _
  rw [jzq]
  have jeq : IsEnum ((s.heap.push { cls := .type "tuple_iterator", data := .fields #[.ref t, .int 0 0] }).push { cls := .type "enumerate", data := .fields #[.none, .bool false, .ref s.heap.objs.size, rawInt 0, .none, .none] }) (s.heap.objs.size + 1) s.heap.objs.size 0 .none := by
    have := Heap.get?_push_size (s.heap.push { cls := .type "tuple_iterator", data := .fields #[.ref t, .int 0 0] }) (o := { cls := .type "enumerate", data := .fields #[.none, .bool false, .ref s.heap.objs.size, rawInt 0, .none, .none] }) rfl
    rw [jzq] at this; exact this
  refine ⟨⟨_, jeq, rfl⟩, jq _ jeq ⟨_, Heap.get?_push_of_some _ (Heap.get?_push_size _ rfl), rfl, rfl⟩ (by rw [Heap.size_push, jzq]) fun b o x => Heap.get?_push_of_some _ (Heap.get?_push_of_some _ x)⟩
end
theorem enumT_end {prog : Program} {w : World} {A : Around} {E : Value → Shared → Prop} {s : Shared} {e it l : Addr} {i : Nat} {items : Array Value} {old : Value} {Q : Option Value → Shared → Prop} (jhq : A.handled = none)
    (jeq : IsEnum s.heap e it i old) (jitq : s.heap.IsTupleIter it l i) (jlq : s.heap.IsTuple l items) (jxq : items[i]? = none)
    (jQq : ∀ j'q, Heap.ExtBut it s.heap j'q → Q none { s with heap := j'q }) : wpAny (model prog w) A (pyNext (.ref e)) Q E s := by
  have jTq : s.TypeIs (.ref e) "enumerate" := ⟨_, jeq, rfl⟩
  unfold pyNext
  refine wpAny_bind (wpAny_attempt (wpAny_callSpecial?_slot (name := Str.ofString "__next__") jTq F.slot_enumerate_next
    (wpAny_call_entry F.slot_enumerate_next jTq F.entry_enumerate_next ?_ (F.args_enumerate_next_1 _))))
  show wpAny _ _ (field (.ref e) 2 >>= _) _ _ _
  refine wpAny_bind (wpAny_field jeq rfl (x := .ref it) rfl ?_)
  refine wpAny_bind (wpAny_nextOf_tuple_end jhq jitq jlq jxq fun j'q x je'q jx'q => ?_)
  obtain ⟨o, joq, jcq⟩ := jx'q
  refine wpAny_bind (wpAny_isInstance (T := "StopIteration") (b := true) ⟨o, joq, jcq⟩ isSubtype_stop ?_)
  exact wpAny_pure (jQq _ je'q)
/-- the tuple at a as it stands at each turn, each item in a new pair -/
def IteT (K : PySem.W.Frag) (a : Addr) : It :=
  ⟨fun i H => ∃ (xs : List V) (x : V), SqT K H a xs ∧ xs[i]? = some x, fun i H v H' => ∃ T x, v = .ref T ∧ H T = none ∧ H' = upd H T (.tup [.int (i : Nat), x]) ∧ ∀ xs, SqT K H a xs → xs[i]? = some x, fun i H => ∃ xs : List V, SqT K H a xs ∧ xs.length ≤ i⟩
theorem turn_enumT {P : Program} {w : World} {K : PySem.W.Frag} {elts : List Expr} {kk : Nat} {tpos : Pos} (a e it : Addr) :
    Turn P w K (.Tuple elts kk tpos) (IteT K a) [e, it] e (fun i jq => (∃ old, IsEnum jq e it ((i : Nat) : Int) old) ∧ jq.IsTupleIter it a i ∧ e ≠ it ∧ a ≠ it ∧ a ≠ e) where
  mem := by simp
  obj := fun i jq st b jbq => by
    obtain ⟨⟨old, jeq⟩, ⟨o, joq, jcq, jdq⟩, _⟩ := st
    have e' : b = e ∨ b = it := by simpa using jbq
    rcases e' with z | z
    · rw [z]; exact ⟨_, jeq, fun v q => nomatch q⟩
    · rw [z]; exact ⟨o, joq, fun v q => by rw [jdq] at q; cases q⟩
  keep := fun i jq j'q st k => let ⟨⟨old, jeq⟩, jiq, jneq⟩ := st; ⟨⟨old, k e (by simp) _ jeq⟩, jiq.at fun o q => k it (by simp) o q, jneq⟩
  item := by
    intro X jPq jwq jKq jcq i pins s σ H E I jfq st jgq
    subst jPq jwq jKq
    obtain ⟨⟨old, jeq⟩, jitq, jneq, jaiq, jaeq⟩ := st
    obtain ⟨xs, x, jqq, jxq⟩ := jgq
    obtain ⟨its, rv, p, jzq⟩ := I.tuple jqq
    obtain ⟨u, juq, ru⟩ := rv.get jxq
    have jelq : e < s.heap.objs.size := Heap.lt_size jeq
    have jilq : it < s.heap.objs.size := by obtain ⟨_, q, _⟩ := jitq; exact Heap.lt_size q
    have jltq : i < its.toArray.size := by
      have := (List.getElem?_eq_some_iff.mp juq).1
      simpa using this
    refine wpAny_pyNext_enum_itemD (Draws.tuple (A := X.A.in1) (I.ok.hd jcq) it a jaiq its.toArray) jeq ⟨jitq, p⟩ jltq jneq (by simp; exact ⟨jneq, fun z => jaeq z.symm⟩) fun y j'q tk jPq joq jit2q jTq jszq jkq => ?_
    obtain ⟨jit'q, _⟩ := jit2q
    have ey : y = u := by
      have : its[i]? = some y := by simpa using jPq
      exact Option.some.inj (this.symm.trans juq)
    subst ey
    refine ⟨_, rfl, wpAny_letOwnedTupleGo_enum (s := { s with heap := j'q, toks := tk + 1 }) joq fun j''q je'q sb => ?_⟩
    have jT2q : j''q.get? s.heap.objs.size = some { cls := .type "tuple", data := .seq #[.int i tk, y] } := (sb.2 _ (Nat.ne_of_gt jelq)).trans jTq
    have new : ObjOk X.prog X.w (upd H s.heap.objs.size (.tup [.int (i : Nat), x])) j''q s.heap.objs.size (.tup [.int (i : Nat), x]) :=
      ⟨by show 2 ≤ sizeLine; decide, [.int i tk, y], .cons ⟨_, rfl⟩ (.cons ru .nil), ⟨_, jT2q, rfl, _, rfl⟩⟩
    have I1 : Inv X pins σ (upd H s.heap.objs.size (.tup [.int (i : Nat), x])) { s with heap := j''q, toks := tk + 1 } :=
      I.turnedNew (ch := [e, it]) (fun b ob jbq q => (sb.2 b (fun z => jbq (by simp [z]))).trans (jkq b ob (fun z => jbq (by simp [z])) (fun z => jbq (by simp [z])) q)) jfq (Nat.le_refl _) new
    refine ⟨.ref s.heap.objs.size, _, I1, rfl, ⟨_, x, rfl, I.hok.fresh (Nat.le_refl _), rfl, fun ys jyq => by rw [I.tuple_inj jyq jqq]; exact jxq⟩, ⟨⟨y, ?_⟩, jit'q.at fun o q => (sb.2 it (Ne.symm jneq)).trans q, jneq, jaiq, jaeq⟩, fun b jbq => ?_⟩
    · have e1 : ((i + 1 : Nat) : Int) = (i : Int) + 1 := by omega
      rw [e1]; exact je'q
    · have jb'q : b < s.heap.objs.size := by
        have e' : b = e ∨ b = it := by simpa using jbq
        rcases e' with z | z
        · rw [z]; exact jelq
        · rw [z]; exact jilq
      rw [upd_ne (Nat.ne_of_lt jb'q)]
      exact (jfq b jbq).1
  done := by
    intro X jPq jwq jKq jcq i pins s σ H E I jfq st jgq
    subst jPq jwq jKq
    obtain ⟨⟨old, jeq⟩, jitq, jneq, jaiq, jaeq⟩ := st
    obtain ⟨xs, jqq, jxq⟩ := jgq
    obtain ⟨its, rv, p, jzq⟩ := I.tuple jqq
    obtain ⟨f0, f1, f2, f3, f4, f5⟩ := jfq it (by simp)
    have jlq := rv.length
    refine enumT_end (I.ok.hd jcq) jeq jitq p (by simp; omega) fun j'q eb => ⟨rfl, I.turned (t' := s.toks) (fun b o jbq q => eb b o jbq q) f0 f1 f3 f4 f5⟩
  self := fun A i s Q E st jq => let ⟨⟨_, jeq⟩, _⟩ := st; wpAny_pyIter_enum jeq jq
def iEnumT (K : PySem.W.Frag) (ta : TA) : TI := fun σ H R => ta σ H fun vs H1 => ∃ a xs, vs = [.ref a] ∧ SqT K H1 a xs ∧ R (IteT K a) H1
theorem pi_enumT {X : Cx} {e : Expr} {ta : TA} {p pos tpos : Pos} {elts : List Expr} {kk : Nat} (jgq : Gl X "enumerate") (jmq : X.mg "enumerate" = none) (jaq : PA X [e] ta) (jsq : starEach [e] X.env = [(false, eval e X.env)] := by rfl) :
    PI X (.Tuple elts kk tpos) (.Call (.Name "enumerate" p) [e] [] pos) (iEnumT X.K ta) := by
  refine ⟨fun pins s σ H R I jq => ?_⟩
  refine Call_ (ld_blt I jgq jmq boot_enumerate (PyProof.Rows.callWith_type1 (thn (jaq.run pos pins s σ H _ I jq) fun us s1 ⟨vs, H1, I1, r1, q1⟩ => ?_) jsq rfl))
  obtain ⟨a, xs, ex, jqq, q⟩ := q1
  subst ex
  cases r1 with
  | cons r rr =>
    cases rr
    cases r
    obtain ⟨its, rv, p', jzq⟩ := I1.tuple jqq
    have jalq : a < s1.heap.objs.size := by obtain ⟨_, z, _⟩ := p'; exact Heap.lt_size z
    refine call_enumT p' fun j'q jeq jitq jszq jkq => wpAny_pyIter_enum jeq ?_
    have I2 : Inv X pins σ H1 { s1 with heap := j'q } := I1.kept (t' := s1.toks) jkq
    refine ⟨s1.heap.objs.size + 1, [s1.heap.objs.size + 1, s1.heap.objs.size], _, _, H1, rfl, I2, turn_enumT a (s1.heap.objs.size + 1) s1.heap.objs.size, ⟨⟨.none, jeq⟩, jitq, Nat.succ_ne_self _, Nat.ne_of_lt jalq, fun z => Nat.lt_irrefl _ (Nat.lt_of_lt_of_le jalq (z ▸ Nat.le_succ _))⟩, fun b jbq => ?_, q⟩
    have e' : b = s1.heap.objs.size + 1 ∨ b = s1.heap.objs.size := by simpa using jbq
    have jleq : s1.heap.objs.size ≤ b := by
      rcases e' with z | z
      · rw [z]; exact Nat.le_add_right _ _
      · rw [z]; exact Nat.le_refl _
    exact I1.fpOk jleq (I1.hok.fresh jleq)
/-- the pairs (place, thing) -/
def enumD (ds : List D) : List D := ds.mapIdx fun i d => .tup [.int (i : Nat), d]
theorem itD_enumT {K : PySem.W.Frag} {G : Hp} {a : Addr} {vs : List V} {ds : List D} (jq : SqT K G a vs) (r : RpA K G vs ds) : ItD K G (IteT K a) (enumD ds) where
  go := fun i H G1 d jdq g s => by
    unfold enumD at jdq
    rw [List.getElem?_mapIdx] at jdq
    cases q : ds[i]? with
    | none => rw [q] at jdq; cases jdq
    | some d0 =>
      rw [q] at jdq
      have ed : d = .tup [.int (i : Nat), d0] := (Option.some.inj jdq).symm
      subst ed
      obtain ⟨v, jvq, rv⟩ := r.get q
      have jlq : SqT K H a vs := sqT_mono (g.trans s) jq
      refine ⟨⟨vs, v, jlq, jvq⟩, fun x H' y => ?_⟩
      obtain ⟨T, x', rfl, jTq, rfl, jyq⟩ := y
      have e : v = x' := Option.some.inj (jvq.symm.trans (jyq vs jlq))
      subst e
      have gr := Grow.new (o := .tup [.int (i : Nat), v]) s jTq
      exact ⟨_, gr, .tup upd_same (.cons (.int _) (.cons (rv.mono (g.trans gr.g)) .nil))⟩
  stop := fun H G1 g s => ⟨vs, sqT_mono (g.trans s) jq, by rw [r.length]; simp [enumD]⟩
section
variable {X : Cx} {T : Tb} {ρ ρ1 ρ2 : En} {pos p tpos : Pos} {e : Expr} {elts : List Expr} {kk : Nat} {ds : List D}
theorem ei_enumT (jmq : X.mg "enumerate" = none) (jaq : EX X T e ρ ρ1 (.tup ds)) (jgq : Gl X "enumerate" := by rfl) (jsq : starEach [e] X.env = [(false, eval e X.env)] := by rfl) : EI X T (.Tuple elts kk tpos) (.Call (.Name "enumerate" p) [e] [] pos) ρ ρ1 (enumD ds) :=
  pi_imp (pi_enumT jgq jmq (ea_cons jaq ea_nil jsq) jsq) fun σ H R ⟨B, G, S, q⟩ => ⟨B, G, S, fun vs G1 H1 g1 S1 r1 => by
    cases r1 with
    | cons r0 rn =>
      cases rn
      obtain ⟨a, xs, rfl, j1q, j2q⟩ := r0.tup_inv
      exact ⟨a, xs, rfl, sqT_mono S1.s j1q, q _ G1 H1 g1 S1 (itD_enumT j1q j2q)⟩⟩
end
end DL
set_option Elab.async false
set_option linter.all false
set_option maxRecDepth 100000
set_option maxHeartbeats 2000000
namespace DL
open PySem PySem.Spec PyProof.Rows L2
section
variable {X : Cx} {T : Tb} {ρ ρ1 ρ2 : En} {pos p : Pos} {a b e : Expr} {i j : Int} {d : D} {xs ys : List D} {tg iter : Expr} {ds ds' : List D}
theorem ei_eq (h : EI X T tg iter ρ ρ1 ds) (q : ds = ds') : EI X T tg iter ρ ρ1 ds' := q ▸ h
theorem ea_eq {es : List Expr} (h : EA X T es ρ ρ1 ds) (q : ds = ds') : EA X T es ρ ρ1 ds' := q ▸ h
theorem ex_max2 (hm : X.mg "max" = none) (ha : EX X T a ρ ρ1 (.int i)) (hb : EX X T b ρ1 ρ2 (.int j)) (hc : X.calm = true := by rfl) (hg : Gl X "max" := by rfl) (h1 : starEach [a, b] X.env = (false, eval a X.env) :: starEach [b] X.env := by rfl) (h2 : starEach [b] X.env = (false, eval b X.env) :: starEach [] X.env := by rfl) (hpl : (backTo pos (starEach [b] X.env)).any (·.1) = false := by rfl) :
    EX X T (.Call (.Name "max" p) [a, b] [] pos) ρ ρ2 (.int (if j > i then j else i)) :=
  ex_callB (call_max2 hc) hm (by decide +kernel) (ea_cons ha (ea_cons hb ea_nil h2) h1) rc_max2 hg (by decide) (by decide) h1 hpl
theorem ex_min2 (hm : X.mg "min" = none) (ha : EX X T a ρ ρ1 (.int i)) (hb : EX X T b ρ1 ρ2 (.int j)) (hc : X.calm = true := by rfl) (hg : Gl X "min" := by rfl) (h1 : starEach [a, b] X.env = (false, eval a X.env) :: starEach [b] X.env := by rfl) (h2 : starEach [b] X.env = (false, eval b X.env) :: starEach [] X.env := by rfl) (hpl : (backTo pos (starEach [b] X.env)).any (·.1) = false := by rfl) :
    EX X T (.Call (.Name "min" p) [a, b] [] pos) ρ ρ2 (.int (if j < i then j else i)) :=
  ex_callB (call_min2 hc) hm (by decide +kernel) (ea_cons ha (ea_cons hb ea_nil h2) h1) rc_min2 hg (by decide) (by decide) h1 hpl
theorem ex_abs (hm : X.mg "abs" = none) (ha : EX X T a ρ ρ1 (.int i)) (hg : Gl X "abs" := by rfl) (h1 : starEach [a] X.env = (false, eval a X.env) :: starEach [] X.env := by rfl) (hpl : (backTo pos (starEach [] X.env)).any (·.1) = false := by rfl) :
    EX X T (.Call (.Name "abs" p) [a] [] pos) ρ ρ1 (.int (if i < 0 then -i else i)) :=
  ex_callB call_abs hm (by decide +kernel) (ea_cons ha ea_nil h1) rc_abs hg (by decide) (by decide) h1 hpl
end
/-- a slot is forgotten -/
theorem Sta.drop {K : PySem.W.Frag} {T : Tb} {B : Bs} {G H : Hp} {ρ : En} {σ : L2.St} (S : Sta K T B G ρ σ H) (i : Nat) : Sta K T B G (ρ.set i .no) σ H := by
  have hl := paired_len S.sl
  by_cases h : i < σ.length
  · have h1 := S.setNo i (σ[i])
    rw [List.set_getElem_self] at h1
    exact h1
  · rw [List.set_eq_of_length_le (by omega)]
    exact S
theorem ess_drop {X : Cx} {T : Tb} {W : WX} {ρ : En} {st : List Stmt} {P : Out → Prop} (i : Nat) (h : ESs X T W st (ρ.set i .no) P) : ESs X T W st ρ P :=
  pss_imp h fun D σ H ⟨B, G, S, pp⟩ => ⟨B, G, S.drop i, pp⟩
theorem cut_upto {α : Type} {xs : List α} {k : Nat} (h : k ≤ xs.length) : cut xs none (some (k : Int)) = xs.take k := by
  unfold cut
  rw [HT.sIx_nat, HT.sIx_none, List.drop_zero, Nat.sub_zero, Nat.min_eq_left h]
theorem cut_from {α : Type} {xs : List α} {k : Nat} (h : k ≤ xs.length) : cut xs (some (k : Int)) none = xs.drop k := by
  unfold cut
  rw [HT.sIx_nat, HT.sIx_none, Nat.min_eq_left h]
  exact List.take_of_length_le (by rw [List.length_drop]; omega)
theorem cut_mid {α : Type} {xs : List α} {k l : Nat} (h : k ≤ xs.length) (h2 : l ≤ xs.length) : cut xs (some (k : Int)) (some (l : Int)) = (xs.drop k).take (l - k) := by
  unfold cut
  rw [HT.sIx_nat, HT.sIx_nat, Nat.min_eq_left h, Nat.min_eq_left h2]
end DL
set_option Elab.async false
set_option linter.all false
set_option maxRecDepth 100000
set_option maxHeartbeats 4000000
/-! sorted of tuples of ints, of any lengths -/
def DL.lexLt : List Int → List Int → Bool
  | [], [] => false
  | [], _ :: _ => true
  | _ :: _, [] => false
  | x :: xs, y :: ys => if x = y then DL.lexLt xs ys else decide (x < y)
namespace DL
open PySem PyProof.Rows
theorem lexLt_asym : ∀ x y, lexLt x y = true → lexLt y x = false
  | [], [], _ => rfl
  | [], _ :: _, _ => rfl
  | _ :: _, [], jq => nomatch jq
  | x :: xs, y :: ys, jq => by
    unfold lexLt at jq ⊢
    by_cases e : x = y
    · rw [if_pos e] at jq
      rw [if_pos e.symm]
      exact lexLt_asym xs ys jq
    · rw [if_neg e, decide_eq_true_eq] at jq
      rw [if_neg fun z => e z.symm, decide_eq_false_iff_not]
      omega
theorem lexLt_tr : ∀ x y z, lexLt y x = false → lexLt z y = false → lexLt z x = false
  | _, _, [], j1q, j2q => by
    rename_i x y
    cases x with
    | nil => rfl
    | cons a x =>
      cases y with
      | nil => cases j1q
      | cons b y => cases j2q
  | [], _, _ :: _, _, _ => rfl
  | x :: xs, [], z :: zs, j1q, _ => nomatch j1q
  | x :: xs, y :: ys, z :: zs, j1q, j2q => by
    unfold lexLt at j1q j2q ⊢
    by_cases e1 : y = x
    · rw [if_pos e1] at j1q
      by_cases e2 : z = y
      · rw [if_pos e2] at j2q
        rw [if_pos (e2.trans e1)]
        exact lexLt_tr xs ys zs j1q j2q
      · rw [if_neg e2, decide_eq_false_iff_not] at j2q
        rw [if_neg (by omega), decide_eq_false_iff_not]
        omega
    · rw [if_neg e1, decide_eq_false_iff_not] at j1q
      by_cases e2 : z = y
      · rw [if_neg (by omega), decide_eq_false_iff_not]
        omega
      · rw [if_neg e2, decide_eq_false_iff_not] at j2q
        rw [if_neg (by omega), decide_eq_false_iff_not]
        omega
theorem swo_lexLt : SrtO.Swo lexLt := ⟨lexLt_asym, lexLt_tr⟩
theorem lexAt_shift (e r : Nat → Bool) (z : Bool) : ∀ (k i : Nat), Ob.lexAt e r z (i + 1) k = Ob.lexAt (fun j => e (j + 1)) (fun j => r (j + 1)) z i k
  | 0, _ => rfl
  | k + 1, i => by rw [Ob.lexAt_succ, Ob.lexAt_succ, lexAt_shift e r z k (i + 1)]
theorem lexAt_lexLt : ∀ (ns ms : List Int), Ob.lexAt (fun j => decide (ns.getD j 0 = ms.getD j 0)) (fun j => decide (ns.getD j 0 < ms.getD j 0)) (decide (ns.length < ms.length)) 0 (min ns.length ms.length) = lexLt ns ms
  | [], [] => rfl
  | [], _ :: _ => by simp [lexLt, Ob.lexAt_zero]
  | _ :: _, [] => by simp [lexLt, Ob.lexAt_zero]
  | x :: xs, y :: ys => by
    have em : min (x :: xs).length (y :: ys).length = min xs.length ys.length + 1 := by simp only [List.length_cons]; omega
    rw [em, Ob.lexAt_succ, lexAt_shift]
    unfold lexLt
    have el : decide ((x :: xs).length < (y :: ys).length) = decide (xs.length < ys.length) := by simp
    by_cases e : x = y
    · rw [if_pos e, if_pos (by simpa using e), el]
      exact lexAt_lexLt xs ys
    · rw [if_neg e, if_neg (by simpa using e)]
      rfl
section
variable {prog : Program} {w : World} {A : Around} {E : Value → Shared → Prop} {s : Shared}
/-- the comparison of items when all are of one type -/
theorem oneLt_tup {x y : Addr} {xs ys : Array Value} {ns ms : List Int} {Q : Bool → Shared → Prop} (jxq : s.heap.IsTuple x xs) (jyq : s.heap.IsTuple y ys) (i1 : IntsAre xs.toList ns) (i2 : IntsAre ys.toList ms) (juq : A.units < cLine) (jq : Q (lexLt ns ms) s) :
    wpAny (model prog w) A (oneLt' true (.ref x) (.ref y)) Q E s := by
  have e1 : xs.size = ns.length := by rw [← Array.length_toList]; exact i1.length
  have e2 : ys.size = ms.length := by rw [← Array.length_toList]; exact i2.length
  have at1 : ∀ j (j1q : j < xs.size), ∃ t, xs[j] = .int (ns.getD j 0) t := fun j j1q => by
    have := PyProof.Rows.IntsAre.int_at i1 j xs[j] (by simp [j1q])
    exact this
  have at2 : ∀ j (j1q : j < ys.size), ∃ t, ys[j] = .int (ms.getD j 0) t := fun j j1q => by
    have := PyProof.Rows.IntsAre.int_at i2 j ys[j] (by simp [j1q])
    exact this
  obtain ⟨⟨cls, dd, data, sl⟩, joq, jcq, n, jdq⟩ := id jxq
  obtain ⟨⟨cls2, dd2, data2, sl2⟩, jo2q, jc2q, n2, jd2q⟩ := id jyq
  simp only at jcq jdq jc2q jd2q
  subst jcq jdq jc2q jd2q
  rw [oneLt'_eq]
  simp only [if_true]
  refine wpAny_bind (wpAny_cRoomFor juq ?_)
  refine wpAny_bind (wpAny_callSpecialIfBound?_slot (T := "tuple") ⟨_, joq, rfl⟩ F.slot_tuple_lt (call_meets F.slot_tuple_lt ⟨_, joq, rfl⟩ F.entry_tuple_lt (F.args_tuple_lt_2 _ _)
    (Ob.tuple_ltAt x y xs ys n n2 dd dd2 sl sl2 (fun j => decide (ns.getD j 0 = ms.getD j 0)) (fun j => decide (ns.getD j 0 < ms.getD j 0))) ⟨joq, jo2q, fun j j1q j2q => ?_, fun j j1q j2q _ => ?_, ?_⟩))
  · obtain ⟨t, et⟩ := at1 j j1q
    obtain ⟨t', et'⟩ := at2 j j2q
    rw [et, et']
    have z : (ns.getD j 0 == ms.getD j 0) = decide (ns.getD j 0 = ms.getD j 0) := Bool.beq_eq_decide_eq _ _
    rw [← z]
    exact SeqAt.EqAt.int_int _ _ _ _
  · obtain ⟨t, et⟩ := at1 j j1q
    obtain ⟨t', et'⟩ := at2 j j2q
    rw [et, et']
    exact Ob.RcOp.lt_int _ _ _ _
  · rw [e1, e2, lexAt_lexLt]
    show wpAny _ _ _ _ _ _
    exact wpAny_truthy_bool jq
/-- when all are tuples that are not empty -/
theorem katLex_ints : ∀ {us vs : List Value} {ns ms : List Int} {i : Nat}, IntsAre us ns → IntsAre vs ms → PySem.W.KatLex prog w A true (decide (us.length < vs.length)) (fun r s' => s' = s ∧ r = lexLt ns ms) (us.zip vs) i s
  | _, _, _, _, _, .nil, .nil => PySem.W.kat_nil ⟨rfl, rfl⟩
  | _, _, _, _, _, .nil, .cons n t jq => PySem.W.kat_nil ⟨rfl, rfl⟩
  | _, _, _, _, _, .cons n t jq, .nil => PySem.W.kat_nil ⟨rfl, rfl⟩
  | _, _, _, _, i, .cons (vs := us) (ns := ns) n t jq, .cons (vs := vs) (ns := ms) m u j'q => by
    rw [List.zip_cons_cons]
    refine PySem.W.kat_cons (SeqAt.EqAt.int_int n t m u prog w _ _ ?_)
    have el : decide ((Value.int n t :: us).length < (Value.int m u :: vs).length) = decide (us.length < vs.length) := by simp
    rw [el]
    refine PySem.W.kat_go (fun e => ?_) (fun e => ?_)
    · have e' : n = m := by simpa using e
      have q : lexLt (n :: ns) (m :: ms) = lexLt ns ms := by
        show (if n = m then lexLt ns ms else _) = _
        rw [if_pos e']
      rw [q]
      exact PySem.W.kat_yes (katLex_ints jq j'q)
    · have e' : ¬ n = m := by simpa using e
      have q : lexLt (n :: ns) (m :: ms) = decide (n < m) := by
        show (if n = m then lexLt ns ms else _) = _
        rw [if_neg e']
      rw [q]
      refine PySem.W.kat_no ?_
      generalize (true && i == 0) = b
      cases b with
      | true => exact oneLt_int ⟨rfl, rfl⟩
      | false => exact PySem.W.kat_one _ _ (PyProof.Rows.lt_int ⟨rfl, rfl⟩)
theorem tups_cmp {vs : List Value} (jpq : ∀ v ∈ vs, ∃ ns, TS.TupInts s.heap v ns) : SrtO.Cmp prog w A s (tuples' true) (fun p => p.1 ∈ vs) (SrtO.lt2 fun v u => lexLt (TS.intsOf s.heap v) (TS.intsOf s.heap u)) := by
  intro p q jmq jm'q
  obtain ⟨ns, t1⟩ := jpq _ jmq
  obtain ⟨ms, t2⟩ := jpq _ jm'q
  show wpAny (model prog w) A (keyLt' (tuples' true) p.1 q.1) (fun r s' => s' = s ∧ r = lexLt (TS.intsOf s.heap p.1) (TS.intsOf s.heap q.1)) (fun _ _ => False) s
  rw [t1.ints, t2.ints]
  obtain ⟨a, xs, e, ⟨o, joq, jcq, n, jdq⟩, i⟩ := t1
  obtain ⟨a', xs', e', ⟨o', jo'q, jc'q, n', jd'q⟩, i'⟩ := t2
  rw [e, e']
  refine PySem.W.kat_lt joq jdq jo'q jd'q ?_
  have el : decide (xs.size < xs'.size) = decide (xs.toList.length < xs'.toList.length) := by rw [Array.length_toList, Array.length_toList]
  rw [el]
  exact katLex_ints i i'
theorem tups_cmp1 {vs : List Value} (juq : A.units < cLine) (jpq : ∀ v ∈ vs, ∃ ns, TS.TupInts s.heap v ns) : SrtO.Cmp prog w A s oneType' (fun p => p.1 ∈ vs) (SrtO.lt2 fun v u => lexLt (TS.intsOf s.heap v) (TS.intsOf s.heap u)) := by
  intro p q jmq jm'q
  obtain ⟨ns, t1⟩ := jpq _ jmq
  obtain ⟨ms, t2⟩ := jpq _ jm'q
  show wpAny (model prog w) A (keyLt' oneType' p.1 q.1) (fun r s' => s' = s ∧ r = lexLt (TS.intsOf s.heap p.1) (TS.intsOf s.heap q.1)) (fun _ _ => False) s
  rw [t1.ints, t2.ints, keyLt'_oneType]
  obtain ⟨a, xs, e, jTq, i⟩ := t1
  obtain ⟨a', xs', e', jT'q, i'⟩ := t2
  rw [e, e']
  exact oneLt_tup jTq jT'q i i' juq ⟨rfl, rfl⟩
theorem kat_firsts1 {M : Model} : ∀ (vs : List Value) {Q : List (Option Value) → Shared → Prop}, (∀ v ∈ vs, ∃ ns, TS.TupInts s.heap v ns) → (∀ fs : List (Option Value), fs.map (·.isSome) = vs.map (fun v => !(TS.intsOf s.heap v).isEmpty) → Q fs s) → wpAny M A (vs.mapM firstOfTuple') Q E s
  | [], Q, _, jq => by rw [List.mapM_nil]; exact wpAny_pure (jq [] rfl)
  | v :: vs, Q, jpq, jq => by
    obtain ⟨ns, t⟩ := jpq v List.mem_cons_self
    have jiq := t.ints
    obtain ⟨a, xs, rfl, ⟨o, joq, jcq, n, jdq⟩, i⟩ := t
    rw [List.mapM_cons]
    refine wpAny_bind ?_
    rw [PySem.W.kas_first_eq]
    refine wpAny_bind (PySem.W.Looks.here (show PySem.W.Looks M s.heap (typeOf (.ref a)) o.cls from (PySem.W.Looks.ld joq).andThen .now) ?_)
    rw [jcq, if_neg (by first | decide | simp)]
    refine wpAny_bind (listItems_at joq jdq (wpAny_pure ?_))
    refine wpAny_bind (kat_firsts1 vs (Q := fun bs s' => wpAny M A (pure (xs[0]? :: bs)) Q E s') (fun v jvq => jpq v (List.mem_cons_of_mem _ jvq)) fun fs jfsq => wpAny_pure (jq _ ?_))
    rw [List.map_cons, List.map_cons, jfsq, jiq]
    congr 1
    have jlq : xs.size = ns.length := by rw [← Array.length_toList]; exact i.length
    cases ns with
    | nil =>
      have : xs[0]? = none := by rw [Array.getElem?_eq_none]; rw [jlq]; exact Nat.le_refl _
      rw [this]; rfl
    | cons m ns =>
      have : 0 < xs.size := by rw [jlq]; exact Nat.succ_pos _
      rw [Array.getElem?_eq_getElem this]; rfl
theorem kind_first_empty {vs : List Value} {v : Value} {rest : List Value} {Q : SortKind → Shared → Prop} (ev : vs = v :: rest) (jpq : ∀ v ∈ vs, ∃ ns, TS.TupInts s.heap v ns) (j0q : TS.intsOf s.heap v = []) (jq : Q oneType' s) : wpAny (model prog w) A (keyKind' vs.toArray) Q E s := by
  rw [keyKind'_eq, List.mapM_toArray, map_eq_pure_bind]
  refine wpAny_bind (wpAny_bind (kat_firsts1 vs jpq fun fs jfsq => wpAny_pure ?_))
  obtain ⟨f, fr, rfl⟩ : ∃ f fr, fs = f :: fr := by
    cases fs with
    | nil => rw [ev] at jfsq; cases jfsq
    | cons f fr => exact ⟨f, fr, rfl⟩
  have jfq : f = none := by
    rw [ev, List.map_cons, List.map_cons, j0q] at jfsq
    have := (List.cons.inj jfsq).1
    cases f with
    | none => rfl
    | some _ => cases this
  subst jfq
  rw [if_neg (by simp), if_neg (by simp)]
  rw [oneTypeOnly'_eq, List.mapM_toArray, map_eq_pure_bind]
  refine wpAny_bind (wpAny_bind (wpAny_bind (PySem.W.kas_mapM (r := Value.type "tuple") _ (fun v jvq Q' jqq => ?_) (wpAny_pure ?_))))
  · obtain ⟨ns, a, xs, rfl, ⟨o, joq, jcq, n, jdq⟩, i⟩ := jpq v jvq
    have := PySem.W.Looks.here (M := model prog w) (A := A) (E := E) (show PySem.W.Looks (model prog w) s.heap (typeOf (.ref a)) o.cls from (PySem.W.Looks.ld joq).andThen .now) (Q := Q') (s := s) (by rw [jcq]; exact jqq)
    exact this
  · have jall2q : ((List.map (fun _ => Value.type "tuple") vs).toArray.all fun x => x == Value.type "tuple") = true := by
      simp only [List.all_toArray, List.all_map, List.all_eq_true]
      intro _ _
      rfl
    have e0 : (List.map (fun _ => Value.type "tuple") vs).toArray[0]? = some (Value.type "tuple") := by rw [ev]; simp
    rw [e0]
    simp only [jall2q, if_true]
    exact wpAny_pure (wpAny_pure jq)
theorem firsts_ints {jq : Heap} : ∀ {vs : List Value}, (∀ v ∈ vs, ∃ ns, TS.TupInts jq v ns ∧ ns ≠ []) → ∃ fs : List Value, PySem.W.KatTups jq vs fs ∧ fs.length = vs.length ∧ ∀ f ∈ fs, ∃ x t, f = Value.int x t
  | [], _ => ⟨[], PySem.W.KatTups.nil, rfl, fun _ jmq => by simp at jmq⟩
  | v :: vs, jpq => by
    obtain ⟨fs, j1q, j2q, j3q⟩ := firsts_ints (vs := vs) fun v' jmq => jpq v' (List.mem_cons_of_mem _ jmq)
    obtain ⟨ns, ⟨a, xs, e, ⟨o, joq, jcq, n, jdq⟩, i⟩, jneq⟩ := jpq v (List.mem_cons_self ..)
    subst e
    cases ns with
    | nil => exact absurd rfl jneq
    | cons m ns =>
      obtain ⟨x, ex⟩ : ∃ x, xs.toList = x :: xs.toList.tail := by
        cases jqq : xs.toList with
        | nil => rw [jqq] at i; cases i
        | cons x r => exact ⟨x, rfl⟩
      rw [ex] at i
      cases i with
      | cons _ t _ =>
        refine ⟨.int m t :: fs, PySem.W.KatTups.cons joq jcq jdq ?_ j1q, by rw [List.length_cons, List.length_cons, j2q], fun f jmq => ?_⟩
        · rw [← Array.getElem?_toList, ex]; rfl
        · rcases List.mem_cons.mp jmq with rfl | jmq
          · exact ⟨m, t, rfl⟩
          · exact j3q f jmq
theorem tups_sortable {a : Addr} {vs : List Value} (juq : A.units < cLine) (j0q : 0 < vs.length) (jpq : ∀ v ∈ vs, ∃ ns, TS.TupInts s.heap v ns) (jkq : (∀ v ∈ vs, TS.intsOf s.heap v ≠ []) ∨ ∃ v rest, vs = v :: rest ∧ TS.intsOf s.heap v = []) (jaq : ∀ o, s.heap.get? a = some o → o.cls ≠ .type "tuple") :
    SrtO.SortableO prog w A s a vs fun v u => lexLt (TS.intsOf s.heap v) (TS.intsOf s.heap u) := by
  intro j'q keep
  have kp : ∀ v ns, TS.TupInts s.heap v ns → TS.TupInts j'q v ns := fun v ns t => t.keeps fun b o e c => keep b o (fun z => by subst z; exact jaq o e c) e
  have jp'q : ∀ v ∈ vs, ∃ ns, TS.TupInts j'q v ns := fun v jmq => by
    obtain ⟨ns, t⟩ := jpq v jmq
    exact ⟨ns, kp v ns t⟩
  have ei : ∀ v ∈ vs, TS.intsOf j'q v = TS.intsOf s.heap v := fun v jmq => by
    obtain ⟨ns, t⟩ := jpq v jmq
    rw [(kp v ns t).ints, t.ints]
  have conv : ∀ {κ : SortKind}, SrtO.Cmp prog w A { s with heap := j'q } κ (fun p => p.1 ∈ vs) (SrtO.lt2 fun v u => lexLt (TS.intsOf j'q v) (TS.intsOf j'q u)) → SrtO.Cmp prog w A { s with heap := j'q } κ (fun p => p.1 ∈ vs) (SrtO.lt2 fun v u => lexLt (TS.intsOf s.heap v) (TS.intsOf s.heap u)) := fun c p q jmq jm'q => by
    have := c p q jmq jm'q
    have e : SrtO.lt2 (fun v u => lexLt (TS.intsOf j'q v) (TS.intsOf j'q u)) p q = SrtO.lt2 (fun v u => lexLt (TS.intsOf s.heap v) (TS.intsOf s.heap u)) p q := by
      show lexLt (TS.intsOf j'q p.1) (TS.intsOf j'q q.1) = lexLt (TS.intsOf s.heap p.1) (TS.intsOf s.heap q.1)
      rw [ei _ jmq, ei _ jm'q]
    rw [e] at this
    exact this
  rcases jkq with jkq | ⟨v, rest, ev, jvq⟩
  · obtain ⟨fs, j1q, j2q, j3q⟩ := firsts_ints (jq := j'q) (vs := vs) fun v jmq => by
      obtain ⟨ns, t⟩ := jp'q v jmq
      refine ⟨ns, t, fun z => jkq v jmq ?_⟩
      rw [← ei v jmq, t.ints, z]
    refine ⟨tuples' true, fun Q E jqq => ?_, conv (tups_cmp (s := { s with heap := j'q }) jp'q)⟩
    refine PySem.W.kat_kind (T := .type "int") j1q (by omega) (fun f jmq => ?_) (by rfl) ?_
    · obtain ⟨x, t, rfl⟩ := j3q f jmq
      exact PySem.W.Looks.now
    · have e : (Value.type "int" != Value.type "tuple") = true := by first | decide +kernel | rfl | decide
      rw [e]
      exact jqq
  · refine ⟨oneType', fun Q E jqq => ?_, conv (tups_cmp1 (s := { s with heap := j'q }) juq jp'q)⟩
    exact kind_first_empty (s := { s with heap := j'q }) ev jp'q (by rw [ei v (by rw [ev]; exact List.mem_cons_self)]; exact jvq) jqq
theorem sorted_tupsI {l : Addr} {vs : List Value} {Q : Value → Shared → Prop} (jlq : s.heap.IsList l vs.toArray) (juq : A.units + 2 < cLine) (jzq : vs.length ≤ sizeLine) (jpq : ∀ v ∈ vs, ∃ ns, TS.TupInts s.heap v ns) (jkq : (∀ v ∈ vs, TS.intsOf s.heap v ≠ []) ∨ ∃ v rest, vs = v :: rest ∧ TS.intsOf s.heap v = [])
    (jq : ∀ (j'q : Heap) (d : Addr) (out : List Value), SrtO.Srtd (fun v u => lexLt (TS.intsOf s.heap v) (TS.intsOf s.heap u)) out → SrtO.Stb (fun v u => lexLt (TS.intsOf s.heap v) (TS.intsOf s.heap u)) out vs → (∀ b o, s.heap.get? b = some o → j'q.get? b = some o) → s.heap.objs.size ≤ d → (∃ n, j'q.get? d = some (seqObj "list" out.toArray n)) → Q (.ref d) { s with heap := j'q }) :
    wpAny (model prog w) A (call (.builtin "sorted") [.ref l]) Q E s := by
  refine SrtO.sorted_ord (ltv := fun v u => lexLt (TS.intsOf s.heap v) (TS.intsOf s.heap u)) ⟨fun x y => lexLt_asym _ _, fun x y z => lexLt_tr _ _ _⟩ jlq jzq (fun j2q j₁q a jaq kk => ?_) fun out jsq jbq => ?_
  · have kp : ∀ v ns, TS.TupInts s.heap v ns → TS.TupInts j₁q v ns := fun v ns t => t.keeps fun b o e _ => (kk b o e).2
    have ei : ∀ v ∈ vs, TS.intsOf j₁q v = TS.intsOf s.heap v := fun v jmq => by
      obtain ⟨ns, t⟩ := jpq v jmq
      rw [(kp v ns t).ints, t.ints]
    have r := tups_sortable (prog := prog) (w := w) (A := A.in1.in1) (s := { s with heap := j₁q }) (a := a) (vs := vs) juq (by omega) (fun v jmq => by
      obtain ⟨ns, t⟩ := jpq v jmq
      exact ⟨ns, kp v ns t⟩) (by
      rcases jkq with jkq | ⟨v, rest, ev, jvq⟩
      · exact .inl fun v jmq => by
          show TS.intsOf j₁q v ≠ []
          rw [ei v jmq]; exact jkq v jmq
      · exact .inr ⟨v, rest, ev, by
          show TS.intsOf j₁q v = []
          rw [ei v (by rw [ev]; exact List.mem_cons_self)]; exact jvq⟩) fun o e => by
      have e' : some o = some (seqObj "list" vs.toArray 0) := e.symm.trans jaq
      cases e'
      intro c
      exact absurd (Value.type.inj c) (by decide)
    intro j'q keep
    obtain ⟨κ, k1, k2⟩ := r j'q keep
    refine ⟨κ, k1, fun p q jmq jm'q => ?_⟩
    have := k2 p q jmq jm'q
    have e : SrtO.lt2 (fun v u => lexLt (TS.intsOf j₁q v) (TS.intsOf j₁q u)) p q = SrtO.lt2 (fun v u => lexLt (TS.intsOf s.heap v) (TS.intsOf s.heap u)) p q := by
      show lexLt (TS.intsOf j₁q p.1) (TS.intsOf j₁q q.1) = lexLt (TS.intsOf s.heap p.1) (TS.intsOf s.heap q.1)
      rw [ei _ jmq, ei _ jm'q]
    have this' : wpAny (model prog w) A.in1.in1 (keyLt' κ p.1 q.1) (fun r s' => s' = { s with heap := j'q } ∧ r = SrtO.lt2 (fun v u => lexLt (TS.intsOf j₁q v) (TS.intsOf j₁q u)) p q) (fun _ _ => False) { s with heap := j'q } := this
    rw [e] at this'
    exact this'
  · exact jq _ _ out jsq jbq (fun b o e => sortedAll_old e) (Nat.le_succ _) (sortedAll_at s.heap vs out.toArray)
end
end DL
namespace DL
open PySem PySem.Spec PyProof.Rows L2
/-- sorted(xs), xs a list of tuples of ints -/
def rSortTI (K : PySem.W.Frag) (L : List (List Int)) : List V → Hp → VK → Prop := fun vs H Q => ∃ (a : Addr) (xs : List V) (ks : List (List Int)) (Pd : V → List Int → Prop), vs = [V.ref a] ∧ SqL K H a xs ∧ (∀ x ns, Pd x ns → TupI K H x ns) ∧ Paired Pd xs ks ∧
  ((∀ ns ∈ ks, ns ≠ []) ∨ ∃ r, ks = [] :: r) ∧ SrtO.Srtd lexLt L ∧ SrtO.Stb lexLt L ks ∧ ∀ (ys : List V) (p : Addr), Paired Pd ys L → H p = none → Q (.ref p) (upd H p (.lst ys))
theorem paired_mem {α β : Type} {F : α → β → Prop} : ∀ {l₁ : List α} {l₂ : List β} {a : α}, Paired F l₁ l₂ → a ∈ l₁ → ∃ b, b ∈ l₂ ∧ F a b
  | _, _, _, .nil, jq => nomatch jq
  | _, _, a, .cons r t, jq => by
    rcases List.mem_cons.mp jq with e | jq
    · subst e; exact ⟨_, List.mem_cons_self, r⟩
    · obtain ⟨b, j1q, j2q⟩ := paired_mem t jq
      exact ⟨b, List.mem_cons_of_mem _ j1q, j2q⟩
theorem paired_map_of {α β γ : Type} {F : α → β → Prop} {f : γ → α} {g : γ → β} : ∀ {l : List γ}, (∀ c ∈ l, F (f c) (g c)) → Paired F (l.map f) (l.map g)
  | [], _ => .nil
  | c :: l, jq => .cons (jq c List.mem_cons_self) (paired_map_of fun d jdq => jq d (List.mem_cons_of_mem _ jdq))
section
variable {X : Cx}
theorem cr_sortTI {L : List (List Int)} (juq : X.A.units + 65 < cLine) : CallR X (.builtin "sorted") (rSortTI X.K L) := by
  intro pins s σ H vs us Q I r jq
  obtain ⟨a, xs, ks, Pd, rfl, jsq, jPdq, pr, jkq, sL, bL, q⟩ := jq
  obtain ⟨its, rv, jlq, jzq⟩ := I.list jsq
  rw [Vals.ref1 r]
  obtain ⟨e1, e2⟩ := bkV_refs rv fun x m => by
    obtain ⟨ns, _, jpq⟩ := paired_mem pr m
    obtain ⟨t, e, _⟩ := jPdq x ns jpq
    exact ⟨t, e⟩
  have raw : ∀ v ∈ its, ∃ ns, Pd (bkV v) ns ∧ TS.TupInts s.heap v ns ∧ ns ∈ ks := fun v jvq => by
    obtain ⟨t, rfl⟩ := e2 v jvq
    have jmq : V.ref t ∈ xs := by
      rw [e1]
      exact List.mem_map.mpr ⟨_, jvq, rfl⟩
    obtain ⟨ns, jnq, jpq⟩ := paired_mem pr jmq
    obtain ⟨t', e, jtq⟩ := jPdq _ ns jpq
    cases e
    exact ⟨ns, jpq, tupI_raw I jtq, jnq⟩
  have ek : its.map (TS.intsOf s.heap) = ks := by
    have : ∀ (its : List Value) (ks : List (List Int)), Paired Pd (its.map bkV) ks → (∀ v ∈ its, ∃ a, v = Value.ref a) → its.map (TS.intsOf s.heap) = ks := by
      intro its
      induction its with
      | nil => intro ks p _; cases p; rfl
      | cons v r ih =>
        intro ks p jq
        cases p with
        | cons j1q t =>
          rw [List.map_cons, ih _ t fun u juq => jq u (List.mem_cons_of_mem _ juq)]
          congr 1
          obtain ⟨a, rfl⟩ := jq v List.mem_cons_self
          obtain ⟨t', e, jtq⟩ := jPdq _ _ j1q
          cases e
          exact (tupI_raw I jtq).ints
    exact this its ks (by rw [← e1]; exact pr) e2
  refine sorted_tupsI jlq.isList (by omega) (by rw [← rv.length]; exact jzq) (fun v jvq => ?_) ?_ fun j'q d out j1q j2q kp jdq jnq => ?_
  · obtain ⟨ns, _, t, _⟩ := raw v jvq
    exact ⟨ns, t⟩
  · rcases jkq with jkq | ⟨kr, ekr⟩
    · refine .inl fun v jvq => ?_
      have : TS.intsOf s.heap v ∈ its.map (TS.intsOf s.heap) := List.mem_map.mpr ⟨v, jvq, rfl⟩
      rw [ek] at this
      exact jkq _ this
    · rw [ekr] at ek
      cases its with
      | nil => cases ek
      | cons v rest => exact .inr ⟨v, rest, rfl, (List.cons.inj ek).1⟩
  · obtain ⟨n, jnq⟩ := jnq
    have jmq : ∀ u ∈ out, u ∈ its := fun u juq => j2q.perm.mem_iff.mp juq
    have j3q : ∀ u ∈ out, ∃ a, u = Value.ref a := fun u juq => e2 u (jmq u juq)
    have eL : out.map (TS.intsOf s.heap) = L := by
      refine SrtO.stb_uniq swo_lexLt (SrtO.srtd_map j1q) sL ?_
      have b1 := SrtO.Stb.map swo_lexLt (TS.intsOf s.heap) j2q
      rw [ek] at b1
      exact ⟨b1.perm.trans bL.perm.symm, fun x => (b1.cls x).trans (bL.cls x).symm⟩
    refine ⟨.ref d, upd H d (.lst (out.map bkV)), I.laid (t' := s.toks) kp jdq ⟨?_, out, n, bkV_vals j3q, jnq⟩, rfl, q _ d ?_ (I.hok.fresh jdq)⟩
    · rw [List.length_map, j2q.len, ← rv.length]
      exact jzq
    · rw [← eL]
      refine paired_map_of fun u juq => ?_
      obtain ⟨ns, jpq, t, _⟩ := raw u (jmq u juq)
      rw [t.ints]
      exact jpq
end
def dTup (r : List Int) : D := .tup (r.map D.int)
theorem rpA_paired {K : PySem.W.Frag} {G : Hp} {ks : List (List Int)} : ∀ {vs : List V}, RpA K G vs (ks.map dTup) → Paired (fun x ns => Rp K G x (dTup ns)) vs ks := by
  induction ks with
  | nil => intro vs r; cases r; exact .nil
  | cons k ks ih =>
    intro vs r
    cases r with
    | cons jq t => exact .cons jq (ih t)
theorem paired_rpA {K : PySem.W.Frag} {G : Hp} : ∀ {vs : List V} {ks : List (List Int)}, Paired (fun x ns => Rp K G x (dTup ns)) vs ks → RpA K G vs (ks.map dTup)
  | _, _, .nil => .nil
  | _, _, .cons jq t => .cons jq (paired_rpA t)
theorem rc_sortTI {K : PySem.W.Frag} {ks L : List (List Int)} (jkq : (∀ ns ∈ ks, ns ≠ []) ∨ ∃ r, ks = [] :: r) (sL : SrtO.Srtd lexLt L) (bL : SrtO.Stb lexLt L ks) : RC K (rSortTI K L) [.lst (ks.map dTup)] (.lst (L.map dTup)) := fun G H vs Q r s q => by
  cases r with
  | cons r0 rn =>
    cases rn
    obtain ⟨p, ys, rfl, jpq, ra⟩ := r0.lst_inv
    refine ⟨p, ys, ks, fun x ns => Rp K G x (dTup ns), rfl, .inl (.inl (s _ _ jpq)), fun x ns jq => ?_, rpA_paired ra, jkq, sL, bL, fun zs l pz jnq => ?_⟩
    · obtain ⟨a, us, rfl, j1q, j2q⟩ := jq.tup_inv
      rw [j2q.ints] at j1q
      exact ⟨a, rfl, sqT_mono s j1q⟩
    · have g := Grow.new (o := .lst zs) s jnq
      exact q _ _ _ g (.lst upd_same ((paired_rpA pz).mono g.g))
/-- a list that is sorted already, whose items all differ -/
theorem stb_self (L : List (List Int)) : SrtO.Stb lexLt L L := SrtO.Stb.refl L
theorem ex_sorted {X : Cx} {T : Tb} {ρ ρ1 : En} {k : Nat} {p pos : Pos} {e : Expr} {ks L : List (List Int)} (jrq : Room k X.A) (jmq : X.mg "sorted" = none) (jeq : EX X T e ρ ρ1 (.lst (ks.map dTup))) (jkq : (∀ ns ∈ ks, ns ≠ []) ∨ ∃ r, ks = [] :: r) (sL : SrtO.Srtd lexLt L) (bL : SrtO.Stb lexLt L ks)
    (jgq : Gl X "sorted" := by rfl) (j1q : starEach [e] X.env = (false, eval e X.env) :: starEach [] X.env := by rfl) (jplq : (backTo pos (starEach [] X.env)).any (·.1) = false := by rfl) : EX X T (.Call (.Name "sorted" p) [e] [] pos) ρ ρ1 (.lst (L.map dTup)) :=
  ex_callB (cr_sortTI (room65 jrq)) jmq (by decide +kernel) (ea_cons jeq ea_nil j1q) (rc_sortTI jkq sL bL) jgq (by decide) (by decide) j1q jplq
end DL
set_option Elab.async false
set_option linter.all false
set_option maxRecDepth 100000
set_option maxHeartbeats 4000000
namespace DL
open PySem PySem.Spec PyProof.Rows L2
/-! ### dict(pairs) whose keys are tuples -/
theorem storedAllH_nodup {κ : Type} [DecidableEq κ] : ∀ (ps acc : List (κ × Addr × Value)), ((acc ++ ps).map (·.1)).Nodup → storedAllH acc ps = acc ++ ps
  | [], acc, _ => by rw [List.append_nil]; rfl
  | p :: ps, acc, jq => by
    have jnq : atKey acc p.1 = none := by
      unfold atKey
      rw [Option.map_eq_none_iff, List.find?_eq_none]
      intro x jxq
      rw [decide_eq_true_eq]
      intro e
      rw [List.map_append, List.map_cons] at jq
      have := (List.nodup_append.mp jq).2.2 x.1 (List.mem_map.mpr ⟨x, jxq, rfl⟩) p.1 List.mem_cons_self
      exact this e
    show storedAllH (storedH acc p.1 p.2.1 p.2.2) ps = _
    rw [storedH_new jnq, storedAllH_nodup ps (acc ++ [(p.1, p.2.1, p.2.2)]) (by rw [List.append_assoc]; exact jq), List.append_assoc]
    rfl
/-- the pairs (key, value), the keys tracked tuples -/
def PrT (K : PySem.W.Frag) (H : Hp) (p : Addr) (kv : List Key × V) : Prop := ∃ b, SqT K H p [.ref b, kv.2] ∧ H b = some (.tup (kv.1.map kV))
section
variable {X : Cx}
theorem prT_of {pins : List (Addr × Obj)} {σ : L2.St} {H : Hp} {s : Shared} (I : Inv X pins σ H s) : ∀ {ps : List Addr} {kvs : List (List Key × V)}, Paired (PrT X.K H) ps kvs →
    ∃ xs : List (List Key × Addr × Value), KT H kvs xs ∧ xs.length = ps.length ∧ ∀ (j : Nat) (q : List Key × Addr × Value), xs[j]? = some q → ∃ b0 : Addr, ps[j]? = some b0 ∧ s.heap.IsTuple b0 #[.ref q.2.1, q.2.2]
  | _, _, .nil => ⟨[], .nil, rfl, fun j q e => by simp at e⟩
  | _, _, .cons (a := p) (b := kv) jq t => by
    obtain ⟨xs, r, jlq, jpq⟩ := prT_of I t
    obtain ⟨b, j1q, j2q⟩ := jq
    obtain ⟨its, rv, jtq, _⟩ := I.tuple j1q
    obtain ⟨u, y, ei, ru, ry⟩ := vals2 rv
    subst ei
    cases (show u = Value.ref b from ru)
    refine ⟨(kv.1, b, y) :: xs, .cons ⟨rfl, j2q, ry⟩ r, by rw [List.length_cons, List.length_cons, jlq], fun j q e => ?_⟩
    cases j with
    | zero =>
      have e' : (kv.1, b, y) = q := Option.some.inj e
      subst e'
      exact ⟨p, rfl, jtq⟩
    | succ j =>
      obtain ⟨b', e1, e2⟩ := jpq j q (by simpa using e)
      exact ⟨b', by simpa using e1, e2⟩
def rDictPT (K : PySem.W.Frag) : List V → Hp → VK → Prop := fun vs H Q => ∃ (a : Addr) (ps : List Addr) (kvs : List (List Key × V)), vs = [.ref a] ∧ SqL K H a (ps.map V.ref) ∧ Paired (PrT K H) ps kvs ∧ (kvs.map (·.1)).Nodup ∧
    ∀ p od, H p = none → Q (.ref p) (upd H p (.frz od (.dT kvs)))
theorem cr_dictPT (jcalmq : X.calm = true) (juq : X.A.units + 65 < cLine) : CallR X (.type "dict") (rDictPT X.K) := by
  intro pins s σ H xs us Q I r q
  obtain ⟨a, ps, kvs, ex, jqq, jpq, jndq, q⟩ := q
  subst ex
  rw [Vals.ref1 r]
  obtain ⟨its, rv, pl, jzq⟩ := I.list jqq
  have ei := refs_at rv
  subst ei
  rw [List.length_map] at jzq
  obtain ⟨xs, kt, jlq, jprq⟩ := prT_of I jpq
  have ek : kvs.map (·.1) = xs.map (·.1) := by
    clear jndq jpq jprq q jlq
    induction kt with
    | nil => rfl
    | cons jq t ih => rw [List.map_cons, List.map_cons, jq.1, ih]
  have jlenq : kvs.length = xs.length := Paired.length kt
  obtain ⟨o, n, joq, jcq, jdq, jdatq⟩ := pl
  have jPIq : PairItems s.heap (ps.map Value.ref).toArray (fun j => ps.getD j 0) (xs.map fun q => (Value.ref q.2.1, q.2.2)) := by
    refine ⟨by simp [jlq], fun j k v jjq => ?_⟩
    rw [List.getElem?_map] at jjq
    cases jxq : xs[j]? with
    | none => rw [jxq] at jjq; cases jjq
    | some q' =>
      rw [jxq] at jjq
      obtain ⟨b0, e1, e2⟩ := jprq j q' jxq
      have eq' : (Value.ref q'.2.1, q'.2.2) = (k, v) := Option.some.inj jjq
      cases eq'
      refine ⟨?_, .inl ?_⟩
      · simp [e1]
      · show s.heap.IsTuple (ps.getD j 0) _
        rw [List.getD_eq_getElem?_getD, e1]
        exact e2
  refine call_dict_pairsH (knd := tupleKind (mixKind X.prog X.w)) (ps := xs) (PairArg.list a (ps.map Value.ref).toArray (fun j => ps.getD j 0) (xs.map fun q => (Value.ref q.2.1, q.2.2))) (I.ok.hd jcalmq) (show X.A.units + 1 + 1 < cLine by omega) ⟨⟨o, n, joq, jcq, jdq, jdatq⟩, jPIq⟩ ⟨by simp, fun i key v jrq => ?_⟩ (fun j'q jkq x jxq => ?_) (by simp; omega) fun j'q tk jd'q k => ?_
  · rw [PairRel, List.getElem?_map] at jrq
    cases jxq : xs[i]? with
    | none => rw [jxq] at jrq; cases jrq
    | some q' =>
      rw [jxq] at jrq
      have eq' : (Value.ref q'.2.1, q'.2.2) = (key, v) := Option.some.inj jrq
      cases eq'
      exact ⟨q'.1, q'.2.1, rfl, rfl⟩
  · have : ∀ {l : List (List Key × V)} {m : List (List Key × Addr × Value)}, KT H l m → ∀ x ∈ m, H x.2.1 = some (.tup (x.1.map kV)) := by
      intro l m q
      induction q with
      | nil => intro x jxq; exact nomatch jxq
      | @cons p q ps qs jqq t ih =>
        intro x jxq
        rcases List.mem_cons.mp jxq with e | jxq
        · subst e; rw [← jqq.1]; exact jqq.2.1
        · exact ih x jxq
    obtain ⟨o', its', n', j1q, j2q, j3q, j4q⟩ := key_of I.hok (this kt x jxq)
    exact ⟨o', its', n', jkq _ _ (Nat.ne_of_lt (Heap.lt_size j1q)) (by simp) j1q, j2q, j3q, j4q⟩
  · rw [storedAllH_nodup xs [] (by rw [List.nil_append, ← ek]; exact jndq), List.nil_append] at jd'q
    obtain ⟨od, es, ep, jq'q, j2q, j3q, j4q, _, j5q⟩ := jd'q
    have jmq : (s.heap.objs.size == sysModules) = false := beq_eq_false_iff_ne.mpr (Nat.ne_of_gt I.big)
    refine ⟨.ref s.heap.objs.size, upd H s.heap.objs.size (.frz od (.dT kvs)), I.laid (t' := tk) (fun b u e => k b u (by simp) e) (Nat.le_refl _) ⟨jq'q, by rw [jlenq, jlq]; exact jzq, jmq, xs, kt.keeps fun c ys ec => ?_, od, es, ep, jq'q, j2q, j3q, j4q, j5q⟩, rfl, q _ od (I.hok.fresh (Nat.le_refl _))⟩
    rw [upd_ne fun z => by rw [z, I.hok.fresh (Nat.le_refl _)] at ec; cases ec]
    exact ec
end
/-- the key as data -/
def dK : Key → D
  | .inl i => .int i
  | .inr x => .str x
theorem dK_inv {K : PySem.W.Frag} {G : Hp} {v : V} : ∀ {k : Key}, Rp K G v (dK k) → v = kV k
  | .inl i, jq => jq.int_inv
  | .inr x, jq => jq.str_inv
theorem rp_kV {K : PySem.W.Frag} {G : Hp} : ∀ k : Key, Rp K G (kV k) (dK k)
  | .inl i => .int i
  | .inr x => .str x
theorem rpA_kVs {K : PySem.W.Frag} {G : Hp} : ∀ ks : List Key, RpA K G (ks.map kV) (ks.map dK)
  | [] => .nil
  | k :: ks => .cons (rp_kV k) (rpA_kVs ks)
theorem rpA_kV {K : PySem.W.Frag} {G : Hp} : ∀ {ks : List Key} {vs : List V}, RpA K G vs (ks.map dK) → vs = ks.map kV
  | [], _, jq => by cases jq; rfl
  | k :: ks, _, jq => by
    cases jq with
    | cons jq t => rw [dK_inv jq, rpA_kV t]; rfl
/-- a pair of the dict, as data -/
def prD (kv : List Key × D) : D := .tup [.tup (kv.1.map dK), kv.2]
theorem rpK_of {K : PySem.W.Frag} {G : Hp} : ∀ {es : List (List Key × D)} {vs : List V}, RpA K G vs (es.map prD) → ∃ (ps : List Addr) (kvs : List (List Key × V)), vs = ps.map V.ref ∧ Paired (PrT K G) ps kvs ∧ RpK K G kvs es ∧ kvs.map (·.1) = es.map (·.1)
  | [], _, jq => by cases jq; exact ⟨[], [], rfl, .nil, .nil, rfl⟩
  | e :: es, _, jq => by
    cases jq with
    | cons jq t =>
      obtain ⟨ps, kvs, e1, e2, e3, e4⟩ := rpK_of t
      obtain ⟨a, xs, rfl, jaq, rx⟩ := jq.tup_at
      cases rx with
      | cons jkq rx =>
        cases rx with
        | @cons v _ _ _ jvq rx =>
          cases rx
          obtain ⟨b, ys, rfl, jbq, ry⟩ := jkq.tup_at
          rw [rpA_kV ry] at jbq
          exact ⟨a :: ps, (e.1, v) :: kvs, by rw [e1]; rfl, .cons ⟨b, .inl (.inl jaq), jbq⟩ e2, .cons jvq e3, by rw [List.map_cons, List.map_cons, e4]⟩
theorem prT_mono {K : PySem.W.Frag} {G H : Hp} (s : Same G H) {ps : List Addr} {kvs : List (List Key × V)} (jq : Paired (PrT K G) ps kvs) : Paired (PrT K H) ps kvs :=
  Paired.mapP jq fun _ _ ⟨b, j1q, j2q⟩ => ⟨b, sqT_mono s j1q, s _ _ j2q⟩
theorem rc_dictPT {K : PySem.W.Frag} {es : List (List Key × D)} (jnq : (es.map (·.1)).Nodup) : RC K (rDictPT K) [.lst (es.map prD)] (.dct es) := fun G H vs Q r s q => by
  cases r with
  | cons r0 rn =>
    cases rn
    obtain ⟨p, ys, rfl, jpq, ra⟩ := r0.lst_inv
    obtain ⟨ps, kvs, e1, e2, e3, e4⟩ := rpK_of ra
    subst e1
    refine ⟨p, ps, kvs, rfl, .inl (.inl (s _ _ jpq)), prT_mono s e2, by rw [e4]; exact jnq, fun l od jlq => ?_⟩
    have g := Grow.new (o := .frz od (.dT kvs)) s jlq
    exact q _ _ _ g (.dct upd_same (e3.mono g.g))
theorem ex_dictPT {X : Cx} {T : Tb} {ρ ρ1 : En} {k : Nat} {p pos : Pos} {e : Expr} {es : List (List Key × D)} (jrq : Room k X.A) (jmq : X.mg "dict" = none) (jeq : EX X T e ρ ρ1 (.lst (es.map prD))) (jnq : (es.map (·.1)).Nodup) (jcq : X.calm = true := by rfl)
    (jgq : Gl X "dict" := by rfl) (j1q : starEach [e] X.env = (false, eval e X.env) :: starEach [] X.env := by rfl) (jplq : (backTo pos (starEach [] X.env)).any (·.1) = false := by rfl) : EX X T (.Call (.Name "dict" p) [e] [] pos) ρ ρ1 (.dct es) :=
  ex_callTy (cr_dictPT jcq (room65 jrq)) jmq (by decide +kernel) (ea_cons jeq ea_nil j1q) (rc_dictPT jnq) jgq (by decide) (by decide) j1q jplq
/-! ### d[k] -/
def valD (es : List (List Key × D)) (k : List Key) : Option D := (es.find? fun kv => decide (kv.1 = k)).map (·.2)
theorem rpK_val {K : PySem.W.Frag} {G : Hp} {k : List Key} {d : D} : ∀ {kvs : List (List Key × V)} {es : List (List Key × D)}, RpK K G kvs es → valD es k = some d → ∃ v, valV kvs k = some v ∧ Rp K G v d
  | _, _, .nil, jq => nomatch jq
  | _, _, .cons (k := k') (v := v) jq t, e => by
    unfold valD at e
    rw [List.find?_cons] at e
    by_cases q : k' = k
    · rw [decide_eq_true q] at e
      have e' : _ = d := Option.some.inj e
      subst e'
      exact ⟨v, valV_pos q, jq⟩
    · rw [decide_eq_false q] at e
      obtain ⟨v', j1q, j2q⟩ := rpK_val (k := k) (d := d) t e
      exact ⟨v', by rw [valV_neg q]; exact j1q, j2q⟩
theorem ex_dget {X : Cx} {T : Tb} {ρ ρ1 ρ2 : En} {j : Nat} {pos : Pos} {a b : Expr} {es : List (List Key × D)} {k : List Key} {d : D} (jrq : Room j X.A) (jaq : EX X T a ρ ρ1 (.dct es)) (jbq : EX X T b ρ1 ρ2 (.tup (k.map dK))) (jq : valD es k = some d) (jsq : NoSl b := by intro _ _; rfl) : EX X T (.Subscript a b pos) ρ ρ2 d :=
  pe_imp (pe_dget (by have := room65 jrq; omega) jaq jbq jsq) fun σ H Q ⟨B, G, S, q⟩ => ⟨B, G, S, fun x G1 H1 g1 S1 r1 => ⟨B, G1, S1, fun y G2 H2 g2 S2 r2 => by
    obtain ⟨p, o, kvs, rfl, jpq, rk⟩ := (r1.mono g2).dct_inv
    obtain ⟨c, ys, rfl, jcq, ry⟩ := r2.tup_at
    rw [rpA_kV ry] at jcq
    obtain ⟨v, j1q, j2q⟩ := rpK_val rk jq
    exact ⟨p, v, rfl, .inr ⟨kvs, k, c, .inr ⟨o, S2.s _ _ jpq⟩, rfl, S2.s _ _ jcq, j1q.symm⟩, q v G2 H2 (g1.trans g2) S2 j2q⟩⟩⟩
/-! ### for k in d -/
theorem rpK_get {K : PySem.W.Frag} {G : Hp} : ∀ {kvs : List (List Key × V)} {es : List (List Key × D)}, RpK K G kvs es → kvs.map (·.1) = es.map (·.1)
  | _, _, .nil => rfl
  | _, _, .cons jq t => by rw [List.map_cons, List.map_cons, rpK_get t]
theorem itD_keys {K : PySem.W.Frag} {G : Hp} {a : Addr} {o : Obj} {kvs : List (List Key × V)} {es : List (List Key × D)} (jq : G a = some (.frz o (.dT kvs))) (r : RpK K G kvs es) : ItD K G (Itkt a o kvs) (es.map fun kv => .tup (kv.1.map dK)) where
  go := fun i H G1 d jdq g s => by
    have jmq := rpK_get r
    rw [List.getElem?_map] at jdq
    cases q : es[i]? with
    | none => rw [q] at jdq; cases jdq
    | some kv =>
      rw [q] at jdq
      have ed : d = .tup (kv.1.map dK) := (Option.some.inj jdq).symm
      subst ed
      have jkq : (kvs.map (·.1))[i]? = some kv.1 := by rw [jmq, List.getElem?_map, q]; rfl
      rw [List.getElem?_map] at jkq
      refine ⟨⟨s _ _ (g _ _ jq), ?_⟩, fun x H' y => ?_⟩
      · have := (List.getElem?_eq_some_iff.mp q).1
        have jlq : kvs.length = es.length := by rw [← List.length_map (f := (·.1)), jmq, List.length_map]
        omega
      · obtain ⟨rfl, k, v, b, e1, rfl, e2⟩ := y
        rw [e1] at jkq
        have ek : k = kv.1 := Option.some.inj jkq
        subst ek
        exact ⟨_, Grow.take s e2, .tup upd_same (rpA_kVs _)⟩
  stop := fun H G1 g s => ⟨s _ _ (g _ _ jq), by
    have jlq : kvs.length = es.length := by rw [← List.length_map (f := (·.1)), rpK_get r, List.length_map]
    rw [List.length_map, jlq]
    exact Nat.le_refl _⟩
theorem ei_keys {X : Cx} {T : Tb} {ρ ρ1 : En} {tg e : Expr} {es : List (List Key × D)} (jq : EX X T e ρ ρ1 (.dct es)) : EI X T tg e ρ ρ1 (es.map fun kv => .tup (kv.1.map dK)) :=
  pi_imp (pi_keys jq) fun σ H R ⟨B, G, S, q⟩ => ⟨B, G, S, fun v G1 H1 g1 S1 r1 => by
    obtain ⟨a, o, kvs, rfl, j1q, j2q⟩ := r1.dct_inv
    exact ⟨a, o, rfl, .inr ⟨kvs, S1.s _ _ j1q, q _ G1 H1 g1 S1 (itD_keys j1q j2q)⟩⟩⟩
end DL
set_option Elab.async false
set_option linter.all false
set_option maxRecDepth 100000
set_option maxHeartbeats 4000000
namespace DL
open PySem PySem.Spec PyProof.Rows L2
theorem RpA.set {K : PySem.W.Frag} {G : Hp} {v : V} {d : D} (hv : Rp K G v d) : ∀ {vs : List V} {ds : List D} (j : Nat), RpA K G vs ds → RpA K G (vs.set j v) (ds.set j d)
  | _, _, _, .nil => .nil
  | _, _, 0, .cons _ t => .cons hv t
  | _, _, j + 1, .cons h t => .cons h (RpA.set hv j t)
section
variable {X : Cx} {T : Tb} {W : WX} {ρ ρ1 : En} {P : Out → Prop} {p : Addr} {xs : List D} {d : D} {pos px : Pos} {x : Str} {e idx : Expr} {n : Int}
/-- x[e], x a list of one's own -/
theorem ex_atO (i : Nat) (h0 : ρ[i]? = some (.own p (.lst xs))) (he : EX X T e ρ ρ (.int n)) (hd : atI xs n = some d) (hN : X.N[i]? = some x := by rfl) (hv : Vis X.env.scope x := by first | exact Or.inl rfl | exact Or.inr (Or.inl rfl) | exact Or.inr (Or.inr rfl))
    (hdb : (x == ("__debug__" : Str)) = false := by decide) (hcd : (x == ("__classdict__" : Str)) = false := by decide) (hs : PlainIx e := by exact fun _ _ => rfl) : EX X T (.Subscript (.Name x px) e pos) ρ ρ d :=
  pe_imp (pe_ix ix_list (ex_own i h0 hN hv hdb hcd) he hs) fun σ H Q ⟨B, G, S, q⟩ => ⟨B, G, S, fun v G1 H1 g1 S1 r1 => ⟨B, G1, S1, fun y G2 H2 g2 S2 r2 => by
    rw [r1.raw_inv]
    obtain ⟨_, _, _, _, ⟨vs, a4, a5⟩⟩ := S2.own h0
    obtain ⟨w, hw, rw_⟩ := atI_rp a5 hd
    exact ⟨p, vs, n, w, rfl, r2.int_inv, .inl (.inl a4), hw, q w G2 H2 (g1.trans g2) S2 rw_⟩⟩⟩
/-- x[e] = .., x a list of one's own -/
theorem gx_atO (i : Nat) {j : Nat} (h0 : ρ[i]? = some (.own p (.lst xs))) (he : EX X T idx ρ ρ (.int n)) (hj : ixN xs.length n = some j) (hN : X.N[i]? = some x := by rfl) (hv : Vis X.env.scope x := by first | exact Or.inl rfl | exact Or.inr (Or.inl rfl) | exact Or.inr (Or.inr rfl))
    (hdb : (x == ("__debug__" : Str)) = false := by decide) (hcd : (x == ("__classdict__" : Str)) = false := by decide)
    (ha : ∀ v, assign (.Subscript (.Name x px) idx pos) X.env v = (do
      let ov ← holding [v] (eval (.Name x px) X.env)
      let iv ← holding [v, ov] (eval idx X.env)
      standAt pos
      holding [v, ov, iv] (setItem ov iv v)
      release [v, ov, iv] []) := by intro _; rfl) : GX X T (.Subscript (.Name x px) idx pos) ρ d (ρ.set i (.own p (.lst (xs.set j d)))) [] :=
  pg_imp (pg_sub (pe_var hN hv hdb hcd) he set_list ha) fun v σ H Q ⟨B, G, S, rd, q⟩ => by
    refine ⟨_, (S.own h0).1, B, G, S, fun y G1 H1 g1 S1 r1 => ?_⟩
    obtain ⟨_, _, _, _, ⟨ws, b4, b5⟩⟩ := S1.own h0
    exact ⟨p, ws, n, j, rfl, r1.int_inv, b4, by rw [b5.length]; exact hj, q σ G1 _ g1 (S1.write h0 (RpA.set (rd.mono g1) j b5)) fun _ _ => rfl⟩
/-- the script: len(x), x[e] -/
def IsScr (u : HO) (vs : List V) : Prop := u = .lst vs ∨ ∃ o, u = .frz o (.lst vs)
theorem IsScr.rd {u : HO} {vs : List V} {H : Hp} {p : Addr} (h : IsScr u vs) (e : H p = some u) : Rd H p (.lst vs) := by
  rcases h with rfl | ⟨o, rfl⟩
  · exact .inl e
  · exact .inr ⟨o, e⟩
theorem ex_lenF (i : Nat) {u : HO} {vs : List V} {p1 : Pos} (hu : IsScr u vs) (h0 : ρ[i]? = some (.own p (.ho u))) (hm : X.mg "len" = none) (hN : X.N[i]? = some x := by rfl) (hv : Vis X.env.scope x := by first | exact Or.inl rfl | exact Or.inr (Or.inl rfl) | exact Or.inr (Or.inr rfl))
    (hdb : (x == ("__debug__" : Str)) = false := by decide) (hcd : (x == ("__classdict__" : Str)) = false := by decide) (hg : Gl X "len" := by rfl) (h1 : starEach [.Name x px] X.env = (false, eval (.Name x px) X.env) :: starEach [] X.env := by rfl) (hpl : (backTo pos (starEach [] X.env)).any (·.1) = false := by rfl) :
    EX X T (.Call (.Name "len" p1) [.Name x px] [] pos) ρ ρ (.int vs.length) :=
  pe_imp (pe_callB call_len_seq hg hm PySem.boot_len (pa_cons (ex_own i h0 hN hv hdb hcd) pa_nil h1) (by decide) (by decide) h1 hpl) fun σ H Q ⟨B, G, S, q⟩ => ⟨B, G, S, fun v G1 H1 g1 S1 r1 => by
    rw [r1.raw_inv]
    obtain ⟨_, _, _, _, a4, _⟩ := S1.own h0
    exact ⟨p, vs, rfl, .inl (.inl (hu.rd a4)), q _ G1 H1 g1 S1 (.int _)⟩⟩
theorem ex_atF (i : Nat) {u : HO} {ns : List Int} {z : Int} (hu : IsScr u (ns.map V.int)) (h0 : ρ[i]? = some (.own p (.ho u))) (he : EX X T e ρ ρ (.int n)) (hd : atI ns n = some z) (hN : X.N[i]? = some x := by rfl) (hv : Vis X.env.scope x := by first | exact Or.inl rfl | exact Or.inr (Or.inl rfl) | exact Or.inr (Or.inr rfl))
    (hdb : (x == ("__debug__" : Str)) = false := by decide) (hcd : (x == ("__classdict__" : Str)) = false := by decide) (hs : PlainIx e := by exact fun _ _ => rfl) : EX X T (.Subscript (.Name x px) e pos) ρ ρ (.int z) :=
  pe_imp (pe_ix ix_list (ex_own i h0 hN hv hdb hcd) he hs) fun σ H Q ⟨B, G, S, q⟩ => ⟨B, G, S, fun v G1 H1 g1 S1 r1 => ⟨B, G1, S1, fun y G2 H2 g2 S2 r2 => by
    rw [r1.raw_inv]
    obtain ⟨_, _, _, _, a4, _⟩ := S2.own h0
    have hw : atI (ns.map V.int) n = some (.int z) := by
      unfold atI at hd ⊢
      rw [List.length_map]
      cases q : ixN ns.length n with
      | none => rw [q] at hd; cases hd
      | some j =>
        rw [q] at hd
        show (ns.map V.int)[j]? = _
        rw [List.getElem?_map, show ns[j]? = some z from hd]
        rfl
    exact ⟨p, _, n, _, rfl, r2.int_inv, .inl (hu.rd a4), hw, q _ G2 H2 (g1.trans g2) S2 (.int z)⟩⟩⟩
end
section
variable {X : Cx} {T : Tb} {CX : CXT} {k j : Nat} {x : Str} {ρ ρ1 : En} {p pos : Pos} {e : Expr} {es : List Expr} {ds xs : List D} {d : D}
/-- a call with one thing of our own, that gives a new list -/
theorem en_callO (i : Nat) {R : Addr → List D → Cl → Cl → Rs → Prop} {q : Addr} {c c' : Cl} (F : Fn X.prog X.w X.K X.mg X.base CX k x (spO X.K T R)) (hr : Room j X.A) (ha : EA X T (e :: es) ρ ρ1 ds) (ho : ρ1[i]? = some (.own q c)) (hR : R q ds c c' (.new xs)) (hk : k ≤ j := by decide) (hx : Passes CX X E0 := by first | exact pass0 | exact passL)
    (hg : Gl X x := by rfl) (hdb : (x == ("__debug__" : Str)) = false := by decide) (he : starEach (e :: es) X.env = (false, eval e X.env) :: starEach es X.env := by rfl) (hpl : (backTo pos (starEach es X.env)).any (·.1) = false := by rfl) : EN X T (.Call (.Name x p) (e :: es) [] pos) ρ (ρ1.set i (.own q c')) xs := by
  obtain ⟨f, fd, ps, h1, h2, h3, h4⟩ := F.ex
  exact pe_imp (pe_call h4 (hr.mono hk) hg h1 h2 h3 .nil hx ha hdb he hpl) fun σ H Q ⟨B, G, S, qq⟩ => ⟨B, G, S, fun vs G1 H1 g1 S1 r1 => by
    show spO X.K T R (vs ++ []) H1 Q E0
    rw [List.append_nil]
    refine ⟨_, G1, ds, q, c, c', .new xs, S1.call1 ho, r1, hR, fun G2 H2 g2 S2 => ⟨fun v rv => ?_, fun C e => nomatch e⟩⟩
    obtain ⟨pn, e, N⟩ := rv
    subst e
    refine qq pn G2 H2 (g1.trans g2) (S1.back1 ho S2) (N.out S1 (fun a ha vs => ?_) (ρ1.set i (.own q c')) fun z hz => ?_)
    · rcases List.mem_cons.mp ha with z | z
      · subst z
        exact .inr (by simp [owns])
      · rcases S2.tabN a z vs with w | w
        · exact .inl w
        · exact .inr w
    · rw [Sta.back1.owns_set_same S1.nd ho] at hz
      exact .inl (S1.ownsH z hz)⟩
/-- int(e), e an int -/
theorem ex_int1 {i : Int} {p1 : Pos} (hm : X.mg "int" = none) (he : EX X T e ρ ρ1 (.int i)) (hg : Gl X "int" := by rfl) (h1 : starEach [e] X.env = (false, eval e X.env) :: starEach [] X.env := by rfl) (hpl : (backTo pos (starEach [] X.env)).any (·.1) = false := by rfl) :
    EX X T (.Call (.Name "int" p1) [e] [] pos) ρ ρ1 (.int i) :=
  ex_callTy call_int1 hm (by decide +kernel) (ea_cons he ea_nil h1) rc_int1 hg (by decide) (by decide) h1 hpl
end
end DL
set_option Elab.async false
set_option linter.all false
set_option maxRecDepth 100000
set_option maxHeartbeats 4000000
/-! what ends a walk while an exception is handled, at the library's level -/
namespace HX
open PySem PySem.Spec PyProof.Rows HotX
section
variable {prog : Program} {w : World} {A : Around} {E : Value → Shared → Prop} {s : Shared}
theorem hot_keep {jq j'q : Heap} {x1 : Addr} (hot : HotAt A x1 jq) (k : ∀ o, jq.get? x1 = some o → j'q.get? x1 = some o) : HotAt A x1 j'q := by
  obtain ⟨jhq, o, vs, j1q, j2q⟩ := hot
  exact ⟨jhq, o, vs, k o j1q, j2q⟩
/-- a StopIteration made and raised while x1 is handled -/
theorem stop_hot {α : Type} {x1 : Addr} {Q : α → Shared → Prop} (hot : HotAt A x1 s.heap)
    (jEq : ∀ j'q e, (∀ b o, s.heap.get? b = some o → j'q.get? b = some o) → (∃ o, j'q.get? e = some o ∧ o.cls = .type "StopIteration") → E (.ref e) { s with heap := j'q }) :
    wpAny (model prog w) A (Builtin.SmallTypes.stopIteration : Sem α) Q E s := by
  obtain ⟨jhq, o1, vs1, j1q, d1, c1⟩ := hot
  show wpAny _ _ (newExc (.type "StopIteration") [] >>= _) _ _ _
  refine wpAny_bind ?_
  simp only [newExc, newTuple]
  refine wpAny_bind (wpAny_newObj_type ?_ (by size_fits))
  refine wpAny_bind (m := firstArgMember _ _) (wpAny_of_eq (a := Value.none) (by first | rfl | (simp only [firstArgMember]; rfl)) ?_)
  refine wpAny_newObj_type ?_ (by size_fits)
  refine raiseNew_hot ⟨jhq, o1, vs1, Heap.get?_push_of_some _ (Heap.get?_push_of_some _ j1q), d1, c1⟩ (Nat.ne_of_lt (Heap.lt_size (Heap.get?_push_of_some _ j1q))) (Heap.get?_push_size _ rfl) rfl (by first | (simp; done) | (simp; omega) | (simp only [Array.size_append]; simp; omega)) ?_
  refine jEq _ _ (fun b o e => ?_) ⟨_, Heap.get?_update_self _ (Heap.get?_push_size _ rfl) rfl, rfl⟩
  rw [Heap.get?_update_other _ _ (Nat.ne_of_gt (Heap.lt_size (Heap.get?_push_of_some _ e)))]
  exact Heap.get?_push_of_some _ (Heap.get?_push_of_some _ e)
theorem nextOf_list_end_hot {it l x1 : Addr} {i : Nat} {items} {Q : Value → Shared → Prop} (hot : HotAt A x1 s.heap) (jneq : x1 ≠ it)
    (jitq : s.heap.IsListIter it l i) (jlq : s.heap.IsList l items) (jxq : items[i]? = none)
    (jEq : ∀ j'q e, Heap.ExtBut it s.heap j'q → (∃ o, j'q.get? e = some o ∧ o.cls = .type "StopIteration") → E (.ref e) { s with heap := j'q }) :
    wpAny (model prog w) A (Builtin.SmallTypes.nextOf (.ref it)) Q E s := by
  obtain ⟨o, joq, jcq, jdq⟩ := id jitq
  obtain ⟨ol, jolq, _, nl, jdlq⟩ := jlq
  unfold Builtin.SmallTypes.nextOf
  refine wpAny_bind (wpAny_callSpecial?_slot (name := Str.ofString "__next__") jitq.typeIs slot_listiter_next
    (wpAny_call_entry slot_listiter_next jitq.typeIs entry_listiter_next ?_ (args_listiter_next _)))
  show wpAny _ _ (field (.ref it) 0 >>= _) _ _ s
  refine wpAny_bind (wpAny_field joq jdq (x := .ref l) rfl ?_)
  show wpAny _ _ (if (Value.ref l == Value.none) = true then _ else _) _ _ s
  rw [if_neg (show ¬ ((Value.ref l == Value.none) = true) from Bool.false_ne_true)]
  show wpAny _ _ (field (.ref it) 1 >>= _) _ _ s
  refine wpAny_bind (wpAny_field joq jdq (x := .int i 0) rfl ?_)
  show wpAny _ _ (seqItems? (.ref l) >>= _) _ _ s
  refine wpAny_bind (wpAny_seqItems jolq jdlq ?_)
  simp only [Int.toNat_natCast, jxq]
  refine wpAny_bind (wpAny_rule (wpAny_bind (wpAny_setField joq jdq (by simp) ?_)))
  have sb : ∀ f, Heap.SameBut it s.heap (s.heap.update it f) := fun f => Heap.SameBut.update ..
  refine stop_hot (x1 := x1) (hot_keep (A := A.in1) hot fun o' e => (sb _).extBut x1 o' jneq e) fun j'q e jkq jeq => ?_
  exact jEq j'q e (fun b o' jbq e' => jkq b o' ((sb _).extBut b o' jbq e')) jeq
theorem zip_next_end_hot {z TI TO i1 i2 l1 l2 x1 : Addr} {k1 k2 : Nat} {xs ys : Array Value} {a b : Value} {Q : Fin → Shared → Prop} (hot : HotAt A x1 s.heap) (jn1q : x1 ≠ z) (jn2q : x1 ≠ i1) (D : ZipApart z TI TO i1 i2 l1 l2)
    (jzq : IsZip s.heap z TI TO .none) (jTIq : IsPair s.heap TI (.ref i1) (.ref i2)) (jTOq : IsPair s.heap TO a b)
    (j1q : s.heap.IsListIter i1 l1 k1) (j2q : s.heap.IsListIter i2 l2 k2) (jl1q : s.heap.IsList l1 xs) (jl2q : s.heap.IsList l2 ys) (jxq : xs[k1]? = none)
    (jEq : ∀ j'q e, (∀ c o, c ≠ z → c ≠ TO → c ≠ i1 → c ≠ i2 → s.heap.get? c = some o → j'q.get? c = some o) → (∃ o, j'q.get? e = some o ∧ o.cls = .type "StopIteration") → E (.ref e) { s with heap := j'q }) :
    wpAny (model prog w) A (Builtin.«zip.__next__» ⟨[.ref z], []⟩) Q E s := by
  show wpAny _ _ (field (.ref z) 2 >>= _) _ _ _
  refine wpAny_bind (wpAny_field jzq rfl (x := .bool false) rfl ?_)
  show wpAny _ _ (field (.ref z) 3 >>= _) _ _ _
  refine wpAny_bind (wpAny_field jzq rfl (x := .ref TI) rfl ?_)
  refine wpAny_bind (wpAny_seqItems jTIq rfl ?_)
  show wpAny _ _ (Builtin.SmallTypes.ownedTupleIsFree (.ref z) >>= _) _ _ _
  refine wpAny_bind ?_
  unfold Builtin.SmallTypes.ownedTupleIsFree
  refine wpAny_bind (wpAny_field jzq rfl (x := .none) rfl (wpAny_pure ?_))
  simp only [if_true]
  refine wpAny_bind (wpAny_rule ?_)
  refine wpAny_bind (wpAny_field jzq rfl (x := .ref TO) rfl ?_)
  refine wpAny_bind (wpAny_setField_rec jzq (by simp) fun j₁q jz₁q js₁q => ?_)
  replace jz₁q : IsZip j₁q z TI TO .ellipsis := jz₁q
  refine wpAny_bind ?_
  simp only [List.zipIdx_cons, List.zipIdx_nil, List.forIn_cons, List.forIn_nil]
  refine wpAny_bind (wpAny_bind (wpAny_onRaise ?_))
  show wpAny _ _ (Builtin.SmallTypes.nextOf (.ref i1) >>= _) _ _ _
  refine wpAny_bind (nextOf_list_end_hot (x1 := x1) (hot_keep hot fun o e => js₁q.extBut _ _ jn1q e) jn2q (j1q.extBut js₁q.extBut D.i1z) (jl1q.extBut js₁q.extBut D.l1z) jxq fun j₂q e js₂q jeq => ?_)
  obtain ⟨oe, joeq, jceq⟩ := jeq
  have jz₂q : IsZip j₂q z TI TO .ellipsis := js₂q _ _ D.i1z.symm jz₁q
  have jezq : e ≠ z := fun x => by subst x; rw [jz₂q] at joeq; cases joeq; simp at jceq
  refine wpAny_setField_rec jz₂q (by simp) fun j₃q _ js₃q => jEq j₃q e (fun c o c1 _ c3 _ x => js₃q.extBut _ _ c1 (js₂q _ _ c3 (js₁q.extBut _ _ c1 x))) ⟨oe, js₃q.extBut _ _ jezq joeq, jceq⟩
theorem pyNext_zip_end_hot {z TI TO i1 i2 l1 l2 x1 : Addr} {k1 k2 : Nat} {xs ys : Array Value} {a b : Value} {Q : Option Value → Shared → Prop} (hot : HotAt A x1 s.heap) (jn1q : x1 ≠ z) (jn2q : x1 ≠ i1) (D : ZipApart z TI TO i1 i2 l1 l2)
    (jzq : IsZip s.heap z TI TO .none) (jTIq : IsPair s.heap TI (.ref i1) (.ref i2)) (jTOq : IsPair s.heap TO a b)
    (j1q : s.heap.IsListIter i1 l1 k1) (j2q : s.heap.IsListIter i2 l2 k2) (jl1q : s.heap.IsList l1 xs) (jl2q : s.heap.IsList l2 ys) (jxq : xs[k1]? = none)
    (jQq : ∀ j'q, (∀ c o, c ≠ z → c ≠ TO → c ≠ i1 → c ≠ i2 → s.heap.get? c = some o → j'q.get? c = some o) → Q none { s with heap := j'q }) : wpAny (model prog w) A (pyNext (.ref z)) Q E s := by
  have jTq : s.TypeIs (.ref z) "zip" := ⟨_, jzq, rfl⟩
  unfold pyNext
  refine wpAny_bind (wpAny_attempt (wpAny_callSpecial?_slot (name := Str.ofString "__next__") jTq F.slot_zip_next
    (wpAny_call_entry F.slot_zip_next jTq F.entry_zip_next (zip_next_end_hot (A := A.in1) hot jn1q jn2q D jzq jTIq jTOq j1q j2q jl1q jl2q jxq fun j'q e jkq jeq => ?_) (F.args_zip_next_1 _))))
  obtain ⟨o, joq, jcq⟩ := jeq
  refine wpAny_bind (wpAny_isInstance (T := "StopIteration") (b := true) ⟨o, joq, jcq⟩ isSubtype_stop ?_)
  exact wpAny_pure (jQq _ jkq)
/-! ### a tuple unpacked -/
theorem pyNext_tuple_end_hot {it t x1 : Addr} {i : Nat} {items} {Q : Option Value → Shared → Prop} (hot : HotAt A x1 s.heap) (jneq : x1 ≠ it)
    (jitq : s.heap.IsTupleIter it t i) (jtq : s.heap.IsTuple t items) (jxq : items[i]? = none)
    (jQq : ∀ j'q, Heap.ExtBut it s.heap j'q → Q none { s with heap := j'q }) : wpAny (model prog w) A (pyNext (.ref it)) Q E s := by
  obtain ⟨o, joq, jcq, jdq⟩ := id jitq
  obtain ⟨ol, jolq, _, nl, jdlq⟩ := jtq
  unfold pyNext
  refine wpAny_bind (wpAny_attempt (wpAny_callSpecial?_slot (name := Str.ofString "__next__") jitq.typeIs F.slot_tuple_iterator_next
    (wpAny_call_entry F.slot_tuple_iterator_next jitq.typeIs F.entry_tuple_iterator_next ?_ (F.args_tuple_iterator_next_1 _))))
  show wpAny _ _ (field (.ref it) 0 >>= _) _ _ s
  refine wpAny_bind (wpAny_field joq jdq (x := .ref t) rfl ?_)
  show wpAny _ _ (if (Value.ref t == Value.none) = true then _ else _) _ _ s
  rw [if_neg (show ¬ ((Value.ref t == Value.none) = true) from Bool.false_ne_true)]
  show wpAny _ _ (field (.ref it) 1 >>= _) _ _ s
  refine wpAny_bind (wpAny_field joq jdq (x := .int i 0) rfl ?_)
  show wpAny _ _ (seqItems? (.ref t) >>= _) _ _ s
  refine wpAny_bind (wpAny_seqItems jolq jdlq ?_)
  simp only [Int.toNat_natCast, jxq]
  refine wpAny_bind (wpAny_rule (wpAny_bind (wpAny_setField joq jdq (by simp) ?_)))
  have sb : ∀ f, Heap.SameBut it s.heap (s.heap.update it f) := fun f => Heap.SameBut.update ..
  refine stop_hot (x1 := x1) (hot_keep (A := A.in1) hot fun o' e => (sb _).extBut x1 o' jneq e) fun j'q e jkq jeq => ?_
  obtain ⟨oe, joeq, jceq⟩ := jeq
  refine wpAny_bind (wpAny_isInstance (T := "StopIteration") (b := true) ⟨oe, joeq, jceq⟩ isSubtype_stop ?_)
  exact wpAny_pure (jQq _ fun b o' jbq e' => jkq b o' ((sb _).extBut b o' jbq e'))
theorem unpackItems_hot {t x1 : Addr} {items : Array Value} {Q : List Value → Shared → Prop} (hot : HotAt A x1 s.heap) (jtq : s.heap.IsTuple t items)
    (jQq : ∀ j'q, Heap.ExtBut s.heap.objs.size s.heap j'q → Q items.toList { s with heap := j'q }) : wpAny (model prog w) A (unpackItems (.ref t) items.size none) Q E s := by
  have jltq : t ≠ s.heap.objs.size := by obtain ⟨o, joq, _⟩ := jtq; exact Nat.ne_of_lt (Heap.lt_size joq)
  have jx1q : x1 ≠ s.heap.objs.size := by obtain ⟨_, o, _, jq, _⟩ := hot; exact Nat.ne_of_lt (Heap.lt_size jq)
  unfold unpackItems
  refine wpAny_bind ?_
  · unfold notIterableAtAll
    refine wpAny_bind (wpAny_specialOf jtq.typeIs F.slot_tuple_iter.lookup ?_)
    refine wpAny_pure ?_
    simp only [Bool.false_eq_true, if_false]
    refine wpAny_bind (wpAny_holding (wpAny_pyIter_tuple jtq ?_))
    refine wpAny_bind (wpAny_holding (wpAny_draw_tuple jltq items.size 0 _ _ ⟨_, Heap.get?_push_size _ rfl, rfl, rfl⟩ (jtq.push _) (by omega) fun j₁q jit₁q js₁q => ?_))
    have jallq : List.take items.size (List.drop 0 items.toList) = items.toList := by
      rw [List.drop_zero]; exact List.take_of_length_le (by simp)
    rw [jallq]
    rw [if_neg (by simp)]
    have jt₁q : j₁q.IsTuple t items := (jtq.push _).extBut js₁q.extBut jltq
    refine wpAny_bind (wpAny_holding (pyNext_tuple_end_hot (x1 := x1) (hot_keep hot fun o e => js₁q.extBut _ _ jx1q (Heap.get?_push_of_some _ e)) jx1q jit₁q jt₁q (by simp) fun j₂q je₂q => ?_))
    simp only [Option.isSome_none, Bool.false_eq_true, if_false]
    refine wpAny_pure (jQq j₂q fun b o jbq e => je₂q b o jbq (js₁q.extBut b o jbq (Heap.get?_push_of_some _ e)))
theorem assign_Tuple_hot {env : Env} {elts : List Expr} {k1} {pos : Pos} {t x1 : Addr} {items : Array Value} {Q : Unit → Shared → Prop} (hot : HotAt A x1 s.heap) (jtq : s.heap.IsTuple t items)
    (jnq : (assignEach elts env).length = items.size) (jstarq : (assignEach elts env).findIdx? (·.1) = none)
    (jq : ∀ j'q, Heap.ExtBut s.heap.objs.size s.heap j'q → wpAny (model prog w) A (assignInOrder ((assignEach elts env).map (·.2)) items.toList) Q E { s with heap := j'q }) :
    wpAny (model prog w) A (assign (.Tuple elts k1 pos) env (.ref t)) Q E s := by
  rw [arm_assign_Tuple]
  refine wpAny_bind (wpAny_standAt ?_)
  unfold unpack
  rw [jnq, jstarq]
  exact wpAny_bind (wpAny_holding (unpackItems_hot hot jtq jq))
end
end HX
set_option Elab.async false
set_option linter.all false
set_option maxRecDepth 100000
set_option maxHeartbeats 4000000
/-! walks and comprehensions where an exception is handled -/
namespace HX
open PySem PySem.Spec PyProof.Rows L2 HotX L2H
/-- wherever the context's invariant joldsq, an exception is handled whose context is None -/
def HotIn (X : Cx) : Prop := ∀ (pins : List (Addr × Obj)) (σ : L2.St) (H : Hp) (s : Shared), Inv X pins σ H s → ∃ x1, HotAt X.A x1 s.heap
theorem hotIn_of {X : Cx} (c : HotC X) : HotIn X := fun _ _ _ _ I => c.at I
theorem hotIn_blk {X : Cx} {pins : List (Addr × Obj)} {σ : L2.St} {H : Hp} {s : Shared} {scope : Scope} {ce : Env} {fp : List Addr} (c : HotC X) (I : Inv X pins σ H s) (jfpq : ∀ b ∈ fp, FpOk X pins H b) : HotIn (X.blk s H scope ce fp) := by
  obtain ⟨p, ⟨jhq, v1, e1, c1⟩, jpq⟩ := c
  intro pins' σ' H' s' I'
  have P1 := I.pin p (List.mem_append_left _ jpq)
  refine ⟨p.1, jhq, p.2, v1, I'.base.keep p.1 p.2 P1.1 P1.2.1 (fun jmq => ?_) (fun jmq => ?_), e1, c1⟩
  · exact (List.mem_cons.mp (I.stkSub p.1 jmq)).elim P1.2.2.1 P1.2.2.2.1
  · exact (jfpq p.1 jmq).2.2.2.2.2 p (List.mem_append_left _ jpq) rfl
structure TurnZ (P : Program) (w : World) (K : PySem.W.Frag) (tg : Expr) (J : It) (fp : List Addr) (it : Addr) (tn : Nat → Heap → Prop) : Prop where
  obj : ∀ i jq, tn i jq → ∀ b ∈ fp, ∃ o, jq.get? b = some o ∧ ∀ v, o.data ≠ .cell v
  keep : ∀ i jq j'q, tn i jq → (∀ b ∈ fp, ∀ o, jq.get? b = some o → j'q.get? b = some o) → tn i j'q
  item : ∀ (X : Cx), X.prog = P → X.w = w → X.K = K → ∀ (i : Nat) (pins : List (Addr × Obj)) (s : Shared) (σ : L2.St) (H : Hp) (E : Value → Shared → Prop), Inv X pins σ H s → (∀ b ∈ fp, FpOk X pins H b) → tn i s.heap → J.go i H →
    wpAny (model P w) X.A (pyNext (.ref it)) (fun r s1 => ∃ u, r = some u ∧
      wpAny (model P w) X.A (letOwnedTupleGo tg (.ref it) u) (fun _ s2 => ∃ x H', Inv X pins σ H' s2 ∧ RelV x u ∧ J.yld i H x H' ∧ tn (i + 1) s2.heap ∧ ∀ b ∈ fp, H' b = none) E s1) E s
  done : ∀ (X : Cx), X.prog = P → X.w = w → X.K = K → HotIn X → ∀ (i : Nat) (pins : List (Addr × Obj)) (s : Shared) (σ : L2.St) (H : Hp) (E : Value → Shared → Prop), Inv X pins σ H s → (∀ b ∈ fp, FpOk X pins H b) → tn i s.heap → J.stop i H →
    wpAny (model P w) X.A (pyNext (.ref it)) (fun r s1 => r = none ∧ Inv X pins σ H s1) E s
  self : ∀ (A : Around) (i : Nat) (s : Shared) (Q : Value → Shared → Prop) (E : Value → Shared → Prop), tn i s.heap → Q (.ref it) s → wpAny (model P w) A (pyIter (.ref it)) Q E s
/-- the lists at a and b, of one length -/
def ItzE (K : PySem.W.Frag) (a b : Addr) : It := ⟨(Itz K a b).go, (Itz K a b).yld, fun i H => ∃ xs ys : List V, SqL K H a xs ∧ SqL K H b ys ∧ xs.length ≤ i⟩
theorem turn_zipZ {P : Program} {w : World} {K : PySem.W.Frag} {elts : List Expr} {kk : Nat} {tpos : Pos} {a b z TI TO i1 i2 : Addr} (D : ZipApart z TI TO i1 i2 a b) :
    TurnZ P w K (.Tuple elts kk tpos) (ItzE K a b) [z, TI, TO, i1, i2] z (fun i jq => IsZip jq z TI TO .none ∧ IsPair jq TI (.ref i1) (.ref i2) ∧ (∃ x y, IsPair jq TO x y) ∧ jq.IsListIter i1 a i ∧ jq.IsListIter i2 b i) where
  obj := (turn_zip (P := P) (w := w) (K := K) (elts := elts) (kk := kk) (tpos := tpos) D).obj
  keep := (turn_zip (P := P) (w := w) (K := K) (elts := elts) (kk := kk) (tpos := tpos) D).keep
  item := by
    intro X jPq jwq jKq i pins s σ H E I jfq st jgq
    subst jPq jwq jKq
    obtain ⟨jzq, jTIq, ⟨x0, y0, jTOq⟩, j1q, j2q⟩ := st
    obtain ⟨xs, ys, x, y, jqxq, jqyq, jxq, jyq⟩ := jgq
    obtain ⟨its, rv, p, _⟩ := I.list jqxq
    obtain ⟨its2, rv2, p2, _⟩ := I.list jqyq
    obtain ⟨u, juq, ru⟩ := rv.get jxq
    obtain ⟨u2, ju2q, ru2⟩ := rv2.get jyq
    have jzlq : z < s.heap.objs.size := Heap.lt_size jzq
    refine wpAny_pyNext_zip_item D jzq jTIq jTOq j1q j2q p.isList p2.isList (x := u) (y := u2) (by simpa using juq) (by simpa using ju2q) fun j'q z' TO' j1'q j2'q jTq jszq jkq => ?_
    refine ⟨_, rfl, wpAny_letOwnedTupleGo_zip (s := { s with heap := j'q }) z' fun j''q z'' sb => ?_⟩
    have jT2q : j''q.get? s.heap.objs.size = some { cls := .type "tuple", data := .seq #[u, u2] } := (sb.2 _ (Nat.ne_of_gt jzlq)).trans jTq
    have new : ObjOk X.prog X.w (upd H s.heap.objs.size (.tup [x, y])) j''q s.heap.objs.size (.tup [x, y]) :=
      ⟨by show 2 ≤ sizeLine; decide, [u, u2], .cons ru (.cons ru2 .nil), ⟨_, jT2q, rfl, _, rfl⟩⟩
    have I1 : Inv X pins σ (upd H s.heap.objs.size (.tup [x, y])) { s with heap := j''q } :=
      I.turnedNew (t' := s.toks) (ch := [z, TI, TO, i1, i2]) (fun c o jbq q => (sb.2 c (fun q' => jbq (by simp [q']))).trans (jkq c o (fun q' => jbq (by simp [q'])) (fun q' => jbq (by simp [q'])) (fun q' => jbq (by simp [q'])) (fun q' => jbq (by simp [q'])) q)) jfq (Nat.le_refl _) new
    refine ⟨.ref s.heap.objs.size, _, I1, rfl, ⟨_, x, y, rfl, I.hok.fresh (Nat.le_refl _), rfl, fun l jlq => by rw [I.list_inj jlq jqxq]; exact jxq, fun l jlq => by rw [I.list_inj jlq jqyq]; exact jyq⟩, ⟨z'', ?_, ⟨u, u2, ?_⟩, ?_, ?_⟩, fun c jcmq => ?_⟩
    · exact (sb.2 _ D.TIz).trans (jkq _ _ D.TIz D.TITO D.TIi1 D.TIi2 jTIq)
    · exact (sb.2 _ D.TOz).trans TO'
    · exact j1'q.at fun o q => (sb.2 _ D.i1z).trans q
    · exact j2'q.at fun o q => (sb.2 _ D.i2z).trans q
    · have jltq : c < s.heap.objs.size := by
        have e' : c = z ∨ c = TI ∨ c = TO ∨ c = i1 ∨ c = i2 := by simpa using jcmq
        rcases e' with q | q | q | q | q
        · rw [q]; exact jzlq
        · rw [q]; exact Heap.lt_size jTIq
        · rw [q]; exact Heap.lt_size jTOq
        · rw [q]; obtain ⟨_, e1, _⟩ := j1q; exact Heap.lt_size e1
        · rw [q]; obtain ⟨_, e2, _⟩ := j2q; exact Heap.lt_size e2
      rw [upd_ne (Nat.ne_of_lt jltq)]
      exact (jfq c jcmq).1
  done := by
    intro X jPq jwq jKq hot i pins s σ H E I jfq st jgq
    subst jPq jwq jKq
    obtain ⟨jzq, jTIq, ⟨x0, y0, jTOq⟩, j1q, j2q⟩ := st
    obtain ⟨xs, ys, jqxq, jqyq, jendq⟩ := jgq
    obtain ⟨its, rv, p, _⟩ := I.list jqxq
    obtain ⟨its2, rv2, p2, _⟩ := I.list jqyq
    have l1 := rv.length
    obtain ⟨x1, jx1q⟩ := hot pins σ H s I
    have ne1 : x1 ≠ z := fun q => by
      subst q
      obtain ⟨_, o, vs, e, d, c⟩ := jx1q
      rw [jzq] at e
      cases e
      cases d
      simp at c
    have ne2 : x1 ≠ i1 := fun q => by
      subst q
      obtain ⟨_, o, vs, e, d, c⟩ := jx1q
      obtain ⟨o', e', _, d'⟩ := j1q
      rw [e'] at e
      cases e
      rw [d'] at d
      cases d
      simp at c
    exact pyNext_zip_end_hot jx1q ne1 ne2 D jzq jTIq jTOq j1q j2q p.isList p2.isList (by simp; omega) fun j'q jkq => ⟨rfl, I.turnedL (t' := s.toks) (ch := [z, TI, TO, i1, i2]) (fun c o jbq q =>
      jkq c o (fun q' => jbq (by simp [q'])) (fun q' => jbq (by simp [q'])) (fun q' => jbq (by simp [q'])) (fun q' => jbq (by simp [q'])) q) jfq⟩
  self := fun A i s Q E st jq => wpAny_pyIter_zip st.1 jq
def PIEZ (X : Cx) (pins : List (Addr × Obj)) (σ : L2.St) (tg : Expr) (R : It → Hp → Prop) (itv : Value) (s2 : Shared) : Prop :=
  ∃ (it : Addr) (fp : List Addr) (tn : Nat → Heap → Prop) (J : It) (H' : Hp), itv = .ref it ∧ Inv X pins σ H' s2 ∧ TurnZ X.prog X.w X.K tg J fp it tn ∧ tn 0 s2.heap ∧ (∀ b ∈ fp, FpOk X pins H' b) ∧ R J H'
structure PIZ (X : Cx) (tg iter : Expr) (wi : TI) : Prop where
  run : ∀ (pins : List (Addr × Obj)) (s : Shared) (σ : L2.St) (H : Hp) (R : It → Hp → Prop), Inv X pins σ H s → wi σ H R →
    wpAny (model X.prog X.w) X.A (eval iter X.env) (fun v s1 => wpAny (model X.prog X.w) X.A (pyIter v) (PIEZ X pins σ tg R) X.xe s1) X.xe s
def iZipZ (K : PySem.W.Frag) (ta : TA) : TI := fun σ H R => ta σ H fun vs H1 => ∃ a b xs ys, vs = [.ref a, .ref b] ∧ SqL K H1 a xs ∧ SqL K H1 b ys ∧ R (ItzE K a b) H1
theorem pi_zipZ {X : Cx} {e e2 : Expr} {ta : TA} {p pos tpos : Pos} {elts : List Expr} {kk : Nat} (jgq : Gl X "zip") (jmq : X.mg "zip" = none) (jaq : PA X [e, e2] ta)
    (jsq : starEach [e, e2] X.env = (false, eval e X.env) :: starEach [e2] X.env := by rfl) (jplq : (backTo pos (starEach [e2] X.env)).any (·.1) = false := by rfl) :
    PIZ X (.Tuple elts kk tpos) (.Call (.Name "zip" p) [e, e2] [] pos) (iZipZ X.K ta) := by
  refine ⟨fun pins s σ H R I jq => ?_⟩
  refine Call_ (ld_blt I jgq jmq PyProof.Rows.boot_zip (PyProof.Rows.callWith_type1 (thn (jaq.run pos pins s σ H _ I jq) fun us s1 ⟨vs, H1, I1, r1, q1⟩ => ?_) jsq jplq))
  obtain ⟨a, b, xs, ys, ex, jqxq, jqyq, q⟩ := q1
  subst ex
  cases r1 with
  | cons r rr =>
    cases rr with
    | cons r' rr =>
      cases rr
      cases r
      cases r'
      obtain ⟨its, rv, p1, _⟩ := I1.list jqxq
      obtain ⟨its2, rv2, p2, _⟩ := I1.list jqyq
      have la : a < s1.heap.objs.size := p1.lt
      have lb : b < s1.heap.objs.size := p2.lt
      refine call_zip_2 p1.isList p2.isList fun j'q jzq jTIq jTOq j1q j2q jszq jkq => wpAny_pyIter_zip jzq ?_
      have I2 : Inv X pins σ H1 { s1 with heap := j'q } := I1.kept (t' := s1.toks) jkq
      refine ⟨s1.heap.objs.size + 4, [s1.heap.objs.size + 4, s1.heap.objs.size + 2, s1.heap.objs.size + 3, s1.heap.objs.size, s1.heap.objs.size + 1], _, _, H1, rfl, I2, turn_zipZ (PySem.W.ktu_apart s1.heap.objs.size a b la lb), ⟨jzq, jTIq, ⟨_, _, jTOq⟩, j1q, j2q⟩, fun c jcmq => ?_, q⟩
      have e' : c = s1.heap.objs.size + 4 ∨ c = s1.heap.objs.size + 2 ∨ c = s1.heap.objs.size + 3 ∨ c = s1.heap.objs.size ∨ c = s1.heap.objs.size + 1 := by simpa using jcmq
      have jleq : s1.heap.objs.size ≤ c := by
        rcases e' with z | z | z | z | z
        · rw [z]; exact Nat.le_add_right _ _
        · rw [z]; exact Nat.le_add_right _ _
        · rw [z]; exact Nat.le_add_right _ _
        · rw [z]; exact Nat.le_refl _
        · rw [z]; exact Nat.le_add_right _ _
      exact I1.fpOk jleq (I1.hok.fresh jleq)
/-- a tuple's targets -/
theorem pg_tupZ {X : Cx} {pos : Pos} {es : List Expr} {k : Nat} {t : TGs} {n : Nat} (hot : HotIn X) (jq : PGs X es t)
    (jnq : (assignEach es X.env).length = n := by rfl) (jstq : (assignEach es X.env).findIdx? (·.1) = none := by rfl) : PG X (.Tuple es k pos) (gTup X.K n t) := by
  refine ⟨fun pins s σ H v u Q I r jwq => ?_⟩
  obtain ⟨a, xs, e1, jqq, jlq, jwq⟩ := jwq
  subst e1
  cases r
  obtain ⟨its, rv, jtq, jzq⟩ := I.tuple jqq
  obtain ⟨x1, jx1q⟩ := hot pins σ H s I
  refine assign_Tuple_hot jx1q jtq (by simp [jnq, ← jlq, rv.length]) jstq fun j'q jxq => ?_
  have I1 : Inv X pins σ H { s with heap := j'q } := I.kept (t' := s.toks) fun b o e => jxq b o (Nat.ne_of_lt (Heap.lt_size e)) e
  exact jq.run pins _ σ H xs _ Q I1 (by simpa using rv) jwq
section
variable {X : Cx}
/-- [elt for target in iter if ..] -/
theorem pe_lcZ {elt tg iter : Expr} {ifs : List Expr} {scope : Scope} {own : List (Str × Nat)} {pos : Pos} {wi : TI} {g : TG} {tt : TT} {te : TE} (hot : HotC X) (jNq : X.N.Nodup) (jiq : PIZ X tg iter wi) (ok : BlkOk X.N X.env.scope scope own)
    (jgq : ∀ (s : Shared) (H : Hp) (C : Addr) (cl : List (Str × Addr)) (fp : List Addr), HotIn (X.blk s H scope (compEnvC scope cl C X.env) fp) → PG (X.blk s H scope (compEnvC scope cl C X.env) fp) tg g) (jtq : ∀ (s : Shared) (H : Hp) (C : Addr) (cl : List (Str × Addr)) (fp : List Addr), PTs (X.blk s H scope (compEnvC scope cl C X.env) fp) ifs tt)
    (jeq : ∀ (s : Shared) (H : Hp) (C : Addr) (cl : List (Str × Addr)) (fp : List Addr), PE (X.blk s H scope (compEnvC scope cl C X.env) fp) elt te) (jsq : ∀ x, foldedSetIterable iter X.env x = pure x := by intro _; rfl) :
    PE X (.ListComp elt [⟨tg, iter, ifs, 0⟩] scope pos) (tLc wi g tt te (own.map (·.2))) := by
  refine ⟨fun pins s σ H Q I jq => ?_⟩
  rw [eval_ListComp]
  have jfreeq : ∀ y ∈ scope.names, y.2 = .free → ∃ c, X.env.cells.lookup y.1 = some c := fun y jyq e => by
    rcases ok.free y jyq e with k | k
    · exact I.ok.has _ (.inl k)
    · exact I.ok.has _ (.inr k)
  refine wpAny_comprehension_free rfl jsq (closure_ok jfreeq) ok.kind (fun y jyq e => by rw [ok.uniq y jyq, e])
    (thn (jiq.run pins s σ H _ I jq) fun xv s1 jxq => thn jxq fun itv s2 j2q => ?_)
  obtain ⟨it, fp, tn, J, H2, e, I2, T, st2, f2, q⟩ := j2q
  subst e
  refine wpAny_newObj_type (newEnv_comp ?_) (by show 0 ≤ sizeLine; decide)
  generalize jDq : s2.heap.objs.size = D
  have jDnq : H2 D = none := I2.hok.fresh (Nat.le_of_eq jDq)
  obtain ⟨W, ⟨m0, w0⟩, turn⟩ := q D jDnq
  generalize js3q : ({ s2 with heap := s2.heap.push { cls := .type "list", data := .seq ([] : List Value).toArray } } : Shared) = s3
  have I3 : Inv X pins σ (upd H2 D (.lst [])) s3 := by
    rw [← js3q]
    refine I2.laid (t' := s2.toks) (fun b o e => Heap.get?_push_of_some _ e) (Nat.le_of_eq jDq) ⟨Nat.zero_le _, [], 0, .nil, ?_⟩
    rw [← jDq]
    exact Heap.get?_push_size _ rfl
  have j3q : s3.heap = s2.heap.push { cls := .type "list", data := .seq ([] : List Value).toArray } := by rw [← js3q]
  have sz : ∀ b ∈ fp, b < s2.heap.objs.size := fun b jbq => by
    obtain ⟨o, e, _⟩ := T.obj _ _ st2 b jbq
    exact Heap.lt_size e
  have f3 : ∀ b ∈ fp, FpOk X pins (upd H2 D (.lst [])) b ∧ b < s3.heap.objs.size := fun b jbq => by
    have jltq := sz b jbq
    refine ⟨⟨?_, (f2 b jbq).2⟩, by rw [j3q, Heap.size_push]; exact Nat.lt_succ_of_lt jltq⟩
    rw [upd_ne (by rw [← jDq]; exact Nat.ne_of_lt jltq)]
    exact (f2 b jbq).1
  have st3 : tn 0 s3.heap := T.keep _ _ _ st2 fun b _ o e => by rw [j3q]; exact Heap.get?_push_of_some _ e
  have I4 := block_start I3 ok jNq f3
  have jotBq := hotIn_blk (scope := scope) (ce := compEnvC scope (cellsFrom (s3.heap.objs.size + 1) scope.names (cloFrom X.env.cells scope.names [])) s3.heap.objs.size X.env) hot I3 fun b jbq => (f3 b jbq).1
  have pg := jgq s3 (upd H2 D (.lst [])) s3.heap.objs.size (cellsFrom (s3.heap.objs.size + 1) scope.names (cloFrom X.env.cells scope.names [])) fp jotBq
  have pt := jtq s3 (upd H2 D (.lst [])) s3.heap.objs.size (cellsFrom (s3.heap.objs.size + 1) scope.names (cloFrom X.env.cells scope.names [])) fp
  have pe := jeq s3 (upd H2 D (.lst [])) s3.heap.objs.size (cellsFrom (s3.heap.objs.size + 1) scope.names (cloFrom X.env.cells scope.names [])) fp
  show codeAny _ _ (.compStart (.ListComp elt [⟨tg, iter, ifs, 0⟩] scope pos) 0 (.ref it) (.ref D) (compEnvC scope (cellsFrom (s3.heap.objs.size + 1) scope.names (cloFrom X.env.cells scope.names [])) s3.heap.objs.size X.env)) (compPost (model X.prog X.w) X.A X.xe none (EP X pins σ Q) (.ref D) s3.heap.objs.size) { s3 with heap := pushCells (s3.heap.push { cls := .type "dict", data := .dict #[] }) scope.names }
  have nfp : ∀ b ∈ fp, (upd H2 D (.lst [])) b = none := fun b jbq => (f3 b jbq).1.1
  generalize jceq : compEnvC scope (cellsFrom (s3.heap.objs.size + 1) scope.names (cloFrom X.env.cells scope.names [])) s3.heap.objs.size X.env = ce at I4 pg pt pe jotBq ⊢
  have cL : ce.locals = s3.heap.objs.size := by subst jceq; rfl
  generalize jH3q : upd H2 D (.lst []) = H3 at I3 I4 pg pt pe jotBq w0 nfp f3
  generalize js4q : ({ s3 with heap := pushCells (s3.heap.push { cls := .type "dict", data := .dict #[] }) scope.names } : Shared) = s4 at I4 ⊢
  have st4 : tn 0 s4.heap := T.keep _ _ _ st3 fun b _ o e => by rw [← js4q]; exact pushCells_keeps _ _ _ _ (Heap.get?_push_of_some _ e)
  have stat : ∀ {σ' : L2.St} {H' : Hp} {s' : Shared}, Inv (X.blk s3 H3 scope ce fp) [] σ' H' s' → (∀ b ∈ fp, H' b = none) → ∀ b ∈ fp, FpOk (X.blk s3 H3 scope ce fp) [] H' b := fun {σ' H' s'} I' jnq b jbq =>
    ⟨jnq b jbq, (I'.ok.exf b jbq).1, I'.ok.exfs b jbq, .inl jbq, fun x c e => (I'.ok.exf b jbq).2 x c e, fun p jpq => absurd (show p ∈ ([] : List (Addr × Obj)) ++ [] from jpq) (by simp)⟩
  have loop : codeAny (model X.prog X.w) X.A (.compLoop (.ListComp elt [⟨tg, iter, ifs, 0⟩] scope pos) 0 (.ref it) (.ref D) ce) (compPost (model X.prog X.w) X.A X.xe none (EP X pins σ Q) (.ref D) s3.heap.objs.size) s4 := by
    refine compLoop_any (fun n s' => ∃ i H', Inv (X.blk s3 H3 scope ce fp) [] (wipe σ (own.map (·.2))) H' s' ∧ tn i s'.heap ∧ (∀ b ∈ fp, H' b = none) ∧ W i n H') ?_ m0 ⟨0, H3, I4, st4, nfp, w0⟩
    rintro n s5 ⟨i, H5, I5, st5, n5, w5⟩
    rcases turn i n H5 w5 with ⟨stop, qq⟩ | ⟨go, Nx, jNxq, step⟩
    · have td := T.done (X.blk s3 H3 scope ce fp) rfl rfl rfl jotBq i [] s5 _ H5 (fun _ _ => False) I5 (stat I5 n5) st5 stop
      refine thnF td fun r s6 ⟨jrq, I6⟩ => ?_
      subst jrq
      have I7 : Inv X pins σ H5 s6 := I3.call' (ch := fp) I6.os I6.base I6.hok I6.bare fun b jbq => ⟨(f3 b jbq).1.2.2.2.1, (f3 b jbq).1.2.1, (f3 b jbq).1.2.2.2.2.1, (f3 b jbq).1.2.2.2.2.2⟩
      have nC : H5 s3.heap.objs.size = none := by
        have z : H5 ce.locals = none := I6.free
        rw [cL] at z
        exact z
      obtain ⟨m, jnq, _⟩ := I6.loc
      have jnq : s6.heap.Ns ce.locals m := jnq
      rw [cL] at jnq
      have f := I3.fpOk (H' := H5) (Nat.le_refl _) nC
      refine ⟨m, jnq, fun j''q sb => ?_⟩
      obtain ⟨f0, f1, f2, f3', f4, f5⟩ := f
      exact ⟨.ref D, H5, I7.turned (t' := s6.toks) (fun b o jbq e => (sb.2 b jbq).trans e) f0 f1 f3' f4 f5, rfl, qq⟩
    · have ti := T.item (X.blk s3 H3 scope ce fp) rfl rfl rfl i [] s5 _ H5 (fun _ _ => False) I5 (stat I5 n5) st5 go
      refine thnF ti fun r s6 ⟨u, jrq, j6q⟩ => ?_
      subst jrq
      refine thnF j6q fun _ s7 ⟨x, H7, I7, r7, y7, st7, n7⟩ => ?_
      have I7' := I7.pinned (stat I7 n7) (T.obj _ _ st7)
      refine thnF (pg.run _ s7 _ H7 x u _ I7' r7 (step x H7 y7)) fun _ s8 ⟨σ8, H8, I8, jw8q, q8⟩ => ?_
      refine thnF (pt.run _ s8 σ8 H8 _ I8 q8) fun b s9 ⟨H9, I9, q9⟩ => ?_
      have fin : ∀ {s' : Shared} {H' : Hp}, Inv (X.blk s3 H3 scope ce fp) ([] ++ pinsAt fp s7.heap) σ8 H' s' → Nx H' → ∃ m, m < n ∧ ∃ i H', Inv (X.blk s3 H3 scope ce fp) [] (wipe σ (own.map (·.2))) H' s' ∧ tn i s'.heap ∧ (∀ b ∈ fp, H' b = none) ∧ W i m H' := fun {s' H'} I' nx => by
        obtain ⟨m', jmq, w'⟩ := jNxq H' nx
        have pin' : ∀ b ∈ fp, ∀ o, s7.heap.get? b = some o → s'.heap.get? b = some o ∧ H' b = none := fun b jbq o e =>
          let z := I'.pin (b, o) (List.mem_append_right _ (List.mem_append_right _ (mem_pinsAt jbq e)))
          ⟨z.1, z.2.1⟩
        have jlq : (wipe σ (own.map (·.2))).length = σ8.length := by rw [← jw8q, wipe_length]
        refine ⟨m', jmq, i + 1, H', (I'.unpinned (pins := [])).weak jlq (fun j v e => ?_), T.keep _ _ _ st7 fun b jbq o e => (pin' b jbq o e).1, fun b jbq => ?_, w'⟩
        · rw [← jw8q] at e
          exact (wipe_some e).1
        · obtain ⟨o, e, _⟩ := T.obj _ _ st7 b jbq
          exact (pin' b jbq o e).2
      cases b with
      | false =>
        simp only [Bool.false_eq_true, if_false] at q9 ⊢
        exact fin I9 q9
      | true =>
        simp only [if_true] at q9 ⊢
        refine thnF (pe.run _ s9 σ8 H9 _ I9 q9) fun z s10 ⟨yv, H10, I10, r10, acc, jD10q, jz10q, nx⟩ => ?_
        exact app_ok (X := X.blk s3 H3 scope ce fp) I10 jD10q jz10q r10 fun s11 I11 => fin I11 nx
  exact codeAny_compStart_list loop (T.self X.A 0 _ _ _ st4 loop)
end
end HX
set_option Elab.async false
set_option linter.all false
set_option maxRecDepth 100000
set_option maxHeartbeats 4000000
/-! defs called in an except suite that know the exception; lambdas whose exceptions are told with their context -/
namespace HX
open PySem PySem.Spec PyProof.Rows L2 HotX L2H
/-! ### isinstance of the handled exception -/
theorem call_isZ {X : Cx} {a D : Addr} {oe : Obj} (C : ExcC X.K D) (jz : Zc (.ref D) none oe) (jf : ∃ vs, oe.data = .fields vs) (jp : (a, oe) ∈ X.pn) : CallR X (.builtin "isinstance") (rIsE X.K D a) := by
  intro pins s σ H xs us Q I r jw
  obtain ⟨c, cv, b, rfl, jcv, e, q⟩ := jw
  cases r with
  | cons rx rr =>
    cases rr with
    | cons rt rr =>
      cases rr
      cases rx
      have ec := jcv _ rt
      subst ec
      have jg := (I.pin (a, oe) (List.mem_append_left _ jp)).1
      obtain ⟨vs, jv⟩ := jf
      have J : PySem.W.InstAt s.heap a oe D none := by
        obtain ⟨oc, od, oda, osl⟩ := oe
        obtain ⟨j1, j2⟩ := jz
        dsimp only at j1 j2 jv
        subst j1 j2 jv
        exact ⟨jg, rfl, rfl, trivial⟩
      exact PySem.W.kia_one (PySem.W.handS_kitx_exc C.hg C.hk C.hs C.hd C.ha C.hn C.ht C.hm) I.kIn J e (fun z => nomatch z) fun tk => ⟨.bl b, H, I.kept (t' := tk) fun _ _ z => z, rfl, q⟩
/-! ### a def called in a suite with the exception as its argument -/
structure FnZ (P : Program) (w : World) (K : PySem.W.Frag) (mg : Str → Option Value) (base : Heap) (CX : CXT) (k : Nat) (f : Addr) (fd : FuncData) (ps : List Str) (D : Addr) (sp : Addr → Sp) : Prop where
  len : ∀ a vs H Q E, sp a vs H Q E → vs.length = ps.length
  run : ∀ (A : Around) (outer : List Env) (s : Shared) (H : Hp) (args : Args) (us : List Value) (vs : List V) (Q : VK) (E : XK) (p : Addr × Obj), RoomH k A → Hot1 A p → Zc (.ref D) none p.2 → PinOk outer H s p → Env0 P w K mg base A outer s H → BindsTo s fd args (ps.zip us) → Vals vs us → sp p.1 vs H Q E →
    codeAny (model P w) A (.call (.ref f) args) (CR CX outer P w H s Q E) s
theorem fn_ofZ {CX : CXT} {P : Program} {w : World} {K : PySem.W.Frag} {mg : Str → Option Value} {base : Heap} {k : Nat} {f D : Addr} {name qual : Str} {params : Arguments} {body : List Stmt} {scope : Scope} {dV kV doc pm cdv ct oc : Value} {an od : Option Addr}
    {osl : Array (Option Value)} {N ps : List Str} {sp : Addr → Sp} (lk : K.lookup f = some ⟨oc, od, .func (PySem.W.fnOf name qual params body scope dV kV doc pm an cdv ct), osl⟩) (jcd : PySem.W.codeIn K cdv qual = true) (S : FnScope N ps scope)
    (len : ∀ a vs H Q E, sp a vs H Q E → vs.length = ps.length)
    (jb : ∀ (A : Around) (outer : List Env) (s : Shared) (H : Hp) (vs : List V) (Q : VK) (E : XK) (p : Addr × Obj), Hot1 A p → Zc (.ref D) none p.2 → RoomH k (A.deeper (envOfC qual scope s.heap.objs.size f cdv)) → sp p.1 vs H Q E →
      ∃ t, PSs (cxH CX P w K mg base N qual scope f cdv A outer s H E p) body t ∧ t { nx := fun _ H' => Q .non H', rt := Q } (L2.start N vs) H) :
    FnZ P w K mg base CX (k + 1) f (PySem.W.fnOf name qual params body scope dV kV doc pm an cdv ct) ps D sp := by
  refine ⟨len, fun A outer s H args us vs Q E p jr jot jz jpin e0 jbd r jsp => ?_⟩
  have el := len _ _ _ _ _ jsp
  have kx : K.In s.heap := e0.mod.kin.keeps fun b o e => (e0.bs b o e).1
  have nl : s.heap.NoLimit := e0.mod.nolimit.keeps fun b o e => (e0.bs b o e).1
  have kinds : ∀ y ∈ ps.zip us, scope.names.lookup y.1 = some .local ∨ (scope.names.lookup y.1 = some .cell ∧ ((cellsFrom (s.heap.objs.size + 1) scope.names []).lookup y.1).isSome = true) := fun ⟨n, v⟩ jy => by
    rcases S.par n (List.of_mem_zip jy).1 with q | q
    · exact .inl q
    · exact .inr ⟨q, PySem.W.cellsFrom_some _ _ _ (.inl q)⟩
  refine codeAny_call_function jr.depth (kx _ _ lk) rfl S.co S.gen rfl (PySem.W.codeRec_of kx jcd) (jbd _ _ _ _ ?_)
  refine wpAny_newFunctionEnv_cells S.kind kinds fun env je s1 x => ?_
  subst je
  refine ⟨nl.keeps x.toInCall.keep, codeAny_func ?_⟩
  obtain ⟨t, jt, jq⟩ := jb A outer s H vs Q E p jot jz (jr.deeper _) jsp
  have I0 : Inv (cxH CX P w K mg base N qual scope f cdv A outer s H E p) [] (L2.start N vs) H s1 := inv_startH S jpin e0 el r x
  have ends : ∀ {τ : L2.St} {H' : Hp} {v : V} {u : Value} {s' : Shared}, Inv (cxH CX P w K mg base N qual scope f cdv A outer s H E p) [] τ H' s' → RelV v u → Q v H' → CE outer P w H s Q u s' :=
    fun {τ H' v u s'} J rv q => ⟨v, H', J.os, J.bare, J.base, J.hok, rv, q⟩
  refine wpAny_mono (jt.run [] s1 (L2.start N vs) H _ I0 jq) (fun fl s' js => ?_) fun e s' js => js
  cases fl with
  | ret u =>
    obtain ⟨v, τ, H', J, rv, q⟩ := js
    exact ends J rv q
  | next =>
    obtain ⟨τ, H', J, q⟩ := js
    exact ends (v := V.non) (u := Value.none) J rfl q
  | brk =>
    obtain ⟨_, _, _, q⟩ := js
    exact q.elim
  | cont =>
    obtain ⟨_, _, _, q⟩ := js
    exact q.elim
section
variable {X : Cx} {CX : CXT} {k : Nat} {f D a : Addr} {oe : Obj} {fd : FuncData} {ps : List Str} {sp : Addr → Sp} {E : L2.St → XK} {x : Str} {q pos : Pos} {e : Expr} {es : List Expr} {t : TA}
/-- such a call, where (a, oe) is what is handled -/
theorem pe_callZ (F : FnZ X.prog X.w X.K X.mg X.base CX k f fd ps D sp) (jr : RoomH k X.A) (jot : Hot1 X.A (a, oe)) (jz : Zc (.ref D) none oe) (jp : (a, oe) ∈ X.pn) (jg : Gl X x) (jm : X.mg x = some (.ref f)) (jk : PySem.W.keepIn X.K (.ref f) = true) (jb : Binds X.K fd ps []) (jx : ∀ τ, PassesAt CX X τ (E τ))
    (ja : PA X (e :: es) t) (jdb : (x == ("__debug__" : Str)) = false := by decide) (je : starEach (e :: es) X.env = (false, eval e X.env) :: starEach es X.env := by rfl) (jpl : (backTo pos (starEach es X.env)).any (·.1) = false := by rfl) :
    PE X (.Call (.Name x q) (e :: es) [] pos) (tCallS (sp a) E t) := by
  refine ⟨fun pins s τ H Q I jw => ?_⟩
  refine wpAny_Call_Name_kw (ld_glob I jg jm ?_ jdb)
  refine PySem.W.callWith_K (h₀ := X.base) I.ok.mod.kin jk (thn (ja.run pos pins s τ H _ I jw) fun us s1 ⟨vs, H1, I1, r, w0⟩ => ⟨I1.kIn, ?_⟩) je jpl
  have el : us.length = ps.length := by rw [← r.length]; exact F.len _ _ _ _ _ w0
  have b := jb s1 us I1.kIn (by rw [List.append_nil]; exact el)
  rw [List.append_nil] at b
  have P1 := I1.pin (a, oe) (List.mem_append_left _ jp)
  have pin : PinOk X.stack H1 s1 (a, oe) := ⟨P1.1, P1.2.1, fun jm => (List.mem_cons.mp (I1.stkSub a jm)).elim P1.2.2.1 P1.2.2.2.1, P1.2.2.2.2⟩
  refine wpAny_call (codeAny_mono (F.run X.A X.stack s1 H1 ⟨us, []⟩ us vs Q (E τ) (a, oe) jr jot jz pin I1.env0 b r w0) fun r s' jq => ?_)
  cases r with
  | error e => exact jx τ pins H1 s1 e s' I1 jq
  | ok fl =>
    cases fl with
    | ret u => exact I1.after jq
    | next => exact jq.elim
    | brk => exact jq.elim
    | cont => exact jq.elim
end
end HX
set_option Elab.async false
set_option linter.all false
set_option maxRecDepth 100000
set_option maxHeartbeats 4000000
/-! lambdas handed to a def, their exceptions told with their context -/
namespace HX
open PySem PySem.Spec PyProof.Rows L2 LamX
/-- what escapes is another's business -/
theorem inv_xe {X : Cx} {pins : List (Addr × Obj)} {σ : L2.St} {H : Hp} {s : Shared} (xe : Value → Shared → Prop) (I : Inv X pins σ H s) : Inv { X with xe := xe } pins σ H s :=
  ⟨⟨I.ok.mod, I.ok.kind, I.ok.glob, I.ok.blt, I.ok.above, I.ok.inj, I.ok.has, I.ok.cab, I.ok.hd, I.ok.frames, I.ok.stk, I.ok.exf, I.ok.bs, I.ok.bsz, I.ok.noex, I.ok.exfs, I.ok.funs, I.ok.frf⟩, I.os, I.bare, I.base, I.loc, I.cell, I.free, I.freeC, I.pin, I.hok, I.len⟩
/-- the context of a lambda's body -/
def lamN (X : Cx) (A : Around) (outer : List Env) (s : Shared) (H : Hp) (E : XK) (scope : Scope) (f c' : Addr) : Cx :=
  { lamCx X A outer s H E scope f c' with xe := fun e s' => wpAny (model X.prog X.w) (A.deeper (lamEnv X scope s.heap.objs.size f c')) (leaving (lamEnv X scope s.heap.objs.size f c') e) (fun _ s2 => L2N.CX X.prog X.w outer H s E e s2) (fun e2 s2 => L2N.CX X.prog X.w outer H s E e2 s2) s' }
section
variable {X : Cx} {pins : List (Addr × Obj)} {σ : L2.St} {H : Hp} {s : Shared}
/-- x(), in the def that got the lambda -/
theorem pe_actN {CXg : CXT} {Eg : XK} {Ng : List Str} {qg : Str} {sg : Scope} {g f c' : Addr} {cdg pm ctv : Value} {params : Arguments} {body : Expr} {scope : Scope} {k i : Nat} {a : Str} {pn : List (Addr × Obj)} {xe : Value → Shared → Prop} {W : WX} {E : XK} {tb : TE} {p1 p2 : Pos}
    (I : Inv X pins σ H s) (L : LamS X.env.scope scope) (jf : s.heap.get? f = some (PySem.W.kla_obj "<lambda>" (X.env.qual ++ "<lambda>") params body scope (cloFrom X.env.cells scope.names []) pm c' ctv)) (jfn : H f = none) (jfr : f ∉ frs X.stack)
    (jbind : bindArgs (PySem.W.kla_fn "<lambda>" (X.env.qual ++ "<lambda>") params body scope (cloFrom X.env.cells scope.names []) pm (.ref c') ctv) ⟨[], []⟩ = pure [])
    (tk : L2N.Takes ((cxOf CXg X.prog X.w X.K X.mg X.base Ng qg sg g cdg X.A X.stack s H Eg).tr pn xe) W) (jW : ∀ cls d σ' H', E cls d H' → W cls d σ' H') (jr : Room (k + 1) (X.A.deeper (envOfC qg sg s.heap.objs.size g cdg)))
    (jbody : ∀ (A : Around) (outer : List Env) (s : Shared) (H : Hp), Room k (A.deeper (lamEnv X scope s.heap.objs.size f c')) → PE (lamN X A outer s H E scope f c') body tb)
    (jN : Ng[i]? = some a) (jv : Vis sg a) (jd : (a == ("__debug__" : Str)) = false := by decide) (jcd : (a == ("__classdict__" : Str)) = false := by decide) :
    PE ((cxOf CXg X.prog X.w X.K X.mg X.base Ng qg sg g cdg X.A X.stack s H Eg).tr pn xe) (.Call (.Name a p1) [] [] p2)
      (fun τ HZ Q => τ[i]? = some (some (.ref f)) ∧ HZ c' = some (CodeO c' (X.env.qual ++ "<lambda>")) ∧ tb σ HZ Q) := by
  refine ⟨fun pz sZ τ HZ Q IZ jw => ?_⟩
  obtain ⟨js, jc, jt⟩ := jw
  refine wpAny_Call_Name_kw (thn ((pe_var (pos := p1) (i := i) jN jv jd jcd).run pz sZ τ HZ (fun v H1 => v = .ref f ∧ H1 = HZ) IZ ⟨.ref f, js, rfl, rfl⟩) fun u s1 ⟨v, H1, I1, r1, q1⟩ => ?_)
  obtain ⟨ev, eH⟩ := q1
  subst ev
  rw [eH] at I1
  obtain rfl : u = Value.ref f := r1
  have at1 : s1.heap.get? f = some (PySem.W.kla_obj "<lambda>" (X.env.qual ++ "<lambda>") params body scope (cloFrom X.env.cells scope.names []) pm c' ctv) := I1.base.keep f _ jf jfn jfr (fun z => nomatch (show f ∈ ([] : List Addr) from z))
  refine PySem.W.callWith_F0 ⟨_, _, _, _, at1⟩ ?_
  have un : Un (frs X.stack) [] H HZ s.heap s1.heap := I1.base
  obtain ⟨⟨oc, vs, t, joc, jdc, jvc⟩, _, _⟩ := I1.hok c' _ jc
  have rc : codeAny (model X.prog X.w) (X.A.deeper (envOfC qg sg s.heap.objs.size g cdg)) (.call (.ref f) ⟨[], []⟩) (CR (L2N.CX X.prog X.w) (envOfC qg sg s.heap.objs.size g cdg :: X.stack) X.prog X.w HZ s1 Q E) s1 := by
    refine PySem.W.kla_callFunE jr.depth at1 rfl L.co L.gen rfl ⟨c', oc, vs, t, rfl, joc, jdc, jvc⟩ ?_
    rw [jbind]
    refine wpAny_pure (wpAny_newFunctionEnv (fun y jy => (L.own y jy).2) (fun y jy => absurd jy (by simp)) (fun h₁ jns jsb => ⟨I1.nolimit.fresh _ jsb, ?_⟩) L.kind)
    show codeAny _ _ (.expr body (lamEnv X scope s1.heap.objs.size f c')) _ _
    have kp : ∀ b o, s1.heap.get? b = some o → h₁.get? b = some o := fun b o e => jsb.extBut b o (Nat.ne_of_lt (Heap.lt_size e)) (Heap.get?_push_of_some _ e)
    have J0 : Inv (lamCx X (X.A.deeper (envOfC qg sg s.heap.objs.size g cdg)) (envOfC qg sg s.heap.objs.size g cdg :: X.stack) s1 HZ E scope f c') [] σ HZ { s1 with heap := h₁, toks := s1.toks + ([] : List (Str × Value)).length } :=
      lam_start2 I L I1.env0 jr.hd un jns kp
    have J : Inv (lamN X (X.A.deeper (envOfC qg sg s.heap.objs.size g cdg)) (envOfC qg sg s.heap.objs.size g cdg :: X.stack) s1 HZ E scope f c') [] σ HZ { s1 with heap := h₁, toks := s1.toks + ([] : List (Str × Value)).length } := inv_xe _ J0
    refine PySem.W.kla_codeExpr (wpAny_mono ((jbody _ _ s1 HZ (jr.deeper _)).run [] _ _ HZ Q J jt) (fun v s' jq => ?_) fun e s' jq => jq)
    obtain ⟨w', H', J', rv, q⟩ := jq
    exact ⟨w', H', J'.os, J'.bare, J'.base, J'.hok, rv, q⟩
  have jx : Passes (L2N.CX X.prog X.w) ((cxOf CXg X.prog X.w X.K X.mg X.base Ng qg sg g cdg X.A X.stack s H Eg).tr pn xe) E := L2N.passes_call tk jW
  refine wpAny_call (codeAny_mono rc fun r s' jq => ?_)
  cases r with
  | error e => exact jx pz τ HZ s1 e s' I1 jq
  | ok fl =>
    cases fl with
    | ret u => exact I1.after jq
    | next => exact jq.elim
    | brk => exact jq.elim
    | cont => exact jq.elim
end
/-- every object but the table P stays -/
def ExtP (P : Addr) (H H1 : Hp) : Prop := ∀ b o, H b = some o → b ≠ P → H1 b = some o
/-- a lambda is made; what is tracked stays, but for the table P -/
theorem lam_make3 {X : Cx} {pins : List (Addr × Obj)} {σ : L2.St} {H : Hp} {s : Shared} {T : List (Addr × Str)} {c P : Addr} {params : Arguments} {body : Expr} {scope : Scope} {pos : Pos} {E : Value → Shared → Prop} {Q : Value → Shared → Prop} (I : Inv X pins σ H s) (TB : TabB X.base X.mg c P) (jcode : X.env.code = .ref c)
    (jm : (P, X.env.qual ++ "<lambda>") ∈ T) (ju : ∀ p ∈ T, p.1 = P → p.2 = X.env.qual ++ "<lambda>") (jT : Tabs T H) (jdef : defaultsOf params X.env = ([], [])) (jfree : ∀ y ∈ scope.names, y.2 = .free → ∃ c, X.env.cells.lookup y.1 = some c)
    (jw : ∀ (f c' : Addr) (pm ctv : Value) (H1 : Hp) (s' : Shared), Inv X pins σ H1 s' → ExtP P H H1 → Tabs T H1 →
      s'.heap.get? f = some (PySem.W.kla_obj "<lambda>" (X.env.qual ++ "<lambda>") params body scope (cloFrom X.env.cells scope.names []) pm c' ctv) → H1 f = none → f ∉ frs X.stack → H1 c' = some (CodeO c' (X.env.qual ++ "<lambda>")) → Q (.ref f) s') :
    wpAny (model X.prog X.w) X.A (eval (.Lambda params body scope pos) X.env) Q E s := by
  obtain ⟨ps, jP, jt, ja⟩ := jT _ jm
  refine PySem.W.kla_eval jdef ?_
  have bP : s.heap.BuiltinsAt X.mg P := TB.bm.keeps I.bk
  have atP : s.heap.get? P = some { cls := .none, data := .fields ps } := I.hok P _ jP
  have far : ∀ f, s.heap.objs.size ≤ f → f ∉ frs X.stack := fun f jf z => by
    rcases List.mem_cons.mp (I.stkSub _ z) with e | e
    · have j1 := I.lt
      rw [← e] at j1
      exact absurd (Nat.lt_of_lt_of_le j1 jf) (Nat.lt_irrefl _)
    · exact I.nofs jf e
  cases jc : codeAmong pos ps.toList with
  | none =>
    refine PySem.W.kla_makeFunction (mg := X.mg) (c := c) (P := P) (ps := ps) (closure_ok jfree) I.ok.glob (I.mod.glob.keeps I.bk) jcode (TB.code.keeps I.bk) atP jt jc TB.gP bP fun c' ctv h' tk jx jge jlt jrec jtb => ?_
    obtain ⟨c2, oc, vs, t, e2, joc, jd, jv⟩ := jrec
    cases e2
    have jsz : s.heap.objs.size ≤ h'.objs.size := Nat.le_trans jge (Nat.le_of_lt jlt)
    have nC : H c' = none := I.hok.fresh jge
    have I1 := inv_table (t' := tk) (more := #[rawInt pos.line, rawInt pos.col, .ref c']) (h' := h'.push (PySem.W.kla_obj "<lambda>" (X.env.qual ++ "<lambda>") params body scope (cloFrom X.env.cells scope.names []) ((X.mg "__name__").getD .none) c' ctv)) I jP
      (fun b o jb e => Heap.get?_push_of_some _ (jx b o jb e)) (Heap.get?_push_of_some _ jtb) jge ⟨oc, vs, t, Heap.get?_push_of_some _ joc, jd, jv⟩
    have jE : ExtP P H (upd (upd H P (.tbl (ps ++ #[rawInt pos.line, rawInt pos.col, .ref c']))) c' (CodeO c' (X.env.qual ++ "<lambda>"))) := fun b o e n => by
      rw [upd_ne (ne_of_none e nC), upd_ne n]
      exact e
    have code : ∀ c0, H c0 = some (CodeO c0 (X.env.qual ++ "<lambda>")) → c0 ≠ P := fun c0 e z => by
      rw [z, jP] at e
      exact codeO_ne ps (Option.some.inj e).symm
    have eL : (ps ++ #[rawInt pos.line, rawInt pos.col, .ref c']).toList = ps.toList ++ [rawInt pos.line, rawInt pos.col, .ref c'] := by simp
    refine jw h'.objs.size c' ((X.mg "__name__").getD .none) ctv _ _ I1 jE (fun p jp => ?_) (Heap.get?_push_size _ rfl) ?_ (far _ jsz) upd_same
    · by_cases jb : p.1 = P
      · rw [ju p jp jb, jb]
        refine ⟨_, by rw [upd_ne (ne_of_none jP nC), upd_same], by rw [eL]; exact PySem.TriplesOk_snoc _ _ _ _ jt, fun p' cv jcv => ?_⟩
        rw [eL] at jcv
        rcases among_app _ jt jcv with z | z
        · obtain ⟨c0, e1, e2⟩ := ja p' cv z
          exact ⟨c0, e1, jE _ _ e2 (code c0 e2)⟩
        · exact ⟨c', z, upd_same⟩
      · obtain ⟨ps', a1, a2, a3⟩ := jT p jp
        refine ⟨ps', by rw [upd_ne (ne_of_none a1 nC), upd_ne jb]; exact a1, a2, fun p' cv jcv => ?_⟩
        obtain ⟨c0, e1, e2⟩ := a3 p' cv jcv
        refine ⟨c0, e1, jE _ _ e2 fun z => ?_⟩
        rw [z, jP] at e2
        exact codeO_ne ps (Option.some.inj e2).symm
    · have n1 : h'.objs.size ≠ c' := Nat.ne_of_gt jlt
      have n2 : h'.objs.size ≠ P := Nat.ne_of_gt (Nat.lt_of_lt_of_le (Heap.lt_size atP) jsz)
      rw [upd_ne n1, upd_ne n2]
      exact I.hok.fresh jsz
  | some cv =>
    obtain ⟨c', e, jco⟩ := ja pos cv jc
    subst e
    refine PySem.W.kla_makeFunctionHit (mg := X.mg) (c := c) (P := P) (ps := ps) (closure_ok jfree) I.ok.glob (I.mod.glob.keeps I.bk) jcode (TB.code.keeps I.bk) atP jt jc bP fun ctv h' tk jx jsz => ?_
    have I1 : Inv X pins σ H { s with heap := h'.push (PySem.W.kla_obj "<lambda>" (X.env.qual ++ "<lambda>") params body scope (cloFrom X.env.cells scope.names []) ((X.mg "__name__").getD .none) c' ctv), toks := tk } := I.kept fun b o e => Heap.get?_push_of_some _ (jx b o e)
    exact jw h'.objs.size c' ((X.mg "__name__").getD .none) ctv H _ I1 (fun _ _ e _ => e) jT (Heap.get?_push_size _ rfl) (I.hok.fresh jsz) (far _ jsz) jco
def tLamP (T : List (Addr × Str)) (P : Addr) (TT : (XK → Hp → VK → Prop) → Hp → VK → Prop) (t : XK → TE) : TE := fun σ H Q => Tabs T H ∧ ∀ H1, ExtP P H H1 → Tabs T H1 → TT (fun E H' Q' => t E σ H' Q') H1 Q
/-- the def that calls what it got -/
def GivesN (X : Cx) (Ng : List Str) (x : Str) (sg : Scope) (g : Addr) (cdg : Value) (bg : List Stmt) (a : Str) (q : Str) (TT : (XK → Hp → VK → Prop) → Hp → VK → Prop) : Prop :=
  ∀ (f c' : Addr) (s : Shared) (H : Hp) (Q : VK) (tl : XK → Hp → VK → Prop),
    (∀ (W : WX) (pn : List (Addr × Obj)) (xe : Value → Shared → Prop) (E : XK) (p1 p2 : Pos), L2N.Takes ((cxOf CX0 X.prog X.w X.K X.mg X.base Ng x sg g cdg X.A X.stack s H E0).tr pn xe) W → (∀ cls d σ' H', E cls d H' → W cls d σ' H') →
      PE ((cxOf CX0 X.prog X.w X.K X.mg X.base Ng x sg g cdg X.A X.stack s H E0).tr pn xe) (.Call (.Name a p1) [] [] p2) (fun τ HZ Q => τ[0]? = some (some (.ref f)) ∧ HZ c' = some (CodeO c' q) ∧ tl E HZ Q)) →
    H c' = some (CodeO c' q) → TT tl H Q →
    ∃ t, PSs (cxOf CX0 X.prog X.w X.K X.mg X.base Ng x sg g cdg X.A X.stack s H E0).nox bg t ∧ t { nx := fun _ H' => Q .non H', rt := Q } (L2.start Ng [.ref f]) H
section
variable {X : Cx}
/-- x(lambda: body) -/
theorem pe_lamN {T : List (Addr × Str)} {TT : (XK → Hp → VK → Prop) → Hp → VK → Prop} {x a : Str} {g c P : Addr} {k : Nat} {pg : Arguments} {bg : List Stmt} {sg : Scope} {dV kV doc pm cdv ct oc : Value} {an od : Option Addr} {osl : Array (Option Value)} {Ng : List Str}
    {params : Arguments} {body : Expr} {scope : Scope} {t : XK → TE} {p lpos pos : Pos} (jg : Gl X x) (jm : X.mg x = some (.ref g)) (jk : PySem.W.keepIn X.K (.ref g) = true)
    (lk : X.K.lookup g = some ⟨oc, od, .func (PySem.W.fnOf x x pg bg sg dV kV doc pm an cdv ct), osl⟩) (jcg : PySem.W.codeIn X.K cdv x = true) (jb : L2.Binds X.K (PySem.W.fnOf x x pg bg sg dV kV doc pm an cdv ct) [a] []) (Sg : FnScope Ng [a] sg) (jNg : Ng[0]? = some a) (jva : Vis sg a)
    (jG : GivesN X Ng x sg g cdv bg a (X.env.qual ++ "<lambda>") TT)
    (TB : TabB X.base X.mg c P) (jcode : X.env.code = .ref c) (jmT : (P, X.env.qual ++ "<lambda>") ∈ T) (ju : ∀ p ∈ T, p.1 = P → p.2 = X.env.qual ++ "<lambda>") (jr : Room (k + 2) X.A) (L : LamS X.env.scope scope) (jdef : defaultsOf params X.env = ([], []))
    (jbind : ∀ (q : Str) (cl : List (Str × Addr)) (pm cv ctv : Value), bindArgs (PySem.W.kla_fn "<lambda>" q params body scope cl pm cv ctv) ⟨[], []⟩ = pure [])
    (jbody : ∀ (A : Around) (outer : List Env) (s : Shared) (H : Hp) (E : XK) (f c' : Addr), Room k (A.deeper (lamEnv X scope s.heap.objs.size f c')) → PE (lamN X A outer s H E scope f c') body (t E))
    (jdb : (x == ("__debug__" : Str)) = false := by decide) (jd : (a == ("__debug__" : Str)) = false := by decide) (jcd : (a == ("__classdict__" : Str)) = false := by decide) :
    PE X (.Call (.Name x p) [.Lambda params body scope lpos] [] pos) (tLamP T P TT t) := by
  refine ⟨fun pins s σ H Q I jw => ?_⟩
  obtain ⟨jT, jw⟩ := jw
  refine wpAny_Call_Name_kw (ld_glob I jg jm ?_ jdb)
  refine PySem.W.callWith_K (h₀ := X.base) I.ok.mod.kin jk ?_ (by rfl) (by rfl)
  show wpAny _ _ (spliced ((false, eval (.Lambda params body scope lpos) X.env) :: backTo pos (starEach [] X.env))) _ _ s
  refine Calls.spliced_cons (lam_make3 I TB jcode jmT ju jT jdef (L.has I.ok) fun f c' pm' ctv H1 s' I1 eN T1 jf jfn jfr jco => ?_)
  refine Calls.spliced_nil ⟨I1.kIn, ?_⟩
  have rc : codeAny (model X.prog X.w) X.A (.call (.ref g) ⟨[.ref f], []⟩) (CR CX0 X.stack X.prog X.w H1 s' Q E0) s' := by
    refine run_ofS (N := Ng) (ps := [a]) (us := [.ref f]) (vs := [.ref f]) lk jcg Sg jr I1.env0 (jb s' [.ref f] I1.kIn rfl) (.cons rfl .nil) rfl fun jr' => ?_
    obtain ⟨t', jt', jq'⟩ := jG f c' s' H1 Q (fun E H' Q' => t E σ H' Q') (fun W pn xe E p1 p2 tk jW => pe_actN (i := 0) I1 L jf jfn jfr (jbind _ _ _ _ _) tk jW jr' (fun A outer s H jr2 => jbody A outer s H E f c' jr2) jNg jva jd jcd) jco (jw H1 eN T1)
    exact ⟨t', jt'.nox, jq'⟩
  refine wpAny_call (codeAny_mono rc fun r s2 jq => ?_)
  cases r with
  | error e => exact (show False from jq).elim
  | ok fl =>
    cases fl with
    | ret u => exact I1.after jq
    | next => exact jq.elim
    | brk => exact jq.elim
    | cont => exact jq.elim
end
end HX
set_option Elab.async false
set_option linter.all false
set_option maxRecDepth 100000
set_option maxHeartbeats 4000000
namespace DL
open PySem PySem.Spec PyProof.Rows L2 HX
/-! ### comprehensions where an exception is handled -/
def EIZ (X : Cx) (T : Tb) (tg iter : Expr) (ρ ρ' : En) (ds : List D) : Prop := PIZ X tg iter (tEI X.K T ρ ρ' ds)
def zipD (xs ys : List D) : List D := List.zipWith (fun x y => .tup [x, y]) xs ys
theorem itD_zip {K : PySem.W.Frag} {G : Hp} {a b : Addr} {vs ws : List V} {xs ys : List D} (h1 : G a = some (.lst vs)) (r1 : RpA K G vs xs) (h2 : G b = some (.lst ws)) (r2 : RpA K G ws ys) (hl : xs.length = ys.length) : ItD K G (ItzE K a b) (zipD xs ys) where
  go := fun i H G1 d hd g s => by
    unfold zipD at hd
    rw [List.getElem?_zipWith] at hd
    cases q1 : xs[i]? with
    | none => rw [q1] at hd; cases hd
    | some x =>
      cases q2 : ys[i]? with
      | none => rw [q1, q2] at hd; cases hd
      | some y =>
        rw [q1, q2] at hd
        have ed : d = .tup [x, y] := (Option.some.inj hd).symm
        subst ed
        obtain ⟨v, hv, rv⟩ := r1.get q1
        obtain ⟨w, hw, rw_⟩ := r2.get q2
        have l1 : SqL K H a vs := .inl (.inl (s _ _ (g _ _ h1)))
        have l2 : SqL K H b ws := .inl (.inl (s _ _ (g _ _ h2)))
        refine ⟨⟨vs, ws, v, w, l1, l2, hv, hw⟩, fun z H' yl => ?_⟩
        obtain ⟨T, x', y', rfl, hT, rfl, e1, e2⟩ := yl
        have ex : v = x' := Option.some.inj (hv.symm.trans (e1 vs l1))
        have ey : w = y' := Option.some.inj (hw.symm.trans (e2 ws l2))
        subst ex ey
        have gr := Grow.new (o := .tup [v, w]) s hT
        exact ⟨_, gr, .tup upd_same (.cons (rv.mono (g.trans gr.g)) (.cons (rw_.mono (g.trans gr.g)) .nil))⟩
  stop := fun H G1 g s => ⟨vs, ws, .inl (.inl (s _ _ (g _ _ h1))), .inl (.inl (s _ _ (g _ _ h2))), by
    rw [r1.length]
    unfold zipD
    rw [List.length_zipWith, hl, Nat.min_self]
    exact Nat.le_refl _⟩
section
variable {X : Cx} {T : Tb} {ρ ρ1 ρ2 : En} {pos p tpos apos : Pos} {e e2 o : Expr} {elts : List Expr} {kk : Nat} {xs ys ds : List D} {a b : Str} {d : D}
theorem ei_zipZ (hm : X.mg "zip" = none) (ha : EX X T e ρ ρ1 (.lst xs)) (hb : EX X T e2 ρ1 ρ2 (.lst ys)) (hl : xs.length = ys.length) (hg : Gl X "zip" := by rfl) (hs : starEach [e, e2] X.env = (false, eval e X.env) :: starEach [e2] X.env := by rfl) (hs2 : starEach [e2] X.env = (false, eval e2 X.env) :: starEach [] X.env := by rfl)
    (hpl : (backTo pos (starEach [e2] X.env)).any (·.1) = false := by rfl) : EIZ X T (.Tuple elts kk tpos) (.Call (.Name "zip" p) [e, e2] [] pos) ρ ρ2 (zipD xs ys) :=
  ⟨fun pins s σ H R I hw => (pi_zipZ (X := X) hg hm (ea_cons ha (ea_cons hb ea_nil hs2) hs) hs hpl).run pins s σ H R I (by
    obtain ⟨B, G, S, q⟩ := hw
    refine ⟨B, G, S, fun vs G1 H1 g1 S1 r1 => ?_⟩
    cases r1 with
    | cons r0 rn =>
      cases rn with
      | cons r2 rn =>
        cases rn
        obtain ⟨a, us, rfl, h1, h2⟩ := r0.lst_inv
        obtain ⟨b, ws, rfl, h3, h4⟩ := r2.lst_inv
        exact ⟨a, b, us, ws, rfl, .inl (.inl (S1.s _ _ h1)), .inl (.inl (S1.s _ _ h3)), q _ G1 H1 g1 S1 (itD_zip h1 h2 h3 h4 hl)⟩)⟩
theorem gx_tupZ {es : List Expr} {k n : Nat} {ks : List Nat} (hot : HotIn X) (h : GXs X T es ρ ds ρ1 ks) (hl : ds.length = n := by rfl) (hn : (assignEach es X.env).length = n := by rfl) (hst : (assignEach es X.env).findIdx? (·.1) = none := by rfl) : GX X T (.Tuple es k pos) ρ (.tup ds) ρ1 ks :=
  pg_imp (pg_tupZ hot h hn hst) fun v σ H Q ⟨B, G, S, rd, q⟩ => by
    obtain ⟨a, xs, rfl, ht, ra⟩ := rd.tup_inv
    exact ⟨a, xs, rfl, sqT_mono S.s ht, by rw [ra.length]; exact hl, B, G, S, ra, q⟩
/-- s.split(sep) -/
theorem ex_split (ho : EX X T o ρ ρ1 (.str a)) (he : EX X T e ρ1 ρ2 (.str b)) (hb : (b.length == 0) = false) (hz : a.length + 2 ≤ sizeLine) (hs : starEach [e] X.env = [(false, eval e X.env)] := by rfl)
    (hbase : attributeBase o "split" X.env (eval o X.env) = eval o X.env := by rfl) (hline : (apos.endLine == pos.line) = true := by rfl) : EX X T (.Call (.Attribute o "split" apos) [e] [] pos) ρ ρ2 (.lst ((Txt.split a b).map D.str)) :=
  pe_imp (pe_m1 F.slot_str_split F.type_str_split mt_split ho he hs hbase hline) fun σ H Q ⟨B, G, S, q⟩ => ⟨B, G, S, fun x G1 H1 g1 S1 r1 => ⟨⟨a, r1.str_inv⟩, B, G1, S1, fun y G2 H2 g2 S2 r2 => by
    refine ⟨a, b, r1.str_inv, by rw [r2.str_inv], hb, hz, fun l hn => ?_⟩
    have g := Grow.new (o := .lst ((Txt.split a b).map V.str)) S2.s hn
    exact q _ _ _ ((g1.trans g2).trans g.g) (S2.grow g) (.lst upd_same (strsR _))⟩⟩
where strsR {K : PySem.W.Frag} {G : Hp} : ∀ ys : List Str, RpA K G (ys.map V.str) (ys.map D.str)
  | [] => .nil
  | y :: ys => .cons (.str y) (strsR ys)
/-- sep.join(xs) -/
theorem ex_join {zs : List Str} (ho : EX X T o ρ ρ1 (.str a)) (he : EX X T e ρ1 ρ2 (.lst (zs.map D.str))) (hz : (zs.map (·.length)).sum + zs.length * a.length ≤ 16777216) (hs : starEach [e] X.env = [(false, eval e X.env)] := by rfl)
    (hbase : attributeBase o "join" X.env (eval o X.env) = eval o X.env := by rfl) (hline : (apos.endLine == pos.line) = true := by rfl) : EX X T (.Call (.Attribute o "join" apos) [e] [] pos) ρ ρ2 (.str (Txt.join a zs)) :=
  pe_imp (pe_join ho he hs hbase hline) fun σ H Q ⟨B, G, S, q⟩ => ⟨B, G, S, fun x G1 H1 g1 S1 r1 => ⟨⟨a, r1.str_inv⟩, B, G1, S1, fun y G2 H2 g2 S2 r2 => by
    obtain ⟨p, us, rfl, h1, h2⟩ := r2.lst_inv
    rw [h2.strs] at h1
    exact ⟨a, p, zs, r1.str_inv, rfl, .inl (.inl (.inl (S2.s _ _ h1))), hz, q _ G2 H2 (g1.trans g2) S2 (.str _)⟩⟩⟩
/-- isinstance(e, c), e the handled exception -/
theorem rc_isE {K : PySem.W.Frag} {D0 x : Addr} {c : V} {cv : Value} {k : Bool} (hc : ∀ u, RelV c u → u = cv) (hk : PySem.W.kitOne K (.ref D0) cv = some k) : RC K (rIsE K D0 x) [.raw (.ref x), .raw c] (.bl k) := fun G H vs Q r s q => by
  cases r with
  | cons r0 rn =>
    cases rn with
    | cons r1 rn =>
      cases rn
      rw [r0.raw_inv, r1.raw_inv]
      exact ⟨c, cv, k, rfl, hc, hk, q _ G H (.refl s) (.bl _)⟩
end
section
variable {X : Cx} {T : Tb} {W : WX} {ρ ρ1 ρ2 : En} {pos : Pos} {tg iter elt : Expr} {ifs : List Expr} {scope : Scope} {own : List (Str × Nat)} {ds xs : List D}
/-- a comprehension as a statement's or an expression's tree -/
structure LcZ (X : Cx) (T : Tb) (tg iter elt : Expr) (ifs : List Expr) (scope : Scope) (own : List (Str × Nat)) (ρ ρ2 : En) (xs : List D) : Prop where
  ex : ∃ (wi : TI) (g : TG) (tt : TT) (te : TE), PIZ X tg iter wi ∧
    (∀ (s : Shared) (H : Hp) (C : Addr) (cl : List (Str × Addr)) (fp : List Addr), HotIn (Blk X scope s H C cl fp) → PG (Blk X scope s H C cl fp) tg g) ∧ (∀ (s : Shared) (H : Hp) (C : Addr) (cl : List (Str × Addr)) (fp : List Addr), PTs (Blk X scope s H C cl fp) ifs tt) ∧
    (∀ (s : Shared) (H : Hp) (C : Addr) (cl : List (Str × Addr)) (fp : List Addr), PE (Blk X scope s H C cl fp) elt te) ∧ ∀ σ H Q, tEN X.K T ρ ρ2 xs σ H Q → tLc wi g tt te (own.map (·.2)) σ H Q
theorem lc_okZ (I : Nat → En → List D → Prop) (hi : EIZ X T tg iter ρ ρ1 ds) (h0 : I 0 ρ1 [])
    (hs : ∀ (i : Nat) (d : D) (ρ' : En) (acc : List D), ds[i]? = some d → I i ρ' acc → ∃ ρa ks ρb k, (∀ v ∈ ks, v ∈ own.map (·.2)) ∧ nonOwn ρ' (own.map (·.2)) = true ∧
      (∀ (s : Shared) (H : Hp) (C : Addr) (cl : List (Str × Addr)) (fp : List Addr), HotIn (Blk X scope s H C cl fp) → GX (Blk X scope s H C cl fp) T tg (wipeE ρ' (own.map (·.2))) d ρa ks) ∧ (∀ (s : Shared) (H : Hp) (C : Addr) (cl : List (Str × Addr)) (fp : List Addr), ETs (Blk X scope s H C cl fp) T ifs ρa ρb k) ∧
      (k = true → ∃ ρc e, (∀ (s : Shared) (H : Hp) (C : Addr) (cl : List (Str × Addr)) (fp : List Addr), EX (Blk X scope s H C cl fp) T elt ρb ρc e) ∧ acc.length < sizeLine ∧ I (i + 1) (unwipe ρ' ρc (own.map (·.2))) (acc ++ [e])) ∧
      (k = false → I (i + 1) (unwipe ρ' ρb (own.map (·.2))) acc))
    (hd : ∀ ρ' acc, I ds.length ρ' acc → ρ' = ρ2 ∧ acc = xs) : LcZ X T tg iter elt ifs scope own ρ ρ2 xs := by
  refine ⟨⟨tEI X.K T ρ ρ1 ds, fun v σ H Q => ∃ ρa d ρb ks, (∀ (s : Shared) (H : Hp) (C : Addr) (cl : List (Str × Addr)) (fp : List Addr), HotIn (Blk X scope s H C cl fp) → GX (Blk X scope s H C cl fp) T tg ρa d ρb ks) ∧ tGX' X.K T ρa d ρb ks v σ H Q,
    fun σ H Q => ∃ ρa ρb k, (∀ (s : Shared) (H : Hp) (C : Addr) (cl : List (Str × Addr)) (fp : List Addr), ETs (Blk X scope s H C cl fp) T ifs ρa ρb k) ∧ tET X.K T ρa ρb k σ H Q,
    fun σ H Q => ∃ ρa ρb e, (∀ (s : Shared) (H : Hp) (C : Addr) (cl : List (Str × Addr)) (fp : List Addr), EX (Blk X scope s H C cl fp) T elt ρa ρb e) ∧ tEX X.K T ρa ρb e σ H Q, hi,
    fun s H C cl fp hot => ⟨fun pins s' σ H v u Q I' r ⟨ρa, d, ρb, ks, h1, h2⟩ => (h1 s _ C cl fp hot).run pins s' σ H v u Q I' r h2⟩,
    fun s H C cl fp => ⟨fun pins s' σ H Q I' ⟨ρa, ρb, k, h1, h2⟩ => (h1 s _ C cl fp).run pins s' σ H Q I' h2⟩,
    fun s H C cl fp => ⟨fun pins s' σ H Q I' ⟨ρa, ρb, e, h1, h2⟩ => (h1 s _ C cl fp).run pins s' σ H Q I' h2⟩, fun σ H Q h => ?_⟩⟩
  obtain ⟨B, G, S, q⟩ := h
  refine ⟨B, G, S, fun J G1 H1 g1 S1 it D hD => ?_⟩
  have gD : G1 D = none := by
    cases z : G1 D with
    | none => rfl
    | some u => rw [S1.s D u z] at hD; cases hD
  have bD : B.H D = none := by
    cases z : B.H D with
    | none => rfl
    | some u => rw [S1.h D u z] at hD; cases hD
  have bGD : B.G D = none := by
    cases z : B.G D with
    | none => rfl
    | some u => rw [S1.g D u z] at gD; cases gD
  have oD : D ∉ owns ρ1 := fun ho => by
    obtain ⟨c, hc⟩ := mem_owns.mp ho
    obtain ⟨i, hi⟩ := List.getElem?_of_mem hc
    exact (S1.own hi).2.2.2.1.1 hD
  let St (i : Nat) (H : Hp) : Prop := ∃ ρ' G' acc vs, Same G1 G' ∧ Sta X.K T B G' ρ' σ H ∧ I i ρ' acc ∧ H D = some (.lst vs) ∧ RpA X.K G' vs acc ∧ G' D = none ∧ D ∉ owns ρ'
  refine ⟨fun i m H => m + i = ds.length ∧ St i H, ⟨ds.length, rfl, ρ1, G1, [], [], Same.refl _, S1.grow (.aside S1.s hD), h0, upd_same, .nil, gD, oD⟩, fun i m H2 hW => ?_⟩
  obtain ⟨em, ρ', G', acc, vs, g', S', hI, hH, hR, hg', ho'⟩ := hW
  by_cases hi' : i < ds.length
  · obtain ⟨d, hd'⟩ : ∃ d, ds[i]? = some d := ⟨_, List.getElem?_eq_getElem hi'⟩
    obtain ⟨go, yl⟩ := it.go i H2 G' d hd' g' S'.s
    refine .inr ⟨go, St (i + 1), fun H3 h3 => ⟨m - 1, by omega, by omega, h3⟩, fun x H' y => ?_⟩
    obtain ⟨G2, gr, rx⟩ := yl x H' y
    obtain ⟨ρa, ks, ρb, k, hks, hno, hg, ht, hyes, hnot⟩ := hs i d ρ' acc hd' hI
    have S2 := S'.grow gr
    have hH2 : H' D = some (.lst vs) := gr.h _ _ hH
    have gD2 : G2 D = none := gr.n D (mb_lst hH) hg'
    have SP := S2.pin hH2 gD2 ho'
    refine ⟨_, d, ρa, ks, hg, B.pin D (.lst vs), G2, SP.wipe _, rx, fun σ3 G3 H3 g3 S3 w3 => ⟨?_, ρa, ρb, k, ht, B.pin D (.lst vs), G3, S3, fun G4 H4 g4 S4 => ?_⟩⟩
    · rw [w3 _ hks, wipe_wipe]
    have hw : wipe σ3 (own.map (·.2)) = wipe σ (own.map (·.2)) := by rw [w3 _ hks, wipe_wipe]
    cases k with
    | true =>
      obtain ⟨ρc, e, he, hz, hI2⟩ := hyes rfl
      refine ⟨ρb, ρc, e, he, B.pin D (.lst vs), G4, S4, fun yv G5 H5 g5 S5 ry => ⟨vs, ?_⟩⟩
      have SU := SP.unwipe S5 ((g3.trans g4).trans g5) hw hno
      obtain ⟨S6, h6, n6, o6⟩ := SU.unpin bD
      refine ⟨h6, by rw [hR.length]; exact hz, _, G5, acc ++ [e], vs ++ [yv], g'.trans (gr.g.trans ((g3.trans g4).trans g5)), S6.beside h6 (n6 bGD) bD o6, hI2, upd_same, (hR.mono (gr.g.trans ((g3.trans g4).trans g5))).snoc ry, n6 bGD, o6⟩
    | false =>
      have SU := SP.unwipe S4 (g3.trans g4) hw hno
      obtain ⟨S6, h6, n6, o6⟩ := SU.unpin bD
      exact ⟨_, G4, acc, vs, g'.trans (gr.g.trans (g3.trans g4)), S6, hnot rfl, h6, hR.mono (gr.g.trans (g3.trans g4)), n6 bGD, o6⟩
  · have ei : i = ds.length := by omega
    subst ei
    obtain ⟨e1, e2⟩ := hd ρ' acc hI
    subst e1 e2
    exact .inl ⟨it.stop H2 G' g' S'.s, q D G' H2 (g1.trans g') S' ⟨⟨vs, hH, hR⟩, hg', bD, ho'⟩⟩
theorem LcZ.en (h : LcZ X T tg iter elt ifs scope own ρ ρ2 xs) (hot : L2H.HotC X) (hN : X.N.Nodup) (ok : BlkOk X.N X.env.scope scope own) (hs : ∀ x, foldedSetIterable iter X.env x = pure x := by intro _; rfl) : EN X T (.ListComp elt [⟨tg, iter, ifs, 0⟩] scope pos) ρ ρ2 xs := by
  obtain ⟨wi, g, tt, te, h1, h2, h3, h4, h5⟩ := h.ex
  exact pe_imp (pe_lcZ hot hN h1 ok h2 h3 h4 hs) h5
end
end DL
set_option Elab.async false
set_option linter.all false
set_option maxRecDepth 100000
set_option maxHeartbeats 4000000
namespace DL
open PySem PySem.Spec PyProof.Rows L2 HX LamX
theorem Sta.lam {K : PySem.W.Frag} {T : Tb} {B : Bs} {G H H1 : Hp} {ρ : En} {σ : L2.St} {P : Addr} (S : Sta K T B G ρ σ H) (hP : P ∈ tabL T) (e : ExtP P H H1) (t1 : Tabs T H1) : Sta K T B G ρ σ H1 := by
  obtain ⟨⟨ps, hp⟩, pb, pg⟩ := S.tabH hP
  refine ⟨S.g, fun a o q => e a o (S.h a o q) fun z => ?_, fun a o q => e a o (S.s a o q) fun z => ?_, S.n, paired_imp S.sl fun u x hx r => ?_, S.nd, t1, S.tn⟩
  · rw [z, pb] at q
    cases q
  · rw [z, pg] at q
    cases q
  · cases x with
    | no => trivial
    | dat d => exact r
    | own q c =>
      obtain ⟨e1, a1, a2, a3, a4⟩ := r
      have nq : q ≠ P := fun z => a4.notbl (z ▸ hp)
      refine ⟨e1, a1, a2, ?_, ?_⟩
      · cases hq : H q with
        | none => exact absurd hq a3.1
        | some o => rw [e q o hq nq]; rw [hq] at a3; exact a3
      · cases c with
        | lst xs => exact ⟨a4.choose, e _ _ a4.choose_spec.1 nq, a4.choose_spec.2⟩
        | ho o => exact ⟨e _ _ a4.1 nq, a4.2⟩
        | ins C dx fs => exact ⟨a4.choose, e _ _ a4.choose_spec.1 nq, a4.choose_spec.2⟩
theorem mem_tabL {T : Tb} {P : Addr} {q : Str} (h : (P, q) ∈ T) : P ∈ tabL T := List.mem_map.mpr ⟨_, h, rfl⟩
/-! ### a local name that holds a def -/
def FnAt (P : Program) (w : World) (K : PySem.W.Frag) (mg : Str → Option Value) (base : Heap) (CX : CXT) (k : Nat) (f : Addr) (sp : Sp) : Prop := ∃ fd ps, PySem.W.keepIn K (.ref f) = true ∧ Binds K fd ps [] ∧ FnOk P w K mg base CX k f fd ps sp
theorem Fn.at {P : Program} {w : World} {K : PySem.W.Frag} {mg : Str → Option Value} {base : Heap} {CX : CXT} {k : Nat} {x : Str} {sp : Sp} (F : Fn P w K mg base CX k x sp) : ∃ f, mg x = some (.ref f) ∧ FnAt P w K mg base CX k f sp := by
  obtain ⟨f, fd, ps, h1, h2, h3, h4⟩ := F.ex
  exact ⟨f, h1, fd, ps, h2, h3, h4⟩
section
variable {X : Cx} {T : Tb} {CX : CXT} {k j : Nat} {x : Str} {ρ : En} {p pos : Pos} {e : Expr} {es : List Expr} {ds : List D} {d : D} {f : Addr} {R : List D → Rs → Prop}
theorem ex_callL (i : Nat) (F : FnAt X.prog X.w X.K X.mg X.base CX k f (spP X.K T R)) (hr : Room j X.A) (h0 : ρ[i]? = some (.dat (.raw (.ref f)))) (ha : EA X T (e :: es) ρ ρ ds) (hR : R ds (.dat d)) (hk : k ≤ j) (hx : Passes CX X E0) (hN : X.N[i]? = some x) (hv : Vis X.env.scope x)
    (hdb : (x == ("__debug__" : Str)) = false := by decide) (hcd : (x == ("__classdict__" : Str)) = false := by decide) (he : starEach (e :: es) X.env = (false, eval e X.env) :: starEach es X.env := by rfl) (hpl : (backTo pos (starEach es X.env)).any (·.1) = false := by rfl) : EX X T (.Call (.Name x p) (e :: es) [] pos) ρ ρ d := by
  obtain ⟨fd, ps, h1, h2, h3⟩ := F
  refine pe_imp (pe_callL (i := i) h3 (hr.mono hk) hN hv h1 h2 .nil hx ha hdb hcd he hpl) fun σ H Q ⟨B, G, S, q⟩ => ⟨?_, B, G, S, fun vs G1 H1 g1 S1 r1 => ?_⟩
  · obtain ⟨v, hv, rv⟩ := S.dat h0
    rw [hv, rv.raw_inv]
  · show spP X.K T R (vs ++ []) H1 Q E0
    rw [List.append_nil]
    exact sp0 S1 r1 hR fun G2 H2 g2 S2 => ⟨fun v rv => q v G2 H2 (g1.trans g2) S2 rv, fun C e => nomatch e⟩
theorem er_callL (i : Nat) {C : Addr} {E : XK} (F : FnAt X.prog X.w X.K X.mg X.base (L2N.CX X.prog X.w) k f (spP X.K T R)) (tk : L2N.Takes X (fun cls dd _ H => E cls dd H)) (hr : Room j X.A) (h0 : ρ[i]? = some (.dat (.raw (.ref f)))) (ha : EA X T (e :: es) ρ ρ ds) (hR : R ds (.exc C)) (hk : k ≤ j) (hN : X.N[i]? = some x) (hv : Vis X.env.scope x)
    (hdb : (x == ("__debug__" : Str)) = false := by decide) (hcd : (x == ("__classdict__" : Str)) = false := by decide) (he : starEach (e :: es) X.env = (false, eval e X.env) :: starEach es X.env := by rfl) (hpl : (backTo pos (starEach es X.env)).any (·.1) = false := by rfl) : ER X T (fun cls dd _ H => E cls dd H) (.Call (.Name x p) (e :: es) [] pos) ρ C := by
  obtain ⟨fd, ps, h1, h2, h3⟩ := F
  refine pe_imp (pe_callL (i := i) (E := E) h3 (hr.mono hk) hN hv h1 h2 .nil (L2N.passes_call tk fun _ _ _ _ h => h) ha hdb hcd he hpl) fun σ H Q ⟨B, G, S, q⟩ => ⟨?_, B, G, S, fun vs G1 H1 g1 S1 r1 => ?_⟩
  · obtain ⟨v, hv, rv⟩ := S.dat h0
    rw [hv, rv.raw_inv]
  · show spP X.K T R (vs ++ []) H1 Q E
    rw [List.append_nil]
    exact sp0 S1 r1 hR fun G2 H2 g2 S2 => ⟨fun v rv => rv.elim, fun C' e => by cases e; exact q G2 H2 (g1.trans g2) S2⟩
end
end DL
set_option Elab.async false
set_option linter.all false
set_option maxRecDepth 100000
set_option maxHeartbeats 4000000
namespace DL
open PySem PySem.Spec PyProof.Rows L2 HX LamX
/-- a def whose code object is known -/
structure FunC (K : PySem.W.Frag) (x qual : Str) (st : Stmt) (f : Addr) (fd : FuncData) (c : Addr) : Prop where
  ex : ∃ (oc : Value) (od : Option Addr) (kV doc pm : Value) (an : Option Addr) (ct : Value) (osl : Array (Option Value)),
    fd = PySem.W.fnOf x qual (defArgs st) (defBody st) (defScope st) .none kV doc pm an (.ref c) ct ∧ K.lookup f = some ⟨oc, od, .func fd, osl⟩ ∧ PySem.W.codeIn K (.ref c) qual = true
section
variable {P : Program} {w : World} {K : PySem.W.Frag} {mg : Str → Option Value} {base : Heap} {T : Tb}
theorem fn_pureC {x qual : Str} {st : Stmt} {f c : Addr} {fd : FuncData} {N ps : List Str} {k : Nat} {R : List D → Rs → Prop} (F : FunC K x qual st f fd c) (S : FnScope N ps (defScope st)) (hl : ∀ ds r, R ds r → ds.length = ps.length)
    (hb : ∀ (A : Around) (outer : List Env) (s : Shared) (H : Hp) (E : XK), Room k (A.deeper (envOfC qual (defScope st) s.heap.objs.size f (.ref c))) → ∀ ds r, R ds r →
      ESs (cxOf CX0 P w K mg base N qual (defScope st) f (.ref c) A outer s H E).nox T W0 (defBody st) (en0 N ps.length ds) (Ret r)) : FnOk P w K mg base CX0 (k + 1) f fd ps (spP K T R) := by
  obtain ⟨oc, od, kV, doc, pm, an, ct, osl, rfl, lk, hcd⟩ := F.ex
  refine fn_of lk hcd S (fun vs H Q E h => ?_) (fun A outer s H vs Q E hr h => ?_)
  · obtain ⟨B, G, ds, r, _, ra, hR, _⟩ := h
    rw [ra.length]
    exact hl ds r hR
  · obtain ⟨B, G, ds, r, S0, ra, hR, q⟩ := h
    obtain ⟨t, ht, hq⟩ := ends_of (hb A outer s H E hr ds r hR) rfl (sta_start S0 ra (hl ds r hR)) (fun _ h => h) (fun _ _ h => h) (fun _ h => h) (fun _ h => h) (fun _ _ h => h.elim) (fun _ _ _ _ _ _ _ S' => ⟨S'.bare, fun _ z => nomatch z⟩) q
    exact ⟨t, ht.nox, hq⟩
end
end DL
set_option Elab.async false
set_option linter.all false
set_option maxRecDepth 100000
set_option maxHeartbeats 4000000
namespace DL
open PySem PySem.Spec PyProof.Rows L2 LamX HX
section
variable {X : Cx} {T : Tb} {ρ ρ1 ρ2 : En} {pos : Pos} {a b e : Expr} {xs : List D} {k : Int} {d : D}
/-- a list times a number -/
theorem ex_repL (ha : EX X T a ρ ρ1 (.lst xs)) (hb : EX X T b ρ1 ρ2 (.int k)) (h1 : -(2 ^ 63) ≤ k) (h2 : k < 2 ^ 63) (hl : xs.length * k.toNat ≤ sizeLine) : EX X T (.BinOp a .Mult b pos) ρ ρ2 (.lst (List.replicate k.toNat xs).flatten) :=
  ex_op op_rep ha hb (rr_rep h1 h2 hl)
theorem LcOk.eq {tg iter elt : Expr} {ifs : List Expr} {scope : Scope} {own : List (Str × Nat)} {ys : List D} (h : LcOk X T tg iter elt ifs scope own ρ ρ2 xs) (e : xs = ys) : LcOk X T tg iter elt ifs scope own ρ ρ2 ys := e ▸ h
end
end DL
set_option Elab.async false
set_option linter.all false
set_option maxRecDepth 100000
set_option maxHeartbeats 4000000
namespace DL
open PySem PySem.Spec PyProof.Rows L2 LamX HX
/-- the end of a row: as the tables' one, and what the head says of the loose names is told too -/
theorem walk_loose {l : PySem.W.OpenLaw} {most k : Nat} {q : Program} {loose : List Str} {XP : (Str → Option Value) → Heap → Prop} {YP : World → Heap → Prop} {d : DefRec} {CX : World → CXT} {x : Str}
    (jn : l.most = some most) (j2 : most ≤ sizeLine) (jd : d.params.defaults = []) (jr : Room k callerA)
    (J : ∀ (w : World) (mg : Str → Option Value) (fa : Addr) (hp : Heap), YP w hp → XP mg hp → hp.Ns mainGlobals mg → mg d.name = some (.ref fa) → ∃ K : PySem.W.Frag, K.In hp ∧ LawAtS l w K (CX w) k most x mg fa hp)
    (jx : ∀ (w : World) (H : Hp) (s : Shared) (e : Value) (s' : Shared), CX w [] H s (fun _ _ _ => False) e s' → False) :
    PySem.W.WalkO q loose XP YP l.row.toRowW d [] (fun f vs => PySem.call f vs) := by
  refine Att.attach_callB jn jd fun w s0 s1 mg mb fa o pm cd doc a vs ns G Y jo jdd jcd jmg jobj jints jlen jbits jg => ?_
  obtain ⟨K, KX, fd, cs, sp, t1, t2, t3, t4, t5, t6⟩ := J w mg fa _ Y G.X G.T.g jmg
  refine law_callTs KX G.T.g G.T.b G.T.builtins G.T.nolimit jg t1 t2 t3 G.T.bmain jobj jints (Nat.le_trans jlen j2) jr t6 t4 (fun H z1 z2 => ?_) fun H e s' => jx w H s1 e s'
  exact t5 H a ns jlen jbits z1 z2
/-- no list stands in the written part -/
def noLists (K : PySem.W.Frag) : Bool := K.all fun p => match p.2.cls with
  | .type "list" => false
  | _ => true
theorem noLists_at {K : PySem.W.Frag} (j : noLists K = true) {a : Addr} {o : Obj} (e : K.lookup a = some o) : o.cls ≠ .type "list" := fun z => by
  unfold noLists at j
  rw [List.all_eq_true] at j
  have m : (a, o) ∈ K := by
    induction K with
    | nil => cases e
    | cons p r ih =>
      obtain ⟨b, u⟩ := p
      rw [List.lookup_cons] at e
      cases q : a == b with
      | true =>
        rw [q] at e
        have e2 : u = o := Option.some.inj e
        rw [beq_iff_eq.mp q, e2]
        exact List.mem_cons_self
      | false =>
        rw [q] at e
        exact List.mem_cons_of_mem _ (ih (fun x hx => j x (List.mem_cons_of_mem _ hx)) e)
  have := j _ m
  rw [show (a, o).2.cls = Value.type "list" from z] at this
  cases this
theorem scr_of {K : PySem.W.Frag} {H : Hp} {a : Addr} {vs : List V} (j : noLists K = true) (e : SqL K H a vs) : ∃ u, H a = some u ∧ IsScr u vs := by
  rcases e with (e | ⟨o, e⟩) | ⟨o, its, n, e1, e2, _⟩
  · exact ⟨_, e, .inl rfl⟩
  · exact ⟨_, e, .inr ⟨o, rfl⟩⟩
  · exact (noLists_at j e1 e2).elim
theorem IsScr.mb {u : HO} {vs : List V} (h : IsScr u vs) : Mb (some u) := by
  rcases h with rfl | ⟨o, rfl⟩
  · exact ⟨(fun z => nomatch z), fun ys z => nomatch z⟩
  · exact ⟨(fun z => nomatch z), fun ys z => nomatch z⟩
theorem IsScr.nt {u : HO} {vs : List V} (h : IsScr u vs) : ∀ ps, u ≠ .tbl ps := by
  rcases h with rfl | ⟨o, rfl⟩
  · exact fun ys z => nomatch z
  · exact fun ys z => nomatch z
/-- the state at the law's beginning -/
theorem sta_law {K : PySem.W.Frag} {T : Tb} {H : Hp} {a : Addr} {vs : List V} {u : HO} (e : H a = some u) (hu : IsScr u vs) (ht : ∀ p ∈ T, H p.1 = some (.tbl #[])) :
    Sta K T ⟨fun _ => none, fun _ => none⟩ (fun _ => none) [.own a (.ho u)] [some (.ref a)] H where
  g := Same.refl _
  h := fun b o z => by cases z
  s := fun b o z => by cases z
  n := fun _ _ _ => rfl
  sl := .cons ⟨rfl, rfl, rfl, e ▸ hu.mb, e, hu.nt⟩ .nil
  nd := List.nodup_cons.mpr ⟨(fun z => nomatch z), List.nodup_nil⟩
  tb := fun p hp => TabS.nil (ht p hp)
  tn := fun p hp => ⟨rfl, rfl⟩
/-- a def stands in the text -/
theorem df_mk {K : PySem.W.Frag} {mg : Str → Option Value} {hp : Heap} {x : Str} {st : Stmt} {ps : List Str} {f : Addr} {oc : Value} {od an : Option Addr} {osl : Array (Option Value)} {kV doc pm cdv ct : Value} (KX : K.In hp) (G : hp.Ns mainGlobals mg)
    (a : PySem.W.nsIn K mainGlobals x = some (some (.ref f))) (l : K.lookup f = some ⟨oc, od, .func (PySem.W.fnOf x x (defArgs st) (defBody st) (defScope st) .none kV doc pm an cdv ct), osl⟩) (c : PySem.W.codeIn K cdv x = true) (k : PySem.W.keepIn K (.ref f) = true)
    (b : ∀ (kV doc pm : Value) (an : Option Addr) (cdv ct : Value) (us : List Value), us.length = ps.length → bindArgs (PySem.W.fnOf x x (defArgs st) (defBody st) (defScope st) .none kV doc pm an cdv ct) ⟨us, []⟩ = pure (ps.zip us)) : Df K mg x st ps := by
  have F := fun_mk l c k
  exact ⟨_, _, PySem.W.mg_of KX G a, F, F.binds b⟩
theorem ci_at {K : PySem.W.Frag} {mg : Str → Option Value} {hp : Heap} {x : Str} {i : Int} {t : Tok} (KX : K.In hp) (G : hp.Ns mainGlobals mg) (a : PySem.W.nsIn K mainGlobals x = some (some (.int i t))) : CI mg x i := ⟨t, PySem.W.mg_of KX G a⟩
/-- a fact is kept -/
theorem keep {p q : Prop} (j : p) (g : p → q) : q := g j
end DL
set_option Elab.async false
set_option linter.all false
set_option maxRecDepth 100000
set_option maxHeartbeats 4000000
namespace Pf
open PySem PySem.Spec PyProof.Rows L2 DL
/-! ### the mathematics: what the defs reckon, as plain functions -/
def isInt : D → Int → Int → Bool
  | .int i, lo, hi => decide (lo ≤ i) && decide (i ≤ hi)
  | _, _, _ => false
def isPos : D → Bool
  | .tup ds => decide (1 ≤ ds.length) && decide (ds.length ≤ 3) && ds.all fun d => isInt d 0 (10 ^ 30)
  | _ => false
def wLW : List Str := ["lost", "won"]
def wMN : List Str := ["may", "not"]
def isLW (x : Str) : Bool := wLW.any fun y => y == x
def isMN (x : Str) : Bool := wMN.any fun y => y == x
def isFact : D → Bool
  | .tup [.str x, e] => if isLW x then isPos e else isMN x && isInt e 1 6
  | _ => false
def isBook : D → Bool
  | .tup ds => decide (ds.length ≤ 8) && ds.all isFact
  | _ => false
theorem flat_ty {n : Nat} {d : D} (h : flat n d = true) : ∃ t, tyD d = some t := by
  cases d with
  | non => exact ⟨_, rfl⟩
  | bl b => exact ⟨_, rfl⟩
  | int i => exact ⟨_, rfl⟩
  | str x => exact ⟨_, rfl⟩
  | tup xs => exact ⟨_, rfl⟩
  | lst xs => exact ⟨_, rfl⟩
  | dct e => cases h
  | raw v => cases h
theorem flats_mem {n : Nat} : ∀ {ds : List D}, flats n ds = true → ∀ d ∈ ds, flat n d = true
  | d :: r, h, e, he => by
    have f := Bool.and_eq_true_iff.mp h
    rcases List.mem_cons.mp he with q | q
    · rw [q]; exact f.1
    · exact flats_mem f.2 e q
theorem flat_tup {n : Nat} {ds : List D} (h : flat n (.tup ds) = true) : ∃ m, n = m + 1 ∧ flats m ds = true := by
  cases n with
  | zero => cases h
  | succ m => exact ⟨m, rfl, h⟩
/-! #### rules and facts -/
abbrev Rule := List Int
def encR (r : Rule) : D := .tup (r.map D.int)
inductive Fact where
  | lw (lost : Bool) (p : List Int)
  | mn (may : Bool) (t : Int)
  deriving DecidableEq
def lwS (b : Bool) : Str := if b then "lost" else "won"
def mnS (b : Bool) : Str := if b then "may" else "not"
def encF : Fact → D
  | .lw b p => .tup [.str (lwS b), .tup (p.map D.int)]
  | .mn b t => .tup [.str (mnS b), .int t]
/-- a position -/
def PosOk (p : List Int) : Prop := 1 ≤ p.length ∧ p.length ≤ 3 ∧ ∀ x ∈ p, 0 ≤ x ∧ x ≤ 10 ^ 30
def FactOk : Fact → Prop
  | .lw _ p => PosOk p
  | .mn _ t => 1 ≤ t ∧ t ≤ 6
theorem isPos_enc {p : List Int} (h : PosOk p) : isPos (.tup (p.map D.int)) = true := by
  obtain ⟨h1, h2, h3⟩ := h
  simp only [isPos, List.length_map, Bool.and_eq_true, decide_eq_true_eq, List.all_eq_true]
  refine ⟨⟨h1, h2⟩, fun d hd => ?_⟩
  obtain ⟨x, hx, rfl⟩ := List.mem_map.mp hd
  have := h3 x hx
  simp only [isInt, Bool.and_eq_true, decide_eq_true_eq]
  exact this
theorem isFact_enc {f : Fact} (h : FactOk f) : isFact (encF f) = true := by
  cases f with
  | lw b p =>
    have e : isLW (lwS b) = true := by cases b <;> decide +kernel
    show (if isLW (lwS b) = true then isPos (.tup (p.map D.int)) else _) = true
    rw [if_pos e]
    exact isPos_enc h
  | mn b t =>
    have e : isLW (mnS b) = false := by cases b <;> decide +kernel
    have e2 : isMN (mnS b) = true := by cases b <;> decide +kernel
    show (if isLW (mnS b) = true then _ else isMN (mnS b) && isInt (.int t) 1 6) = true
    rw [e, e2, if_neg Bool.false_ne_true]
    simp only [isInt, Bool.true_and, Bool.and_eq_true, decide_eq_true_eq]
    exact h
theorem flat_int (n : Nat) (i : Int) : flat n (.int i) = true := by cases n <;> rfl
theorem flats_int (n : Nat) (ns : List Int) : flats n (ns.map D.int) = true := flats_map (flat_int n) ns
theorem flat_R (r : Rule) : flat 1 (encR r) = true := flats_int 0 r
theorem flat_lit (n : Nat) (x : Str) (h : PyData.canLay0 (.str x) = true) : flat n (.str x) = true := by cases n <;> exact h
theorem lay_lw (b : Bool) : PyData.canLay0 (.str (lwS b)) = true := by cases b <;> decide +kernel
theorem lay_mn (b : Bool) : PyData.canLay0 (.str (mnS b)) = true := by cases b <;> decide +kernel
theorem flat_F (f : Fact) : flat 2 (encF f) = true := by
  cases f with
  | lw b p =>
    show (flat 1 (.str (lwS b)) && (flats 0 (p.map D.int) && true)) = true
    rw [flat_lit 1 _ (lay_lw b), flats_int]
    rfl
  | mn b t =>
    show (flat 1 (.str (mnS b)) && true) = true
    rw [flat_lit 1 _ (lay_mn b)]
    rfl
/-! #### all rules: lots_from -/
def lotsN : Nat → Int → List (List Int)
  | 0, _ => []
  | n + 1, a => ([a] :: (lotsN n (a + 1)).map (a :: ·)) ++ lotsN n (a + 1)
def lotsK (m : Nat) (a : Int) (k : Nat) : List (List Int) := (List.range k).flatMap fun i => [a + (i : Nat)] :: (lotsN (m - i - 1) (a + (i : Nat) + 1)).map ((a + (i : Nat)) :: ·)
theorem lotsN_len : ∀ (n : Nat) (a : Int), (lotsN n a).length + 1 = 2 ^ n
  | 0, _ => rfl
  | n + 1, a => by
    have h := lotsN_len n (a + 1)
    simp only [lotsN, List.length_append, List.length_cons, List.length_map]
    rw [Nat.pow_succ]
    omega
theorem lotsK_succ (m : Nat) (a : Int) (k : Nat) : lotsK m a (k + 1) = lotsK m a k ++ ([a + (k : Nat)] :: (lotsN (m - k - 1) (a + (k : Nat) + 1)).map ((a + (k : Nat)) :: ·)) := by
  unfold lotsK
  rw [List.range_succ, List.flatMap_append]
  simp
theorem lotsK_shift (m : Nat) (a : Int) : ∀ k : Nat, lotsK (m + 1) a (k + 1) = ([a] :: (lotsN m (a + 1)).map (a :: ·)) ++ lotsK m (a + 1) k
  | 0 => by
    rw [lotsK_succ]
    unfold lotsK
    simp
  | k + 1 => by
    rw [lotsK_succ, lotsK_shift m a k, lotsK_succ, List.append_assoc]
    have e1 : a + ((k + 1 : Nat) : Int) = a + 1 + (k : Nat) := by omega
    have e2 : m + 1 - (k + 1) - 1 = m - k - 1 := by omega
    rw [e1, e2]
theorem lotsN_eq : ∀ (m : Nat) (a : Int), lotsK m a m = lotsN m a
  | 0, _ => rfl
  | m + 1, a => by rw [lotsK_shift, lotsN_eq m (a + 1)]; rfl
theorem lotsN_mem : ∀ {n : Nat} {a : Int} {r : List Int}, r ∈ lotsN n a → r.length ≤ n
  | 0, _, _, h => nomatch h
  | n + 1, a, r, h => by
    simp only [lotsN, List.cons_append, List.mem_cons, List.mem_append, List.mem_map] at h
    rcases h with e | ⟨s, hs, e⟩ | h
    · rw [e]; simp
    · rw [← e]
      exact Nat.succ_le_succ (lotsN_mem hs)
    · exact Nat.le_succ_of_le (lotsN_mem h)
theorem nt {b : Bool} (h : (!b) = true) : b = false := by cases b <;> first | rfl | cases h
theorem nf {b : Bool} (h : (!b) = false) : b = true := by cases b <;> first | rfl | cases h
def allRules : List Rule := lotsN 6 1
/-! #### worths -/
def mexF (ns : List Int) : Nat → Int → Int
  | 0, n => n
  | k + 1, n => if n ∈ ns then mexF ns k (n + 1) else n
def mex (ns : List Int) : Int := mexF ns ns.length 0
theorem cnt_lt {ns : List Int} {n : Int} (h : n ∈ ns) : (ns.filter fun x => decide (n + 1 ≤ x)).length < (ns.filter fun x => decide (n ≤ x)).length := by
  induction ns with
  | nil => cases h
  | cons a r ih =>
    have le : ∀ l : List Int, (l.filter fun x => decide (n + 1 ≤ x)).length ≤ (l.filter fun x => decide (n ≤ x)).length := fun l => by
      induction l with
      | nil => exact Nat.le_refl _
      | cons b l ih2 =>
        rw [List.filter_cons, List.filter_cons]
        by_cases h1 : n + 1 ≤ b
        · rw [if_pos (decide_eq_true h1), if_pos (decide_eq_true (show n ≤ b by omega))]
          exact Nat.succ_le_succ ih2
        · rw [if_neg (by simpa using h1)]
          by_cases h2 : n ≤ b
          · rw [if_pos (decide_eq_true h2)]
            exact Nat.le_succ_of_le ih2
          · rw [if_neg (by simpa using h2)]
            exact ih2
    rw [List.filter_cons, List.filter_cons]
    rcases List.mem_cons.mp h with e | e
    · subst e
      rw [if_neg (by simp only [decide_eq_true_eq]; omega), if_pos (by simp only [decide_eq_true_eq]; omega)]
      exact Nat.lt_succ_of_le (le r)
    · have := ih e
      by_cases h1 : n + 1 ≤ a
      · rw [if_pos (decide_eq_true h1), if_pos (decide_eq_true (show n ≤ a by omega))]
        exact Nat.succ_lt_succ this
      · rw [if_neg (by simpa using h1)]
        by_cases h2 : n ≤ a
        · rw [if_pos (decide_eq_true h2)]
          exact Nat.lt_succ_of_lt this
        · rw [if_neg (by simpa using h2)]
          exact this
/-- what takes of a rule lead to, from a heap of as many as there are worths -/
def behindW (rule : Rule) (found : List Int) : List Int := (rule.filter fun (t : Int) => decide (t ≤ (found.length : Int))).map fun (t : Int) => found.getD (found.length - t.toNat) 0
def stepW (rule : Rule) (found : List Int) : List Int := found ++ [mex (behindW rule found)]
def win (found : List Int) : List Int := cut found (some (-6)) none
def roundsF (rule : Rule) : Nat → List Int → List (List Int) → Option (List Int × List (List Int))
  | 0, found, met => if win found ∈ met then some (found, met) else none
  | k + 1, found, met => if win found ∈ met then some (found, met) else roundsF rule k (stepW rule found) (met ++ [win found])
def roundsN : Nat := 200
def rounds (rule : Rule) : List Int × List Int :=
  match roundsF rule roundsN [] [] with
  | some (found, met) => (cut found none (some ((met.idxOf (win found) : Int) - 6)), cut found (some ((met.idxOf (win found) : Int) - 6)) (some ((found.length : Int) - 6)))
  | none => ([], [0])
def told (early again : List Int) (heap : Int) : Int := if heap < early.length then early.getD heap.toNat 0 else again.getD ((heap - early.length) % again.length).toNat 0
def worth (rule : Rule) (heap : Int) : Int := told (rounds rule).1 (rounds rule).2 heap
def isLost (rule : Rule) (p : List Int) : Bool := decide ((p.foldl (fun t h => Builtin.bitXor t (worth rule h)) 0) = 0)
def goes (rule : Rule) : Fact → Bool
  | .lw b p => isLost rule p == b
  | .mn b t => decide (t ∈ rule) == b
def rulesWith (rules : List Rule) (facts : List Fact) : List Rule := rules.filter fun r => facts.all fun f => goes r f
end Pf
set_option Elab.async false
set_option linter.all false
set_option maxRecDepth 100000
set_option maxHeartbeats 4000000
namespace Pf
open PySem PySem.Spec PyProof.Rows L2 DL
/-! ### facts about the plain functions -/
def encL (w : List Int) : D := .lst (w.map D.int)
theorem eqv_encL (a b : List Int) : eqv (encL a) (encL b) = decide (a = b) := eqvs_dec (enc := D.int) eqv_int a b
theorem eqv_encR (a b : List Int) : eqv (encR a) (encR b) = decide (a = b) := eqvs_dec (enc := D.int) eqv_int a b
theorem flat_encL (a : List Int) : flat 1 (encL a) = true := flats_int 0 a
theorem flats_encL (ws : List (List Int)) : flats 1 (ws.map encL) = true := flats_map flat_encL ws
theorem flats_encR (ws : List (List Int)) : flats 1 (ws.map encR) = true := flats_map flat_R ws
theorem any_encL (a : List Int) (ws : List (List Int)) : (ws.map encL).any (fun z => eqv z (encL a)) = decide (a ∈ ws) := by
  induction ws with
  | nil => rfl
  | cons b r ih =>
    rw [List.map_cons, List.any_cons, ih, eqv_encL, Bool.eq_iff_iff]
    simp only [Bool.or_eq_true, decide_eq_true_eq, List.mem_cons]
    constructor
    · rintro (h | h)
      · exact .inl h.symm
      · exact .inr h
    · rintro (h | h)
      · exact .inl h.symm
      · exact .inr h
/-- the rounds of all rules, as found by the run -/
structure RuleOk (r : Rule) : Prop where
  mem : r ∈ allRules
theorem allRules_takes : allRules.all (fun r => r.all fun t => decide (1 ≤ t) && decide (t ≤ 6)) = true := by decide +kernel
theorem rule_takes {r : Rule} (h : r ∈ allRules) {t : Int} (ht : t ∈ r) : 1 ≤ t ∧ t ≤ 6 := by
  have := List.all_eq_true.mp (List.all_eq_true.mp allRules_takes r h) t ht
  simpa only [Bool.and_eq_true, decide_eq_true_eq] using this
theorem rule_len {r : Rule} (h : r ∈ allRules) : r.length ≤ 6 := lotsN_mem h
/-- what the loop of rounds_of ends with: the window is met, at a place of 6 or more, all short -/
def roundsG (r : Rule) : Bool :=
  match roundsF r roundsN [] [] with
  | some (found, met) => decide (win found ∈ met) && decide (6 ≤ met.idxOf (win found)) && decide (met.idxOf (win found) + 1 ≤ found.length) && decide (found.length ≤ 100) && decide (met.idxOf (win found) < met.length)
  | none => false
theorem rounds_good : allRules.all roundsG = true := by decide +kernel
/-- the loop's states -/
theorem roundsF_step {r : Rule} {k : Nat} {found : List Int} {met : List (List Int)} {res : List Int × List (List Int)} (h : roundsF r k found met = some res) (hn : win found ∉ met) : ∃ k', k = k' + 1 ∧ roundsF r k' (stepW r found) (met ++ [win found]) = some res := by
  cases k with
  | zero =>
    unfold roundsF at h
    rw [if_neg hn] at h
    cases h
  | succ k =>
    unfold roundsF at h
    rw [if_neg hn] at h
    exact ⟨k, rfl, h⟩
theorem roundsF_end {r : Rule} {k : Nat} {found : List Int} {met : List (List Int)} {res : List Int × List (List Int)} (h : roundsF r k found met = some res) (hn : win found ∈ met) : res = (found, met) := by
  cases k with
  | zero =>
    unfold roundsF at h
    rw [if_pos hn] at h
    exact (Option.some.inj h).symm
  | succ k =>
    unfold roundsF at h
    rw [if_pos hn] at h
    exact (Option.some.inj h).symm
/-- lengths grow by one a turn -/
theorem roundsF_len {r : Rule} : ∀ {k : Nat} {found : List Int} {met : List (List Int)} {res : List Int × List (List Int)}, roundsF r k found met = some res → found.length ≤ res.1.length ∧ met.length ≤ found.length + met.length
  | 0, found, met, res, h => by
    by_cases hn : win found ∈ met
    · rw [roundsF_end h hn]; exact ⟨Nat.le_refl _, by omega⟩
    · obtain ⟨k', e, _⟩ := roundsF_step h hn; cases e
  | k + 1, found, met, res, h => by
    by_cases hn : win found ∈ met
    · rw [roundsF_end h hn]; exact ⟨Nat.le_refl _, by omega⟩
    · obtain ⟨k', e, h'⟩ := roundsF_step h hn
      cases e
      have := (roundsF_len h').1
      unfold stepW at this
      rw [List.length_append, List.length_singleton] at this
      exact ⟨by omega, by omega⟩
theorem behind_mem {rule : Rule} (hr : rule ∈ allRules) {found : List Int} {t : Int} (ht : t ∈ rule) (hl : t ≤ found.length) : atI (found.map D.int) ((found.length : Int) - t) = some (.int (found.getD (found.length - t.toNat) 0)) := by
  obtain ⟨h1, h2⟩ := rule_takes hr ht
  have e : (found.length : Int) - t = ((found.length - t.toNat : Nat) : Int) := by omega
  rw [e]
  have hlt : found.length - t.toNat < found.length := by omega
  refine atI_nat ?_
  rw [List.getElem?_map, List.getElem?_eq_getElem hlt, List.getD_eq_getElem?_getD, List.getElem?_eq_getElem hlt]
  rfl
theorem idx_first {α : Type} [BEq α] [LawfulBEq α] {a : α} : ∀ {l : List α}, a ∈ l → l[l.idxOf a]? = some a ∧ ∀ i, i < l.idxOf a → l[i]? ≠ some a
  | b :: l, h => by
    rcases Classical.em (b = a) with e | e
    · subst e
      rw [List.idxOf_cons_self]
      exact ⟨rfl, fun i hi => absurd hi (Nat.not_lt_zero _)⟩
    · have h' : a ∈ l := (List.mem_cons.mp h).resolve_left fun z => e z.symm
      have ei : (b :: l).idxOf a = l.idxOf a + 1 := by
        rw [List.idxOf_cons]
        have : (b == a) = false := by simpa using e
        rw [this]
        rfl
      rw [ei]
      obtain ⟨h1, h2⟩ := idx_first h'
      refine ⟨by simpa using h1, fun i hi => ?_⟩
      cases i with
      | zero => simp only [List.getElem?_cons_zero]; exact fun z => e (Option.some.inj z)
      | succ i =>
        rw [List.getElem?_cons_succ]
        exact h2 i (by omega)
end Pf
set_option Elab.async false
set_option linter.all false
set_option maxRecDepth 100000
set_option maxHeartbeats 4000000
namespace Pf
open PySem PySem.Spec PyProof.Rows L2 DL
/-! ### the rounds of all rules as a table -/
def rTab : List (Rule × List Int × List Int) := [
  ([1], [], [0, 1]),
  ([1, 2], [], [0, 1, 2]),
  ([1, 2, 3], [], [0, 1, 2, 3]),
  ([1, 2, 3, 4], [], [0, 1, 2, 3, 4]),
  ([1, 2, 3, 4, 5], [], [0, 1, 2, 3, 4, 5]),
  ([1, 2, 3, 4, 5, 6], [], [0, 1, 2, 3, 4, 5, 6]),
  ([1, 2, 3, 4, 6], [], [0, 1, 2, 3, 4]),
  ([1, 2, 3, 5], [], [0, 1, 2, 3]),
  ([1, 2, 3, 5, 6], [], [0, 1, 2, 3]),
  ([1, 2, 3, 6], [], [0, 1, 2, 3]),
  ([1, 2, 4], [], [0, 1, 2]),
  ([1, 2, 4, 5], [], [0, 1, 2]),
  ([1, 2, 4, 5, 6], [], [0, 1, 2, 0, 1, 2, 3, 4, 5, 3]),
  ([1, 2, 4, 6], [], [0, 1, 2, 0, 1, 2, 3, 4]),
  ([1, 2, 5], [], [0, 1, 2]),
  ([1, 2, 5, 6], [], [0, 1, 2, 0, 1, 2, 3]),
  ([1, 2, 6], [], [0, 1, 2, 0, 1, 2, 3]),
  ([1, 3], [], [0, 1]),
  ([1, 3, 4], [], [0, 1, 0, 1, 2, 3, 2]),
  ([1, 3, 4, 5], [], [0, 1, 0, 1, 2, 3, 2, 3]),
  ([1, 3, 4, 5, 6], [], [0, 1, 0, 1, 2, 3, 2, 3, 4]),
  ([1, 3, 4, 6], [], [0, 1, 0, 1, 2, 3, 2]),
  ([1, 3, 5], [], [0, 1]),
  ([1, 3, 5, 6], [], [0, 1, 0, 1, 0, 1, 2, 3, 2, 3, 2]),
  ([1, 3, 6], [], [0, 1, 0, 1, 0, 1, 2, 3, 2]),
  ([1, 4], [], [0, 1, 0, 1, 2]),
  ([1, 4, 5], [], [0, 1, 0, 1, 2, 3, 2, 3]),
  ([1, 4, 5, 6], [], [0, 1, 0, 1, 2, 3, 2, 3, 4]),
  ([1, 4, 6], [], [0, 1, 0, 1, 2]),
  ([1, 5], [], [0, 1]),
  ([1, 5, 6], [], [0, 1, 0, 1, 0, 1, 2, 3, 2, 3, 2]),
  ([1, 6], [], [0, 1, 0, 1, 0, 1, 2]),
  ([2], [], [0, 0, 1, 1]),
  ([2, 3], [], [0, 0, 1, 1, 2]),
  ([2, 3, 4], [], [0, 0, 1, 1, 2, 2]),
  ([2, 3, 4, 5], [], [0, 0, 1, 1, 2, 2, 3]),
  ([2, 3, 4, 5, 6], [], [0, 0, 1, 1, 2, 2, 3, 3]),
  ([2, 3, 4, 6], [], [0, 0, 1, 1, 2, 2, 3, 3]),
  ([2, 3, 5], [], [0, 0, 1, 1, 2, 2, 3]),
  ([2, 3, 5, 6], [], [0, 0, 1, 1, 2, 2, 3, 3]),
  ([2, 3, 6], [], [0, 0, 1, 1, 2, 0, 3, 1, 2]),
  ([2, 4], [], [0, 0, 1, 1, 2, 2]),
  ([2, 4, 5], [], [0, 0, 1, 1, 2, 2, 3]),
  ([2, 4, 5, 6], [], [0, 0, 1, 1, 2, 2, 3, 3]),
  ([2, 4, 6], [], [0, 0, 1, 1, 2, 2, 3, 3]),
  ([2, 5], [], [0, 0, 1, 1, 0, 2, 1]),
  ([2, 5, 6], [], [0, 0, 1, 1, 0, 2, 1, 3, 0, 2, 1]),
  ([2, 6], [], [0, 0, 1, 1]),
  ([3], [], [0, 0, 0, 1, 1, 1]),
  ([3, 4], [], [0, 0, 0, 1, 1, 1, 2]),
  ([3, 4, 5], [], [0, 0, 0, 1, 1, 1, 2, 2]),
  ([3, 4, 5, 6], [], [0, 0, 0, 1, 1, 1, 2, 2, 2]),
  ([3, 4, 6], [], [0, 0, 0, 1, 1, 1, 2, 2, 2]),
  ([3, 5], [], [0, 0, 0, 1, 1, 1, 2, 2]),
  ([3, 5, 6], [], [0, 0, 0, 1, 1, 1, 2, 2, 2]),
  ([3, 6], [], [0, 0, 0, 1, 1, 1, 2, 2, 2]),
  ([4], [], [0, 0, 0, 0, 1, 1, 1, 1]),
  ([4, 5], [], [0, 0, 0, 0, 1, 1, 1, 1, 2]),
  ([4, 5, 6], [], [0, 0, 0, 0, 1, 1, 1, 1, 2, 2]),
  ([4, 6], [], [0, 0, 0, 0, 1, 1, 1, 1, 2, 2]),
  ([5], [], [0, 0, 0, 0, 0, 1, 1, 1, 1, 1]),
  ([5, 6], [], [0, 0, 0, 0, 0, 1, 1, 1, 1, 1, 2]),
  ([6], [], [0, 0, 0, 0, 0, 0, 1, 1, 1, 1, 1, 1])]
theorem rTab_ok : (allRules.map fun r => (r, rounds r)) = rTab := by decide +kernel
theorem rTab_mem {r : Rule} (h : r ∈ allRules) : (r, rounds r) ∈ rTab := by
  rw [← rTab_ok]
  exact List.mem_map.mpr ⟨r, h, rfl⟩
theorem rTab_all (p : Rule × List Int × List Int → Bool) (h : rTab.all p = true) {r : Rule} (hr : r ∈ allRules) : p (r, rounds r) = true := List.all_eq_true.mp h _ (rTab_mem hr)
theorem rounds_len {r : Rule} (h : r ∈ allRules) : (rounds r).1.length ≤ 20 ∧ 1 ≤ (rounds r).2.length ∧ (rounds r).2.length ≤ 20 := by
  have := rTab_all (fun z => decide (z.2.1.length ≤ 20) && (decide (1 ≤ z.2.2.length) && decide (z.2.2.length ≤ 20))) (by decide +kernel) h
  simpa only [Bool.and_eq_true, decide_eq_true_eq] using this
theorem told_at {e a : List Int} {h : Int} (h0 : 0 ≤ h) (ha : 1 ≤ a.length) :
    (h < e.length → atI (e.map D.int) h = some (.int (told e a h))) ∧ (¬ h < e.length → atI (a.map D.int) ((h - e.length) % a.length) = some (.int (told e a h))) := by
  unfold told
  refine ⟨fun hl => ?_, fun hl => ?_⟩
  · rw [if_pos hl]
    obtain ⟨k, rfl⟩ : ∃ k : Nat, h = k := ⟨h.toNat, by omega⟩
    have hk : k < e.length := by omega
    refine atI_nat ?_
    rw [List.getElem?_map, List.getElem?_eq_getElem hk, List.getD_eq_getElem?_getD, show ((k : Int)).toNat = k from rfl, List.getElem?_eq_getElem hk]
    rfl
  · rw [if_neg hl]
    have hp : (0 : Int) < a.length := by omega
    have h1 := Int.emod_nonneg (h - e.length) (show (a.length : Int) ≠ 0 by omega)
    have h2 := Int.emod_lt_of_pos (h - e.length) hp
    generalize (h - (e.length : Int)) % (a.length : Int) = z at h1 h2
    obtain ⟨k, rfl⟩ : ∃ k : Nat, z = k := ⟨z.toNat, by omega⟩
    have hk : k < a.length := by omega
    refine atI_nat ?_
    rw [List.getElem?_map, List.getElem?_eq_getElem hk, List.getD_eq_getElem?_getD, show ((k : Int)).toNat = k from rfl, List.getElem?_eq_getElem hk]
    rfl
theorem lwS_lost (b : Bool) : (lwS b == "lost") = b := by cases b <;> decide +kernel
theorem mnS_may (b : Bool) : (mnS b == "may") = b := by cases b <;> decide +kernel
theorem lw_in (b : Bool) : (wLW.any fun y => y == lwS b) = true := by cases b <;> decide +kernel
theorem mn_in (b : Bool) : (wLW.any fun y => y == mnS b) = false := by cases b <;> decide +kernel
theorem rulesWith_sub {rs : List Rule} {fs : List Fact} {r : Rule} (h : r ∈ rulesWith rs fs) : r ∈ rs := (List.mem_filter.mp h).1
theorem rulesWith_len (rs : List Rule) (fs : List Fact) : (rulesWith rs fs).length ≤ rs.length := List.length_filter_le _ _
theorem allRules_len : allRules.length = 63 := by decide +kernel
/-! #### moves -/
def behindP (p : List Int) (i : Nat) (t : Int) : List Int := p.take i ++ [p.getD i 0 - t] ++ p.drop (i + 1)
/-- a move can be made by a rule, and the position behind it is lost -/
def wins (r : Rule) (p : List Int) (i : Nat) (t : Int) : Bool := decide (t ∈ r) && isLost r (behindP p i t)
def takesAt (h : Int) : List Int := (List.range (if h < 6 then h else 6).toNat).map fun k => 1 + ((k : Nat) : Int)
def votesAt (rs : List Rule) (p : List Int) (i : Nat) : List ((Int × Int) × Int) := (takesAt (p.getD i 0)).map fun t => (((i : Int), t), (((rs.filter fun r => wins r p i t).length : Nat) : Int))
def votes (rs : List Rule) (p : List Int) : List ((Int × Int) × Int) := (List.range p.length).flatMap fun i => votesAt rs p i
def encM (m : Int × Int) : D := .tup [.int m.1, .int m.2]
def encV (v : (Int × Int) × Int) : D := .tup [encM v.1, .int v.2]
def sureBy (rs : List Rule) (p : List Int) : List (Int × Int) := ((votes rs p).filter fun v => decide (v.2 = (rs.length : Int))).map (·.1)
def maxI (a b : Int) : Int := if b > a then b else a
def bestMost (vs : List ((Int × Int) × Int)) : Int := vs.foldl (fun m v => maxI m v.2) 0
def bestBy (rs : List Rule) (p : List Int) : Int × List (Int × Int) := (bestMost (votes rs p), ((votes rs p).filter fun v => decide (v.2 = bestMost (votes rs p)) && decide (0 < bestMost (votes rs p))).map (·.1))
end Pf
set_option Elab.async false
set_option linter.all false
set_option maxRecDepth 100000
set_option maxHeartbeats 4000000
namespace Pf
open PySem PySem.Spec PyProof.Rows L2 DL
/-! ### what a law draws -/
abbrev Pot := Int × Int
def encP (p : Pot) : Cl := .lst [.int p.1, .int p.2]
def PotOk (p : Pot) : Prop := 0 ≤ p.1 ∧ 0 ≤ p.2 ∧ p.2 < 2 ^ 32
def nextY (y : Int) : Int := (y * 44357 + 109) % 2147483563
def ladle (p : Pot) (m : Int) : Int × Pot :=
  if 0 < p.1 then (p.1 % m, (p.1 / m, p.2)) else (((nextY p.2 * (nextY p.2 / 7 + 37)) % 2147483549 / 64) % m, (p.1, nextY p.2))
theorem ladle_rng {p : Pot} {m : Int} (hm : 0 < m) : 0 ≤ (ladle p m).1 ∧ (ladle p m).1 < m := by
  unfold ladle
  split
  · exact ⟨Int.emod_nonneg _ (by omega), Int.emod_lt_of_pos _ hm⟩
  · exact ⟨Int.emod_nonneg _ (by omega), Int.emod_lt_of_pos _ hm⟩
theorem nextY_rng (y : Int) : 0 ≤ nextY y ∧ nextY y < 2147483563 := ⟨Int.emod_nonneg _ (by decide), Int.emod_lt_of_pos _ (by decide)⟩
theorem ladle_ok {p : Pot} {m : Int} (hm : 0 < m) (h : PotOk p) : PotOk (ladle p m).2 := by
  unfold ladle
  obtain ⟨h1, h2, h3⟩ := h
  split
  · exact ⟨Int.ediv_nonneg h1 (by omega), h2, h3⟩
  · have := nextY_rng p.2
    exact ⟨h1, this.1, by show nextY p.2 < 2 ^ 32; omega⟩
def cellF (ns : List Int) (k : Int) : Int := if k < ns.length then (if ns.getD k.toNat 0 < 0 then - ns.getD k.toNat 0 else ns.getD k.toNat 0) else 223 * k + 59
def potF (ns : List Int) (k : Int) : Pot := (if 10 ^ 18 ≤ cellF ns k then cellF ns k else 0, (cellF ns k * 53 + 8117 * k + 29) % 2147483563 + 1)
theorem potF_ok (ns : List Int) (k : Int) : PotOk (potF ns k) := by
  unfold potF
  refine ⟨?_, ?_, ?_⟩
  · show 0 ≤ (if 10 ^ 18 ≤ cellF ns k then cellF ns k else 0)
    split <;> omega
  · have := Int.emod_nonneg (cellF ns k * 53 + 8117 * k + 29) (show (2147483563 : Int) ≠ 0 by decide)
    show 0 ≤ (_ + 1 : Int)
    omega
  · have := Int.emod_lt_of_pos (cellF ns k * 53 + 8117 * k + 29) (show (0 : Int) < 2147483563 by decide)
    show (_ + 1 : Int) < 2 ^ 32
    omega
/-! ### every rule -/
def foundN : Nat → List (List Int)
  | 0 => [[]]
  | k + 1 => foundN k ++ (foundN k).map fun r => r ++ [((k + 1 : Nat) : Int)]
theorem foundN_len : ∀ k : Nat, (foundN k).length = 2 ^ k
  | 0 => rfl
  | k + 1 => by
    unfold foundN
    rw [List.length_append, List.length_map, foundN_len k, Nat.pow_succ]
    omega
theorem foundN_mem : ∀ {k : Nat} {r : List Int}, r ∈ foundN k → r.length ≤ k
  | 0, r, h => by
    have : r = [] := by simpa [foundN] using h
    rw [this]; exact Nat.le_refl _
  | k + 1, r, h => by
    unfold foundN at h
    rcases List.mem_append.mp h with h | h
    · exact Nat.le_succ_of_le (foundN_mem h)
    · obtain ⟨s, hs, rfl⟩ := List.mem_map.mp h
      rw [List.length_append]
      exact Nat.succ_le_succ (foundN_mem hs)
theorem lexLt_ne : ∀ {x y : List Int}, DL.lexLt x y = false → DL.lexLt y x = false → x = y
  | [], [], _, _ => rfl
  | [], _ :: _, h, _ => nomatch h
  | _ :: _, [], _, h => nomatch h
  | x :: xs, y :: ys, h1, h2 => by
    unfold DL.lexLt at h1 h2
    by_cases e : x = y
    · rw [if_pos e] at h1
      rw [if_pos e.symm] at h2
      rw [e, lexLt_ne h1 h2]
    · rw [if_neg e, decide_eq_false_iff_not] at h1
      rw [if_neg fun z => e z.symm, decide_eq_false_iff_not] at h2
      omega
theorem all_same {α : Type} {x : α} : ∀ {l m : List α}, (∀ y ∈ l, y = x) → (∀ y ∈ m, y = x) → l.length = m.length → l = m
  | [], [], _, _, _ => rfl
  | [], _ :: _, _, _, h => nomatch h
  | _ :: _, [], _, _, h => nomatch h
  | a :: l, b :: m, h1, h2, h => by
    rw [h1 a List.mem_cons_self, h2 b List.mem_cons_self, all_same (fun y hy => h1 y (List.mem_cons_of_mem _ hy)) (fun y hy => h2 y (List.mem_cons_of_mem _ hy)) (Nat.succ.inj h)]
theorem stb_perm {l m : List (List Int)} (h : l.Perm m) : SrtO.Stb DL.lexLt l m := by
  refine ⟨h, fun x => ?_⟩
  have q : ∀ k : List (List Int), ∀ y ∈ k.filter (SrtO.eqv DL.lexLt x), y = x := fun k y hy => by
    obtain ⟨h1, h2⟩ := SrtO.eqv_iff.mp (List.mem_filter.mp hy).2
    exact (lexLt_ne h1 h2).symm
  exact all_same (q l) (q m) (h.filter _).length_eq
def srtdB : List (List Int) → Bool
  | [] => true
  | x :: l => (l.all fun y => !DL.lexLt y x) && srtdB l
theorem srtd_of : ∀ {l : List (List Int)}, srtdB l = true → SrtO.Srtd DL.lexLt l
  | [], _ => List.Pairwise.nil
  | x :: l, h => by
    unfold srtdB at h
    obtain ⟨h1, h2⟩ := Bool.and_eq_true_iff.mp h
    refine List.pairwise_cons.mpr ⟨fun y hy => ?_, srtd_of h2⟩
    have := List.all_eq_true.mp h1 y hy
    exact nt this
theorem every_srtd : SrtO.Srtd DL.lexLt ([] :: allRules) := srtd_of (by decide +kernel)
theorem every_perm : ([] :: allRules).Perm (foundN 6) := by decide +kernel
theorem every_stb : SrtO.Stb DL.lexLt ([] :: allRules) (foundN 6) := stb_perm every_perm
theorem foundN_head : ∀ k : Nat, ∃ r, foundN k = [] :: r
  | 0 => ⟨[], rfl⟩
  | k + 1 => by
    obtain ⟨r, e⟩ := foundN_head k
    unfold foundN
    rw [e]
    exact ⟨_, rfl⟩
theorem rules_srtd : SrtO.Srtd DL.lexLt allRules := (List.pairwise_cons.mp every_srtd).2
theorem rules_nodup : allRules.Nodup := by decide +kernel
theorem rules_ne : ∀ r ∈ allRules, r ≠ [] := by decide +kernel
/-! ### the worths, one behind another -/
def wN (r : Rule) : Nat → List Int
  | 0 => []
  | n + 1 => stepW r (wN r n)
theorem wN_len (r : Rule) : ∀ n : Nat, (wN r n).length = n
  | 0 => rfl
  | n + 1 => by
    show (stepW r (wN r n)).length = _
    unfold stepW
    rw [List.length_append, wN_len r n]
    rfl
/-- the n-th worth, from the rounds -/
def sW (a : List Int) (n : Nat) : Int := a.getD (n % a.length) 0
/-- the checks: for a rule whose rounds are ([], a) -/
def chkW (z : Rule × List Int × List Int) : Bool :=
  z.2.1.isEmpty && decide (1 ≤ z.2.2.length) && decide (z.2.2.length ≤ 12) && z.1.all (fun t => decide (1 ≤ t) && decide (t ≤ 6)) &&
  ((List.range 6).all fun n => decide (mex ((z.1.filter fun t => decide (t ≤ (n : Int))).map fun t => sW z.2.2 (n - t.toNat)) = sW z.2.2 n)) &&
  ((List.range z.2.2.length).all fun n => decide (mex (z.1.map fun t => sW z.2.2 (n + 6 * z.2.2.length - t.toNat)) = sW z.2.2 n))
theorem chkW_all : rTab.all chkW = true := by decide +kernel
structure RW (r : Rule) (a : List Int) : Prop where
  e : rounds r = ([], a)
  l1 : 1 ≤ a.length
  l2 : a.length ≤ 12
  tk : ∀ t ∈ r, 1 ≤ t ∧ t ≤ 6
  c1 : ∀ n : Nat, n < 6 → mex ((r.filter fun t => decide (t ≤ (n : Int))).map fun t => sW a (n - t.toNat)) = sW a n
  c2 : ∀ n : Nat, n < a.length → mex (r.map fun t => sW a (n + 6 * a.length - t.toNat)) = sW a n
theorem rw_of {r : Rule} (h : r ∈ allRules) : RW r (rounds r).2 := by
  have q := rTab_all chkW chkW_all h
  unfold chkW at q
  simp only [Bool.and_eq_true, decide_eq_true_eq, List.all_eq_true, List.mem_range] at q
  obtain ⟨⟨⟨⟨⟨h1, h2⟩, h3⟩, h4⟩, h5⟩, h6⟩ := q
  refine ⟨?_, h2, h3, h4, h5, h6⟩
  have : (rounds r).1 = [] := List.isEmpty_iff.mp h1
  rw [← this]
theorem sW_mod {a : List Int} (n k : Nat) : sW a (n + k * a.length) = sW a n := by
  unfold sW
  rw [Nat.add_mul_mod_self_right]
theorem sW_res {a : List Int} (n : Nat) : sW a (n % a.length) = sW a n := by
  unfold sW
  rw [Nat.mod_mod]
theorem wN_eq {r : Rule} {a : List Int} (W : RW r a) : ∀ n : Nat, wN r n = (List.range n).map (sW a)
  | 0 => rfl
  | n + 1 => by
    have ih := wN_eq W n
    show stepW r (wN r n) = _
    unfold stepW
    rw [List.range_succ, List.map_append, ← ih]
    congr 1
    show [mex (behindW r (wN r n))] = [sW a n]
    congr 1
    have hb : behindW r (wN r n) = (r.filter fun t => decide (t ≤ (n : Int))).map fun t => sW a (n - t.toNat) := by
      unfold behindW
      rw [wN_len]
      refine List.map_congr_left fun t ht => ?_
      obtain ⟨h1, h2⟩ := List.mem_filter.mp ht
      have h3 := W.tk t h1
      have h4 : t ≤ (n : Int) := of_decide_eq_true h2
      have hlt : n - t.toNat < n := by omega
      rw [ih, List.getD_eq_getElem?_getD, List.getElem?_map, List.getElem?_range hlt]
      rfl
    rw [hb]
    by_cases h6 : n < 6
    · exact W.c1 n h6
    · have hf : (r.filter fun t => decide (t ≤ (n : Int))) = r := List.filter_eq_self.mpr fun t ht => by
        have := W.tk t ht
        exact decide_eq_true (by omega)
      rw [hf]
      have hm := W.c2 (n % a.length) (Nat.mod_lt _ W.l1)
      rw [sW_res] at hm
      rw [← hm]
      congr 1
      refine List.map_congr_left fun t ht => ?_
      have h3 := W.tk t ht
      have hl := W.l1
      have hdm := Nat.mod_add_div n a.length
      -- both sides by adding a multiple of the period
      have e1 : n - t.toNat + 6 * a.length = (n % a.length + 6 * a.length - t.toNat) + (n / a.length) * a.length := by
        have : a.length * (n / a.length) = (n / a.length) * a.length := Nat.mul_comm _ _
        have h7 : t.toNat ≤ 6 * a.length := by omega
        omega
      rw [← sW_mod (n - t.toNat) 6, e1, sW_mod]
theorem worth_eq {r : Rule} {a : List Int} (W : RW r a) {h : Int} (h0 : 0 ≤ h) : worth r h = sW a h.toNat := by
  unfold worth told
  rw [W.e]
  show (if h < (([] : List Int).length : Int) then _ else _) = _
  rw [if_neg (by simp; exact h0)]
  unfold sW
  have hl := W.l1
  have : ((h - (([] : List Int).length : Int)) % (a.length : Int)).toNat = h.toNat % a.length := by
    have e : h - (([] : List Int).length : Int) = (h.toNat : Int) := by simp; omega
    rw [e]
    exact Int.toNat_natCast (h.toNat % a.length)
  rw [this]
/-! ### what is known of a rule -/
theorem map_cut {f : Nat → Int} {L m k : Nat} (h : m + k ≤ L) : (((List.range L).map f).drop m).take k = (List.range k).map fun i => f (m + i) := by
  apply List.ext_getElem?
  intro i
  rw [List.getElem?_take, List.getElem?_drop, List.getElem?_map, List.getElem?_map]
  by_cases hi : i < k
  · rw [if_pos hi, List.getElem?_range (show m + i < L by omega), List.getElem?_range hi]
    rfl
  · have h1 : (List.range k)[i]? = none := List.getElem?_eq_none (by rw [List.length_range]; omega)
    rw [if_neg hi, h1]
    rfl
theorem map_tail {f : Nat → Int} {L m k : Nat} (h : m + k = L) : ((List.range L).map f).drop m = (List.range k).map fun i => f (m + i) := by
  have := map_cut (f := f) (L := L) (m := m) (k := k) (by omega)
  rw [← this, List.take_of_length_le]
  rw [List.length_drop, List.length_map, List.length_range]
  omega
/-- q is a period of what lies behind the first lo -/
def PerAt (lo : Nat) (row : List Int) (q : Nat) : Prop := (row.drop lo).take (lo - q) = row.drop (lo + q)
instance (lo : Nat) (row : List Int) (q : Nat) : Decidable (PerAt lo row q) := inferInstanceAs (Decidable (_ = _))
theorem map_inj {f g : Nat → Int} {k : Nat} : (List.range k).map f = (List.range k).map g ↔ ∀ i, i < k → f i = g i := by
  constructor
  · intro h i hi
    have := congrArg (fun l => l[i]?) h
    simp only [List.getElem?_map, List.getElem?_range hi] at this
    exact Option.some.inj this
  · intro h
    exact List.map_congr_left fun i hi => h i (List.mem_range.mp hi)
theorem perAt_iff {f : Nat → Int} {lo L q : Nat} (hL : L = lo + lo) (hq : q ≤ lo) : PerAt lo ((List.range L).map f) q ↔ ∀ i, i < lo - q → f (lo + i) = f (lo + q + i) := by
  unfold PerAt
  rw [map_cut (by omega), map_tail (k := lo - q) (by omega)]
  exact map_inj
@[irreducible] def perF (row : List Int) : Nat → Nat → Nat
  | 0, q => q
  | k + 1, q => if PerAt 130 row q then q else perF row k (q + 1)
theorem perF_le {row : List Int} {P : Nat} (h : PerAt 130 row P) : ∀ {k q : Nat}, q ≤ P → P ≤ q + k → perF row k q ≤ P ∧ q ≤ perF row k q ∧ PerAt 130 row (perF row k q)
  | 0, q, h1, h2 => by
    have : q = P := by omega
    subst this
    have e : perF row 0 q = q := by unfold perF; rfl
    rw [e]
    exact ⟨Nat.le_refl _, Nat.le_refl _, h⟩
  | k + 1, q, h1, h2 => by
    unfold perF
    by_cases e : PerAt 130 row q
    · rw [if_pos e]
      exact ⟨h1, Nat.le_refl _, e⟩
    · rw [if_neg e]
      have hne : q ≠ P := fun z => e (by rw [z]; exact h)
      obtain ⟨a1, a2, a3⟩ := perF_le h (k := k) (q := q + 1) (by omega) (by omega)
      exact ⟨a1, by omega, a3⟩
@[irreducible] def rowF (r : Rule) : List Int := wN r 260
@[irreducible] def perOf (r : Rule) : Nat := perF (rowF r) 99 1
theorem rowF_eq {r : Rule} {a : List Int} (W : RW r a) : rowF r = (List.range 260).map (sW a) := by
  unfold rowF
  exact wN_eq W 260
theorem perOf_eq (r : Rule) : perOf r = perF (rowF r) 99 1 := by unfold perOf; rfl
theorem rowF_def (r : Rule) : rowF r = wN r 260 := by unfold rowF; rfl
def knownD (r : Rule) : D := .tup [encL (rowF r), .int 0, .int (perOf r : Nat)]
theorem perOf_at {r : Rule} {a : List Int} (W : RW r a) : 1 ≤ perOf r ∧ perOf r ≤ a.length ∧ PerAt 130 (rowF r) (perOf r) := by
  have hl := W.l2
  have h0 : PerAt 130 (rowF r) a.length := by
    rw [rowF_eq W]
    refine (perAt_iff (by rfl) (by omega)).mpr fun i hi => ?_
    have := sW_mod (a := a) (130 + i) 1
    rw [← this]
    congr 1
    omega
  rw [perOf_eq]
  obtain ⟨a1, a2, a3⟩ := perF_le h0 (k := 99) (q := 1) W.l1 (by omega)
  exact ⟨a2, a1, a3⟩
theorem perOf_ok {r : Rule} {a : List Int} (W : RW r a) : 1 ≤ perOf r ∧ perOf r ≤ 12 ∧ ∀ n : Nat, sW a (n + perOf r) = sW a n := by
  obtain ⟨a1, a2, a3⟩ := perOf_at W
  have hl1 := W.l1
  have hl2 := W.l2
  refine ⟨a1, by omega, fun n => ?_⟩
  rw [rowF_eq W] at a3
  have h := (perAt_iff (by rfl) (show perOf r ≤ 130 by omega)).mp a3
  generalize perOf r = q at a1 a2 h
  generalize hP : a.length = P at hl1 hl2 a2
  -- n, shifted to lie behind 130 by whole rounds
  obtain ⟨i, hi, k, hk⟩ : ∃ i, i < P ∧ ∃ k, 130 + i + k * P = n + 130 * P := by
    refine ⟨(n + 130 * P - 130) % P, Nat.mod_lt _ hl1, (n + 130 * P - 130) / P, ?_⟩
    have h1 := Nat.mod_add_div (n + 130 * P - 130) P
    have h2 : P * ((n + 130 * P - 130) / P) = ((n + 130 * P - 130) / P) * P := Nat.mul_comm _ _
    have h3 : 130 ≤ 130 * P := by omega
    omega
  have hh := h i (by omega)
  have m (n k : Nat) : sW a (n + k * P) = sW a n := by rw [← hP]; exact sW_mod n k
  have e1 : sW a n = sW a (130 + i) := by rw [← m n 130, ← hk, m]
  have e2 : sW a (n + q) = sW a (130 + q + i) := by
    rw [← m (n + q) 130, ← m (130 + q + i) k]
    congr 1
    omega
  rw [e1, e2, hh]
theorem sW_per {r : Rule} {a : List Int} (W : RW r a) (n k : Nat) : sW a (n + k * perOf r) = sW a n := by
  induction k with
  | zero => rw [Nat.zero_mul, Nat.add_zero]
  | succ k ih =>
    rw [Nat.succ_mul, ← Nat.add_assoc, (perOf_ok W).2.2, ih]
theorem sW_perMod {r : Rule} {a : List Int} (W : RW r a) (n : Nat) : sW a (n % perOf r) = sW a n := by
  have := sW_per W (n % perOf r) (n / perOf r)
  rw [← this]
  congr 1
  have h := Nat.mod_add_div n (perOf r)
  have h2 : perOf r * (n / perOf r) = (n / perOf r) * perOf r := Nat.mul_comm _ _
  omega
end Pf
set_option Elab.async false
set_option linter.all false
set_option maxRecDepth 100000
set_option maxHeartbeats 4000000
namespace Pf
open PySem PySem.Spec PyProof.Rows L2 DL
/-! ### the text -/
def topS (i : Nat) : Stmt := PySem.Challenge.pw_heapsuntold_k07_moves_that_surely_win_or.main.body.getD i (.Pass ⟨0, 0, 0, 0⟩)
abbrev s_is_integer : Stmt := topS 23
abbrev s_is_position : Stmt := topS 24
abbrev s_is_fact : Stmt := topS 25
abbrev s_is_book : Stmt := topS 26
abbrev s_lots_from : Stmt := topS 29
abbrev s_least_free : Stmt := topS 30
/-- the module's names -/
structure Mg (mg : Str → Option Value) : Prop where
  isinstance : mg "isinstance" = none
  int : mg "int" = none
  bool : mg "bool" = none
  tuple : mg "tuple" = none
  str : mg "str" = none
  len : mg "len" = none
  all : mg "all" = none
  range : mg "range" = none
  mTake : CI mg "MOST_TAKE" 6
  mHeap : CI mg "MOST_HEAP" (10 ^ 30)
  mHeaps : CI mg "MOST_HEAPS" 3
  mFacts : CI mg "MOST_FACTS" 8
section
variable {P : Program} {w : World} {K : PySem.W.Frag} {mg : Str → Option Value} {base : Heap} {T : Tb}
/-! ### is_integer -/
theorem sc_is_integer : FnScope ["value", "low", "high"] ["value", "low", "high"] (defScope s_is_integer) := ⟨rfl, rfl, rfl, by decide +kernel, rfl, by decide +kernel, by decide +kernel⟩
def R_is_integer (ds : List D) (r : Rs) : Prop := ∃ d lo hi n, ds = [d, .int lo, .int hi] ∧ flat n d = true ∧ r = .dat (.bl (isInt d lo hi))
theorem ok_is_integer (M : Mg mg) (F : Df K mg "is_integer" s_is_integer ["value", "low", "high"]) : Fn P w K mg base CX0 1 "is_integer" (spP K T R_is_integer) :=
  F.fn fun f fd F => fn_pure F sc_is_integer (fun ds r ⟨d, lo, hi, n, e, _⟩ => by rw [e]; rfl) fun cdv A outer s H E hr ds r hR => by
    obtain ⟨d, lo, hi, n, rfl, hf, rfl⟩ := hR
    obtain ⟨t, ht⟩ := flat_ty hf
    cases d with
    | int i =>
      exact ess_cons (es_ret (ex_and (ex_isInt M.isinstance (ex_var 0 rfl) M.int ht) (fun _ => ex_and (ex_not (ex_isBool M.isinstance (ex_var 0 rfl) M.bool ht)) (fun _ => ex_one (ex_le2 (ex_var 1 rfl) (ex_var 0 rfl) (ex_var 2 rfl))) (fun h => nomatch h)) (fun h => nomatch h)) rfl)
    | bl b => exact ess_cons (es_ret (ex_and (ex_isInt M.isinstance (ex_var 0 rfl) M.int ht) (fun _ => ex_and (k' := false) (ex_not (ex_isBool M.isinstance (ex_var 0 rfl) M.bool ht)) (fun h => nomatch h) (fun _ => rfl)) (fun h => nomatch h)) rfl)
    | non => exact ess_cons (es_ret (ex_and (k' := false) (ex_isInt M.isinstance (ex_var 0 rfl) M.int ht) (fun h => nomatch h) (fun _ => rfl)) rfl)
    | str x => exact ess_cons (es_ret (ex_and (k' := false) (ex_isInt M.isinstance (ex_var 0 rfl) M.int ht) (fun h => nomatch h) (fun _ => rfl)) rfl)
    | tup x => exact ess_cons (es_ret (ex_and (k' := false) (ex_isInt M.isinstance (ex_var 0 rfl) M.int ht) (fun h => nomatch h) (fun _ => rfl)) rfl)
    | lst x => exact ess_cons (es_ret (ex_and (k' := false) (ex_isInt M.isinstance (ex_var 0 rfl) M.int ht) (fun h => nomatch h) (fun _ => rfl)) rfl)
    | dct x => cases hf
    | raw x => cases hf
/-! ### is_position -/
theorem sc_is_position : FnScope ["value", "heap"] ["value"] (defScope s_is_position) := ⟨rfl, rfl, rfl, by decide +kernel, rfl, by decide +kernel, by decide +kernel⟩
def R_is_position (ds : List D) (r : Rs) : Prop := ∃ d n, ds = [d] ∧ flat n d = true ∧ r = .dat (.bl (isPos d))
theorem ok_is_position (M : Mg mg) (F : Df K mg "is_position" s_is_position ["value"]) (F1 : Fn P w K mg base CX0 1 "is_integer" (spP K T R_is_integer)) : Fn P w K mg base CX0 2 "is_position" (spP K T R_is_position) :=
  F.fn fun f fd F => fn_pure F sc_is_position (fun ds r ⟨d, n, e, _⟩ => by rw [e]; rfl) fun cdv A outer s H E hr ds r hR => by
    obtain ⟨d, n, rfl, hf, rfl⟩ := hR
    have nd := sc_is_position.nd
    by_cases hd : ∃ xs, d = .tup xs
    · obtain ⟨xs, rfl⟩ := hd
      obtain ⟨m, rfl, hm⟩ := flat_tup hf
      refine ess_cons (es_ifP (!(decide ((1 : Int) ≤ xs.length) && decide ((xs.length : Int) ≤ 3))) ?c (fun h => ess_cons (es_ret ex_bl ?_)) (fun h => ess_nil ?_))
      case c => exact et_or2 (k := false) (et_eq (et_not (et_val (ex_isTup (t := "tuple") M.isinstance (ex_var 0 rfl) M.tuple rfl))) (by rfl)) fun _ => et_not (et_le2 ex_int (ex_lenT M.len (ex_var 0 rfl)) (ex_ci M.mHeaps))
      · have h' : (decide ((1 : Int) ≤ xs.length) && decide ((xs.length : Int) ≤ 3)) = false := by
          cases q : (decide ((1 : Int) ≤ xs.length) && decide ((xs.length : Int) ≤ 3)) with
          | false => rfl
          | true => rw [q] at h; cases h
        have e : isPos (.tup xs) = false := by
          have q : (decide (1 ≤ xs.length) && decide (xs.length ≤ 3)) = false := by
            rw [← h', Bool.eq_iff_iff]
            simp only [Bool.and_eq_true, decide_eq_true_eq]
            omega
          show (decide (1 ≤ xs.length) && decide (xs.length ≤ 3) && _) = false
          rw [q, Bool.false_and]
        rw [e]
        exact rfl
      · have h' : (decide ((1 : Int) ≤ xs.length) && decide ((xs.length : Int) ≤ 3)) = true := by
          cases q : (decide ((1 : Int) ≤ xs.length) && decide ((xs.length : Int) ≤ 3)) with
          | true => rfl
          | false => rw [q] at h; cases h
        simp only [Bool.and_eq_true, decide_eq_true_eq] at h'
        have hz : xs.length < sizeLine := by rw [sizeLine_eq]; omega
        refine ess_cons (es_ret (ex_all (bs := xs.map fun d => isInt d 0 (10 ^ 30)) M.all rfl (LcOk.val (own := [("heap", 1)]) (xs := (xs.map fun d => isInt d 0 (10 ^ 30)).map D.bl) sc_is_position (by
          rw [List.map_map]
          exact lc_map (enc := id) (fun d => .bl (isInt d 0 (10 ^ 30))) (ei_tup (by rw [List.map_id]; exact ex_var 0 rfl)) (fun a _ s H C cl fp => gx_name 1 nd)
            (fun a ha s H C cl fp => ex_call F1 hr (ea_cons (ex_var 1 rfl) (ea_cons ex_int (ea_cons (ex_ci M.mHeap) ea_nil))) ⟨a, 0, 10 ^ 30, m, rfl, flats_mem hm a ha, rfl⟩) hz))) ?_)
        have e : isPos (.tup xs) = (xs.map fun d => isInt d 0 (10 ^ 30)).all id := by
          show (decide (1 ≤ xs.length) && decide (xs.length ≤ 3) && _) = _
          rw [decide_eq_true (show 1 ≤ xs.length by omega), decide_eq_true (show xs.length ≤ 3 by omega), List.all_map]
          rfl
        rw [e]
        exact rfl
    · obtain ⟨t, ht⟩ := flat_ty hf
      have e1 : isT d = false := by
        cases d with
        | tup xs => exact absurd ⟨xs, rfl⟩ hd
        | _ => rfl
      have e2 : isPos d = false := by
        cases d with
        | tup xs => exact absurd ⟨xs, rfl⟩ hd
        | _ => rfl
      rw [e2]
      exact ess_cons (es_ifP true (et_or2 (k := true) (k' := true) (et_eq (et_not (et_val (ex_isTup M.isinstance (ex_var 0 rfl) M.tuple ht))) (by rw [e1]; rfl)) fun h => nomatch h) (fun _ => ess_cons (es_ret ex_bl rfl)) (fun h => nomatch h))
end
end Pf
set_option Elab.async false
set_option linter.all false
set_option maxRecDepth 100000
set_option maxHeartbeats 4000000
namespace Pf
open PySem PySem.Spec PyProof.Rows L2 DL
section
variable {P : Program} {w : World} {K : PySem.W.Frag} {mg : Str → Option Value} {base : Heap} {T : Tb}
/-! ### is_fact -/
theorem sc_is_fact : FnScope ["value"] ["value"] (defScope s_is_fact) := ⟨rfl, rfl, rfl, by decide +kernel, rfl, by decide +kernel, by decide +kernel⟩
def R_is_fact (ds : List D) (r : Rs) : Prop := ∃ d n, ds = [d] ∧ flat n d = true ∧ r = .dat (.bl (isFact d))
theorem isFact_no {d : D} (h : ∀ x e, d ≠ .tup [.str x, e]) : isFact d = false := by
  match d, h with
  | .tup [.str x, e], h => exact absurd rfl (h x e)
  | .tup [], _ => rfl
  | .tup [a], _ => cases a <;> rfl
  | .tup (a :: _ :: _ :: _), _ => cases a <;> rfl
  | .tup [.non, _], _ => rfl
  | .tup [.bl _, _], _ => rfl
  | .tup [.int _, _], _ => rfl
  | .tup [.tup _, _], _ => rfl
  | .tup [.lst _, _], _ => rfl
  | .tup [.dct _, _], _ => rfl
  | .tup [.raw _, _], _ => rfl
  | .non, _ => rfl
  | .bl _, _ => rfl
  | .int _, _ => rfl
  | .str _, _ => rfl
  | .lst _, _ => rfl
  | .dct _, _ => rfl
  | .raw _, _ => rfl
theorem ok_is_fact (M : Mg mg) (F : Df K mg "is_fact" s_is_fact ["value"]) (F1 : Fn P w K mg base CX0 1 "is_integer" (spP K T R_is_integer)) (F2 : Fn P w K mg base CX0 2 "is_position" (spP K T R_is_position)) : Fn P w K mg base CX0 3 "is_fact" (spP K T R_is_fact) :=
  F.fn fun f fd F => fn_pure F sc_is_fact (fun ds r ⟨d, n, e, _⟩ => by rw [e]; rfl) fun cdv A outer s H E hr ds r hR => by
    obtain ⟨d, n, rfl, hf, rfl⟩ := hR
    obtain ⟨t, ht⟩ := flat_ty hf
    by_cases hT : ∃ xs, d = .tup xs
    · obtain ⟨xs, rfl⟩ := hT
      by_cases h2 : ∃ a e, xs = [a, e]
      · obtain ⟨a, e, rfl⟩ := h2
        obtain ⟨m, rfl, hm⟩ := flat_tup hf
        have fa := flats_mem hm a (by simp)
        have fe := flats_mem hm e (by simp)
        obtain ⟨ta, hta⟩ := flat_ty fa
        by_cases hS : ∃ x, a = .str x
        · obtain ⟨x, rfl⟩ := hS
          refine ess_cons (es_ifP false (et_or3 (k := false) (k' := false) (k2 := false) (et_eq (et_not (et_val (ex_isTup M.isinstance (ex_var 0 rfl) M.tuple ht))) (by rfl))
            (fun _ => et_eq (et_neI (ex_lenT M.len (ex_var 0 rfl)) ex_int) (by rfl)) (fun _ _ => et_eq (et_not (et_val (ex_isStr M.isinstance (ex_atT (ex_var 0 rfl) ex_int rfl) M.str hta))) (by rfl))) (fun h => nomatch h) (fun _ => ess_nil ?_))
          refine ess_cons (es_ifP (isLW x) (et_cmp op_in_seq (ex_atT (ex_var 0 rfl) ex_int rfl) (ex_tup (ea_cons ex_str (ea_cons ex_str ea_nil))) (rr_inT (ns := wLW))) (fun h => ?_) (fun h => ess_nil ?_))
          · refine ess_cons (es_ret (ex_call F2 hr (ea_cons (ex_atT (ex_var 0 rfl) ex_int rfl) ea_nil) ⟨e, m, rfl, fe, rfl⟩) ?_)
            show Rs.dat _ = Rs.dat (.bl (if isLW x = true then isPos e else _))
            rw [if_pos h]
          · refine ess_cons (es_ret (ex_and2 (ex_cmp op_in_seq (ex_atT (ex_var 0 rfl) ex_int rfl) (ex_tup (ea_cons ex_str (ea_cons ex_str ea_nil))) (rr_inT (ns := wMN)))
              (fun _ => ex_call F1 hr (ea_cons (ex_atT (ex_var 0 rfl) ex_int rfl) (ea_cons ex_int (ea_cons (ex_ci M.mTake) ea_nil))) ⟨e, 1, 6, m, rfl, fe, rfl⟩)) ?_)
            show Rs.dat _ = Rs.dat (.bl (if isLW x = true then _ else isMN x && isInt e 1 6))
            rw [if_neg (by rw [h]; decide)]
            rfl
        · have e1 : isS a = false := by
            cases a with
            | str x => exact absurd ⟨x, rfl⟩ hS
            | _ => rfl
          rw [isFact_no fun x e' q => by cases q; exact hS ⟨_, rfl⟩]
          exact ess_cons (es_ifP true (et_or3 (k := false) (k' := false) (k2 := true) (et_eq (et_not (et_val (ex_isTup M.isinstance (ex_var 0 rfl) M.tuple ht))) (by rfl))
            (fun _ => et_eq (et_neI (ex_lenT M.len (ex_var 0 rfl)) ex_int) (by rfl)) (fun _ _ => et_eq (et_not (et_val (ex_isStr M.isinstance (ex_atT (ex_var 0 rfl) ex_int rfl) M.str hta))) (by rw [e1]; rfl))) (fun _ => ess_cons (es_ret ex_bl rfl)) (fun h => nomatch h))
      · have hl : xs.length ≠ 2 := fun q => by
          match xs, q with
          | [a, e], _ => exact h2 ⟨a, e, rfl⟩
        rw [isFact_no fun x e q => by cases q; exact h2 ⟨_, _, rfl⟩]
        exact ess_cons (es_ifP true (et_or3 (k := false) (k' := true) (k2 := true) (et_eq (et_not (et_val (ex_isTup M.isinstance (ex_var 0 rfl) M.tuple ht))) (by rfl))
          (fun _ => et_eq (et_neI (ex_lenT M.len (ex_var 0 rfl)) ex_int) (by rw [decide_eq_false (by omega)]; rfl)) (fun _ h => nomatch h)) (fun _ => ess_cons (es_ret ex_bl rfl)) (fun h => nomatch h))
    · have e1 : isT d = false := by
        cases d with
        | tup xs => exact absurd ⟨xs, rfl⟩ hT
        | _ => rfl
      rw [isFact_no fun x e q => hT ⟨_, q⟩]
      exact ess_cons (es_ifP true (et_or3 (k := true) (k' := true) (k2 := true) (et_eq (et_not (et_val (ex_isTup M.isinstance (ex_var 0 rfl) M.tuple ht))) (by rw [e1]; rfl)) (fun h => nomatch h) (fun h => nomatch h)) (fun _ => ess_cons (es_ret ex_bl rfl)) (fun h => nomatch h))
/-! ### is_book -/
theorem sc_is_book : FnScope ["value", "fact"] ["value"] (defScope s_is_book) := ⟨rfl, rfl, rfl, by decide +kernel, rfl, by decide +kernel, by decide +kernel⟩
def R_is_book (ds : List D) (r : Rs) : Prop := ∃ d n, ds = [d] ∧ flat n d = true ∧ r = .dat (.bl (isBook d))
theorem ok_is_book (M : Mg mg) (F : Df K mg "is_book" s_is_book ["value"]) (F3 : Fn P w K mg base CX0 3 "is_fact" (spP K T R_is_fact)) : Fn P w K mg base CX0 4 "is_book" (spP K T R_is_book) :=
  F.fn fun f fd F => fn_pure F sc_is_book (fun ds r ⟨d, n, e, _⟩ => by rw [e]; rfl) fun cdv A outer s H E hr ds r hR => by
    obtain ⟨d, n, rfl, hf, rfl⟩ := hR
    obtain ⟨t, ht⟩ := flat_ty hf
    have nd := sc_is_book.nd
    by_cases hT : ∃ xs, d = .tup xs
    · obtain ⟨xs, rfl⟩ := hT
      obtain ⟨m, rfl, hm⟩ := flat_tup hf
      refine ess_cons (es_ret (ex_and3 (k := true) (k' := decide ((xs.length : Int) ≤ 8)) (k2 := xs.all isFact) (ex_eq (ex_isTup M.isinstance (ex_var 0 rfl) M.tuple ht) (by rfl)) (fun _ => ex_le (ex_lenT M.len (ex_var 0 rfl)) (ex_ci M.mFacts)) (fun _ h => ?_)) ?_)
      · have h8 : (xs.length : Int) ≤ 8 := of_decide_eq_true h
        have e : xs.all isFact = (xs.map isFact).all id := by rw [List.all_map]; rfl
        rw [e]
        refine ex_all M.all rfl (LcOk.val (own := [("fact", 1)]) sc_is_book ?_)
        rw [List.map_map]
        exact lc_map (enc := id) (fun d => .bl (isFact d)) (ei_tup (by rw [List.map_id]; exact ex_var 0 rfl)) (fun a _ s H C cl fp => gx_name 1 nd)
          (fun a ha s H C cl fp => ex_call F3 hr (ea_cons (ex_var 1 rfl) ea_nil) ⟨a, m, rfl, flats_mem hm a ha, rfl⟩) (by rw [sizeLine_eq]; omega)
      · show Rs.dat _ = Rs.dat (.bl (decide (xs.length ≤ 8) && xs.all isFact))
        have e : decide ((xs.length : Int) ≤ 8) = decide (xs.length ≤ 8) := by
          rw [Bool.eq_iff_iff]
          simp only [decide_eq_true_eq]
          omega
        rw [e]
        rfl
    · have e1 : isT d = false := by
        cases d with
        | tup xs => exact absurd ⟨xs, rfl⟩ hT
        | _ => rfl
      have e2 : isBook d = false := by
        cases d with
        | tup xs => exact absurd ⟨xs, rfl⟩ hT
        | _ => rfl
      rw [e2]
      exact ess_cons (es_ret (ex_and3 (k := false) (k' := false) (k2 := false) (ex_eq (ex_isTup M.isinstance (ex_var 0 rfl) M.tuple ht) (by rw [e1])) (fun h => nomatch h) (fun h => nomatch h)) rfl)
end
end Pf
set_option Elab.async false
set_option linter.all false
set_option maxRecDepth 100000
set_option maxHeartbeats 4000000
namespace Pf
open PySem PySem.Spec PyProof.Rows L2 DL
section
variable {P : Program} {w : World} {K : PySem.W.Frag} {mg : Str → Option Value} {base : Heap} {T : Tb}

/-! ### need_position -/
abbrev s_need_position : Stmt := topS 27
theorem sc_need_position : FnScope ["value"] ["value"] (defScope s_need_position) := ⟨rfl, rfl, rfl, by decide +kernel, rfl, by decide +kernel, by decide +kernel⟩
def R_need_position (C : Addr) (ds : List D) (r : Rs) : Prop := ∃ d n, ds = [d] ∧ flat n d = true ∧ r = (if isPos d then .dat .non else .exc C)
theorem ok_need_position {C : Addr} (M : Mg mg) (c : XCls K mg "InvalidPosition" C) (F : Df K mg "need_position" s_need_position ["value"]) (F2 : Fn P w K mg base CX0 2 "is_position" (spP K T R_is_position)) : Fn P w K mg base (L2N.CX P w) 3 "need_position" (spP K T (R_need_position C)) :=
  F.fn fun f fd F => fn_pureX F sc_need_position (fun ds r ⟨d, n, e, _⟩ => by rw [e]; rfl) fun cdv A outer s H E hr ds r hR => by
    obtain ⟨d, n, rfl, hf, rfl⟩ := hR
    refine ess_cons (es_ifP (!isPos d) (et_not (et_val (ex_call F2 hr (ea_cons (ex_var 0 rfl) ea_nil) ⟨d, n, rfl, hf, rfl⟩))) (fun h => ess_cons (es_raise c (L2N.takes_of rfl rfl rfl rfl) ?_)) (fun h => ess_nil (ess_nil ?_)))
    · show (if isPos d = true then _ else _) = _
      rw [if_neg (by rw [nt h]; decide)]
    · show (if isPos d = true then _ else _) = _
      rw [if_pos (nf h)]

/-! ### need_book -/
abbrev s_need_book : Stmt := topS 28
theorem sc_need_book : FnScope ["value"] ["value"] (defScope s_need_book) := ⟨rfl, rfl, rfl, by decide +kernel, rfl, by decide +kernel, by decide +kernel⟩
def R_need_book (C : Addr) (ds : List D) (r : Rs) : Prop := ∃ d n, ds = [d] ∧ flat n d = true ∧ r = (if isBook d then .dat .non else .exc C)
theorem ok_need_book {C : Addr} (M : Mg mg) (c : XCls K mg "InvalidBook" C) (F : Df K mg "need_book" s_need_book ["value"]) (F4 : Fn P w K mg base CX0 4 "is_book" (spP K T R_is_book)) : Fn P w K mg base (L2N.CX P w) 5 "need_book" (spP K T (R_need_book C)) :=
  F.fn fun f fd F => fn_pureX F sc_need_book (fun ds r ⟨d, n, e, _⟩ => by rw [e]; rfl) fun cdv A outer s H E hr ds r hR => by
    obtain ⟨d, n, rfl, hf, rfl⟩ := hR
    refine ess_cons (es_ifP (!isBook d) (et_not (et_val (ex_call F4 hr (ea_cons (ex_var 0 rfl) ea_nil) ⟨d, n, rfl, hf, rfl⟩))) (fun h => ess_cons (es_raise c (L2N.takes_of rfl rfl rfl rfl) ?_)) (fun h => ess_nil (ess_nil ?_)))
    · show (if isBook d = true then _ else _) = _
      rw [if_neg (by rw [nt h]; decide)]
    · show (if isBook d = true then _ else _) = _
      rw [if_pos (nf h)]
/-! ### lots_from -/
theorem sc_lots_from : FnScope ["first", "last", "found", "one", "rest"] ["first", "last"] (defScope s_lots_from) := ⟨rfl, rfl, rfl, by decide +kernel, rfl, by decide +kernel, by decide +kernel⟩
/-- with fewer than n items -/
def R_lots_from (n : Nat) (ds : List D) (r : Rs) : Prop := ∃ (a : Int) (m : Nat), m < n ∧ m ≤ 9 ∧ -1000 ≤ a ∧ a + m ≤ 1000 ∧ ds = [.int a, .int (a + m - 1)] ∧ r = .new ((lotsN m a).map encR)
theorem pow9 {m : Nat} (h : m ≤ 9) : 2 ^ m ≤ 512 := Nat.le_trans (Nat.pow_le_pow_right (by decide) h) (by decide)
theorem step_lots_from {n : Nat} {f : Addr} {fd : FuncData} (M : Mg mg) (F : L2.Fun K "lots_from" "lots_from" s_lots_from f fd) (G : Fn P w K mg base CX0 n "lots_from" (spP K T (R_lots_from n))) : FnOk P w K mg base CX0 (n + 1) f fd ["first", "last"] (spP K T (R_lots_from (n + 1))) :=
  fn_pure F sc_lots_from (fun ds r ⟨a, m, _, _, _, _, e, _⟩ => by rw [e]; rfl) fun cdv A outer s H E hr ds r hR => by
    obtain ⟨a, m, hm, h9, ha1, ha2, rfl, rfl⟩ := hR
    have nd := sc_lots_from.nd
    refine ess_cons (es_setL 2 (en_lst ea_nil) (fun q hq => ?_) nd)
    have em : ((a + (m : Int) - 1 + 1) - a).toNat = m := by omega
    refine ess_cons (es_for (I := fun k ρ' => ∃ x, ρ' = [.dat (.int a), .dat (.int (a + m - 1)), .own q (.lst ((lotsK m a k).map encR)), x, .no]) PassesOwn.never rfl
      (ei_range2 M.range (ea_cons (ex_var 0 rfl) (ea_cons (ex_add (ex_var 1 rfl) ex_int) ea_nil)) (by refine ⟨?_, ?_, ?_, ?_⟩ <;> omega)) ⟨.no, rfl⟩ (fun i d ρ' hd hI => ?_) (fun ρ' hI => ?_))
    · obtain ⟨x, rfl⟩ := hI
      have hi : i < m := by
        have := (List.getElem?_eq_some_iff.mp hd).1
        rw [List.length_map, List.length_range, em] at this
        exact this
      have ed : d = .int (a + (i : Nat)) := by
        rw [List.getElem?_map, em, List.getElem?_range hi] at hd
        exact (Option.some.inj hd).symm
      subst ed
      have l1 : (lotsK m a i).length ≤ 512 := by
        have h1 := lotsN_len m a
        have h2 := pow9 h9
        have h3 : (lotsK m a i).length ≤ (lotsK m a m).length := by
          have : ∀ j, i + j ≤ m → (lotsK m a i).length ≤ (lotsK m a (i + j)).length := fun j => by
            induction j with
            | zero => intro _; exact Nat.le_refl _
            | succ j ih =>
              intro hj
              have := ih (by omega)
              rw [show i + (j + 1) = i + j + 1 from rfl, lotsK_succ, List.length_append]
              omega
          have := this (m - i) (by omega)
          rwa [show i + (m - i) = m by omega] at this
        rw [lotsN_eq] at h3
        omega
      have l2 : (lotsN (m - i - 1) (a + (i : Nat) + 1)).length ≤ 512 := by
        have h1 := lotsN_len (m - i - 1) (a + (i : Nat) + 1)
        have h2 := pow9 (show m - i - 1 ≤ 9 by omega)
        omega
      refine ⟨_, _, gx_name 3 nd, ess_cons (es_appendP 2 rfl (ex_tup (ea_cons (ex_var 3 rfl) ea_nil)) (by rw [List.length_map, sizeLine_eq]; omega) ?_)⟩
      refine ess_cons (es_extendP 2 rfl (LcOk.val (own := [("rest", 4)]) (xs := (lotsN (m - i - 1) (a + (i : Nat) + 1)).map fun r => encR ((a + (i : Nat)) :: r)) sc_lots_from ?_) ?_ ?_)
      · refine lc_map (enc := encR) (fun r => encR ((a + (i : Nat)) :: r)) (ei_list (EN.ex (en_call G hr (ea_cons (ex_add (ex_var 3 rfl) ex_int) (ea_cons (ex_var 1 rfl) ea_nil)) ⟨a + (i : Nat) + 1, m - i - 1, by omega, by omega, by omega, by omega, ?_, rfl⟩ (by omega)))) (fun r _ s H C cl fp => gx_name 4 nd)
          (fun r hr s H C cl fp => ex_op op_catA (ex_tup (ea_cons (ex_var 3 rfl) ea_nil)) (ex_var 4 rfl) (rr_catT ?_)) (by rw [sizeLine_eq]; omega)
        · have e : a + (m : Int) - 1 = a + (i : Nat) + 1 + ((m - i - 1 : Nat) : Int) - 1 := by omega
          rw [e]
        · have := lotsN_mem hr
          rw [List.length_map, sizeLine_eq]
          simp only [List.length_singleton]
          omega
      · rw [List.length_append, List.length_map, List.length_map, sizeLine_eq]
        simp only [List.length_singleton]
        omega
      · refine ess_nil ⟨.dat (.int (a + (i : Nat))), ?_⟩
        rw [lotsK_succ, List.map_append, List.map_cons, List.map_map, List.append_assoc]
        rfl
    · obtain ⟨x, rfl⟩ := hI
      rw [List.length_map, List.length_range, em, lotsN_eq]
      exact ess_cons (es_retOwn 2 rfl rfl)
theorem ok_lots_from (M : Mg mg) (F : Df K mg "lots_from" s_lots_from ["first", "last"]) : ∀ n : Nat, Fn P w K mg base CX0 n "lots_from" (spP K T (R_lots_from n))
  | 0 => by
    obtain ⟨f, fd, h1, h2, h3⟩ := F.ex
    have no : ∀ vs H Q E, ¬ spP K T (R_lots_from 0) vs H Q E := fun vs H Q E ⟨B, G, ds, r, _, _, ⟨a, m, hm, _⟩, _⟩ => absurd hm (Nat.not_lt_zero _)
    exact ⟨f, fd, ["first", "last"], h1, h2.kp, h3, ⟨fun vs H Q E h => absurd h (no vs H Q E), fun A outer s H args us vs Q E _ _ _ _ h => absurd h (no vs H Q E)⟩⟩
  | n + 1 => F.fn fun f fd F' => step_lots_from M F' (ok_lots_from M F n)
end
end Pf
set_option Elab.async false
set_option linter.all false
set_option maxRecDepth 100000
set_option maxHeartbeats 4000000
namespace Pf
open PySem PySem.Spec PyProof.Rows L2 DL
abbrev s_rounds_of : Stmt := topS 31
abbrev s_told_by : Stmt := topS 32
section
variable {P : Program} {w : World} {K : PySem.W.Frag} {mg : Str → Option Value} {base : Heap} {T : Tb}
/-! ### least_free -/
theorem sc_least_free : FnScope ["numbers", "number"] ["numbers"] (defScope s_least_free) := ⟨rfl, rfl, rfl, by decide +kernel, rfl, by decide +kernel, by decide +kernel⟩
def R_least_free (ds : List D) (r : Rs) : Prop := ∃ ns : List Int, ds = [encL ns] ∧ r = .dat (.int (mex ns))
theorem ok_least_free (M : Mg mg) (F : Df K mg "least_free" s_least_free ["numbers"]) : Fn P w K mg base CX0 1 "least_free" (spP K T R_least_free) :=
  F.fn fun f fd F => fn_pure F sc_least_free (fun ds r ⟨ns, e, _⟩ => by rw [e]; rfl) fun cdv A outer s H E hr ds r hR => by
    obtain ⟨ns, rfl, rfl⟩ := hR
    have nd := sc_least_free.nd
    refine ess_cons (es_set 1 ex_int ?_ nd)
    refine ess_cons (es_while (I := fun m ρ' => ∃ n, ρ' = [.dat (encL ns), .dat (.int n)] ∧ (ns.filter fun x => decide (n ≤ x)).length ≤ m ∧ mexF ns m n = mex ns) ns.length PassesOwn.never ⟨0, rfl, List.length_filter_le _ _, rfl⟩ (fun m ρ' hI => ?_))
    obtain ⟨n, rfl, h1, h2⟩ := hI
    refine ⟨_, decide (n ∈ ns), et_cmp op_in_seq (ex_var 1 rfl) (ex_var 0 rfl) (rr_inI (.inl rfl)), fun h => ?_, fun h => ?_⟩
    · have hn : n ∈ ns := of_decide_eq_true h
      have hc := cnt_lt hn
      obtain ⟨m', rfl⟩ : ∃ m', m = m' + 1 := ⟨m - 1, by omega⟩
      refine ess_cons (es_set 1 (ex_add (ex_var 1 rfl) ex_int) (ess_nil ⟨m', Nat.lt_succ_self _, n + 1, rfl, by omega, ?_⟩) nd)
      rw [← h2]
      show _ = (if n ∈ ns then mexF ns m' (n + 1) else n)
      rw [if_pos hn]
    · have hn : n ∉ ns := of_decide_eq_false h
      have e : mex ns = n := by
        rw [← h2]
        cases m with
        | zero => rfl
        | succ m =>
          show (if n ∈ ns then _ else n) = n
          rw [if_neg hn]
      rw [e]
      exact ess_cons (es_ret (ex_var 1 rfl) rfl)
/-! ### rounds_of -/
theorem sc_rounds_of : FnScope ["rule", "found", "met", "begin", "take"] ["rule"] (defScope s_rounds_of) := ⟨rfl, rfl, rfl, by decide +kernel, rfl, by decide +kernel, by decide +kernel⟩
def R_rounds_of (ds : List D) (r : Rs) : Prop := ∃ rule : Rule, rule ∈ allRules ∧ ds = [encR rule] ∧ r = .dat (.tup [encL (rounds rule).1, encL (rounds rule).2])
theorem ok_rounds_of (M : Mg mg) (F : Df K mg "rounds_of" s_rounds_of ["rule"]) (F1 : Fn P w K mg base CX0 1 "least_free" (spP K T R_least_free)) : Fn P w K mg base CX0 2 "rounds_of" (spP K T R_rounds_of) :=
  F.fn fun f fd F => fn_pure F sc_rounds_of (fun ds r ⟨ns, _, e, _⟩ => by rw [e]; rfl) fun cdv A outer s H E hr ds r hR => by
    obtain ⟨rule, hmem, rfl, rfl⟩ := hR
    have nd := sc_rounds_of.nd
    have hg := List.all_eq_true.mp rounds_good rule hmem
    unfold roundsG at hg
    cases hres : roundsF rule roundsN [] [] with
    | none => rw [hres] at hg; cases hg
    | some res =>
      obtain ⟨fnd, mt⟩ := res
      rw [hres] at hg
      simp only [Bool.and_eq_true, decide_eq_true_eq] at hg
      obtain ⟨⟨⟨⟨g1, g2⟩, g3⟩, g4⟩, g5⟩ := hg
      refine ess_cons (es_asg (ex_tup (ea_cons (ex_lst ea_nil) (ea_cons (ex_lst ea_nil) ea_nil))) (gx_tup rfl (gxs_cons (gx_name 1 nd) (gxs_cons (gx_name 2 nd) gxs_nil))) ?_)
      refine ess_cons (es_while (I := fun m ρ' => ∃ found met, ρ' = [.dat (encR rule), .dat (encL found), .dat (.lst (met.map encL)), .no, .no] ∧ roundsF rule m found met = some (fnd, mt) ∧ met.length ≤ found.length) roundsN PassesOwn.never ⟨[], [], rfl, hres, Nat.le_refl _⟩ (fun m ρ' hI => ?_))
      obtain ⟨found, met, rfl, hrun, hlen⟩ := hI
      have hfl : found.length ≤ 100 := by
        have := (roundsF_len hrun).1
        exact Nat.le_trans this g4
      have ewin : ∀ z : List Int, (D.lst (cut (z.map D.int) (some (-6)) none)) = encL (win z) := fun z => by
        show D.lst _ = D.lst _
        rw [cut_map]
        rfl
      refine ⟨_, !decide (win found ∈ met), et_eq (et_ninD (n := 1) (m := 1) hr (ex_eq (ex_sliceL (ex_var 1 rfl) (eo_some (ex_neg (ex_ci M.mTake))) eo_none) (ewin found)) (ex_var 2 rfl) (flat_encL _) (flats_encL met)) (by rw [any_encL]), fun h => ?_, fun h => ?_⟩
      · have hn : win found ∉ met := of_decide_eq_false (nt h)
        obtain ⟨m', rfl, hrun'⟩ := roundsF_step hrun hn
        have hfl' : found.length + 1 ≤ 100 := by
          have h1 : (stepW rule found).length ≤ fnd.length := (roundsF_len hrun').1
          unfold stepW at h1
          rw [List.length_append, List.length_singleton] at h1
          omega
        refine ess_cons (es_set 2 (ex_catL (ex_var 2 rfl) (ex_lst (ea_cons (ex_eq (ex_sliceL (ex_var 1 rfl) (eo_some (ex_neg (ex_ci M.mTake))) eo_none) (ewin found)) ea_nil)) (by rw [List.length_map, sizeLine_eq]; simp only [List.length_singleton]; omega)) ?_ nd)
        refine ess_cons (es_set 1 (ex_catL (ex_var 1 rfl) (ex_lst (ea_cons (ex_call F1 hr (ea_cons (LcOk.val (own := [("take", 4)]) sc_rounds_of
            (lc_filt (zs := rule) (enc := D.int) (fun t => decide (t ≤ (found.length : Int))) (fun t => .int (found.getD (found.length - t.toNat) 0)) (ei_tup (ex_var 0 rfl)) (fun a _ s H C cl fp => gx_name 4 nd)
              (fun a ha s H C cl fp => et_le (ex_var 4 rfl) (ex_lenLM M.len (ex_var 1 rfl)))
              (fun a ha h s H C cl fp => ex_atL (ex_var 1 rfl) (ex_sub (ex_lenLM M.len (ex_var 1 rfl)) (ex_var 4 rfl)) (behind_mem hmem ha (of_decide_eq_true h))) (by have := rule_len hmem; rw [sizeLine_eq]; omega))) ea_nil) ⟨behindW rule found, ?_, rfl⟩) ea_nil)) ?_) (ess_nil ⟨m', Nat.lt_succ_self _, stepW rule found, met ++ [win found], ?_, hrun', ?_⟩) nd)
        · unfold encL behindW
          rw [List.map_map]
          rfl
        · rw [List.length_map, sizeLine_eq]
          simp only [List.length_singleton]
          omega
        · unfold stepW
          rw [List.map_append]
          show [_, _, _, _, _] = [_, _, _, _, _]
          unfold encL
          rw [List.map_append]
          rfl
        · unfold stepW
          rw [List.length_append, List.length_append, List.length_singleton, List.length_singleton]
          omega
      · have hn : win found ∈ met := of_decide_eq_true (nf h)
        have e := roundsF_end hrun hn
        cases e
        obtain ⟨i1, i2⟩ := idx_first hn
        have er : rounds rule = (cut fnd none (some ((mt.idxOf (win fnd) : Int) - 6)), cut fnd (some ((mt.idxOf (win fnd) : Int) - 6)) (some ((fnd.length : Int) - 6))) := by
          unfold rounds
          rw [hres]
        rw [er]
        refine ess_cons (es_set 3 (ex_sub (ex_index (j := mt.idxOf (win fnd)) (n := 1) (m := 1) (z := encL (win fnd)) hr (ex_var 2 rfl) (ex_eq (ex_sliceL (ex_var 1 rfl) (eo_some (ex_neg (ex_ci M.mTake))) eo_none) (ewin fnd)) (flat_encL _) (flats_encL mt) ?_ ?_ ?_) (ex_ci M.mTake)) ?_ nd)
        · rw [List.getElem?_map, i1]
          rfl
        · rw [eqv_encL]
          exact decide_eq_true rfl
        · intro i z' hi hz
          rw [List.getElem?_map] at hz
          cases hq : mt[i]? with
          | none => rw [hq] at hz; cases hz
          | some b =>
            rw [hq] at hz
            have ez : z' = encL b := (Option.some.inj hz).symm
            rw [ez, eqv_encL]
            exact decide_eq_false fun q => i2 i hi (by rw [hq, q])
        · refine ess_cons (es_ret (ex_eq (ex_tup (ea_cons (ex_sliceL (ex_var 1 rfl) eo_none (eo_some (ex_var 3 rfl))) (ea_cons (ex_sliceL (ex_var 1 rfl) (eo_some (ex_var 3 rfl)) (eo_some (ex_sub (ex_lenLM M.len (ex_var 1 rfl)) (ex_ci M.mTake)))) ea_nil))) ?_) rfl)
          unfold encL
          rw [cut_map, cut_map]
end
end Pf
set_option Elab.async false
set_option linter.all false
set_option maxRecDepth 100000
set_option maxHeartbeats 4000000
namespace Pf
open PySem PySem.Spec PyProof.Rows L2 DL
abbrev s_is_lost_by : Stmt := topS 33
abbrev s_goes_with : Stmt := topS 36
abbrev s_all_rules : Stmt := topS 37
section
variable {P : Program} {w : World} {K : PySem.W.Frag} {mg : Str → Option Value} {base : Heap} {T : Tb}
/-! ### told_by -/
theorem sc_told_by : FnScope ["early", "again", "heap"] ["early", "again", "heap"] (defScope s_told_by) := ⟨rfl, rfl, rfl, by decide +kernel, rfl, by decide +kernel, by decide +kernel⟩
def R_told_by (ds : List D) (r : Rs) : Prop := ∃ (e a : List Int) (h : Int), ds = [encL e, encL a, .int h] ∧ 0 ≤ h ∧ 1 ≤ a.length ∧ r = .dat (.int (told e a h))
theorem ok_told_by (M : Mg mg) (F : Df K mg "told_by" s_told_by ["early", "again", "heap"]) : Fn P w K mg base CX0 1 "told_by" (spP K T R_told_by) :=
  F.fn fun f fd F => fn_pure F sc_told_by (fun ds r ⟨e, a, h, q, _⟩ => by rw [q]; rfl) fun cdv A outer s H E hr ds r hR => by
    obtain ⟨e, a, h, rfl, h0, ha, rfl⟩ := hR
    obtain ⟨t1, t2⟩ := told_at (e := e) h0 ha
    exact ess_cons (es_ret (ex_if (et_lt (ex_var 2 rfl) (ex_lenLM M.len (ex_var 0 rfl))) (fun q => ex_atL (ex_var 0 rfl) (ex_var 2 rfl) (t1 (of_decide_eq_true q)))
      (fun q => ex_atL (ex_var 1 rfl) (ex_mod (ex_sub (ex_var 2 rfl) (ex_lenLM M.len (ex_var 0 rfl))) (ex_lenLM M.len (ex_var 1 rfl)) (by omega)) (t2 (of_decide_eq_false q)))) rfl)
/-! ### is_lost_by -/
theorem sc_is_lost_by : FnScope ["rule", "position", "early", "again", "total", "heap"] ["rule", "position"] (defScope s_is_lost_by) := ⟨rfl, rfl, rfl, by decide +kernel, rfl, by decide +kernel, by decide +kernel⟩
/-- heaps of any size -/
def HeapsOk (p : List Int) : Prop := p.length ≤ 3 ∧ ∀ x ∈ p, 0 ≤ x
def R_is_lost_by (ds : List D) (r : Rs) : Prop := ∃ (rule : Rule) (p : List Int), rule ∈ allRules ∧ HeapsOk p ∧ ds = [encR rule, encR p] ∧ r = .dat (.bl (isLost rule p))
theorem ok_is_lost_by (M : Mg mg) (F : Df K mg "is_lost_by" s_is_lost_by ["rule", "position"]) (F1 : Fn P w K mg base CX0 2 "rounds_of" (spP K T R_rounds_of)) (F2 : Fn P w K mg base CX0 1 "told_by" (spP K T R_told_by)) : Fn P w K mg base CX0 3 "is_lost_by" (spP K T R_is_lost_by) :=
  F.fn fun f fd F => fn_pure F sc_is_lost_by (fun ds r ⟨e, a, _, _, q, _⟩ => by rw [q]; rfl) fun cdv A outer s H E hr ds r hR => by
    obtain ⟨rule, p, hmem, hp, rfl, rfl⟩ := hR
    have nd := sc_is_lost_by.nd
    obtain ⟨_, l1, _⟩ := rounds_len hmem
    refine ess_cons (es_asg (ex_call F1 hr (ea_cons (ex_var 0 rfl) ea_nil) ⟨rule, hmem, rfl, rfl⟩) (gx_tup rfl (gxs_cons (gx_name 2 nd) (gxs_cons (gx_name 3 nd) gxs_nil))) ?_)
    refine ess_cons (es_set 4 ex_int ?_ nd)
    refine ess_cons (es_for (I := fun k ρ' => ∃ x, ρ' = [.dat (encR rule), .dat (encR p), .dat (encL (rounds rule).1), .dat (encL (rounds rule).2), .dat (.int ((p.take k).foldl (fun t h => Builtin.bitXor t (worth rule h)) 0)), x]) PassesOwn.never rfl (ei_tup (ex_var 1 rfl)) ⟨.no, rfl⟩ (fun i d ρ' hd hI => ?_) (fun ρ' hI => ?_))
    · obtain ⟨x, rfl⟩ := hI
      rw [List.getElem?_map] at hd
      cases hq : p[i]? with
      | none => rw [hq] at hd; cases hd
      | some h =>
        rw [hq] at hd
        have ed : d = .int h := (Option.some.inj hd).symm
        subst ed
        have hm : h ∈ p := List.mem_of_getElem? hq
        refine ⟨_, _, gx_name 5 nd, ess_cons (es_set 4 (ex_xor (ex_var 4 rfl) (ex_call F2 hr (ea_cons (ex_var 2 rfl) (ea_cons (ex_var 3 rfl) (ea_cons (ex_var 5 rfl) ea_nil))) ⟨_, _, h, rfl, hp.2 h hm, l1, rfl⟩)) (ess_nil ⟨.dat (.int h), ?_⟩) nd)⟩
        rw [List.take_add_one, hq, List.foldl_append]
        rfl
    · obtain ⟨x, rfl⟩ := hI
      rw [List.length_map, List.take_length]
      exact ess_cons (es_ret (ex_eqI (ex_var 4 rfl) ex_int) rfl)
/-! ### goes_with -/
theorem sc_goes_with : FnScope ["rule", "fact", "word", "what"] ["rule", "fact"] (defScope s_goes_with) := ⟨rfl, rfl, rfl, by decide +kernel, rfl, by decide +kernel, by decide +kernel⟩
/-- a fact as it may stand in a book, its heaps of any size -/
def FactU : Fact → Prop
  | .lw _ p => HeapsOk p
  | .mn _ _ => True
def R_goes_with (ds : List D) (r : Rs) : Prop := ∃ (rule : Rule) (f : Fact), rule ∈ allRules ∧ FactU f ∧ ds = [encR rule, encF f] ∧ r = .dat (.bl (goes rule f))
theorem ok_goes_with (M : Mg mg) (F : Df K mg "goes_with" s_goes_with ["rule", "fact"]) (F1 : Fn P w K mg base CX0 3 "is_lost_by" (spP K T R_is_lost_by)) : Fn P w K mg base CX0 4 "goes_with" (spP K T R_goes_with) :=
  F.fn fun f fd F => fn_pure F sc_goes_with (fun ds r ⟨e, a, _, _, q, _⟩ => by rw [q]; rfl) fun cdv A outer s H E hr ds r hR => by
    obtain ⟨rule, fact, hmem, hf, rfl, rfl⟩ := hR
    have nd := sc_goes_with.nd
    cases fact with
    | lw b p =>
      refine ess_cons (es_asg (ex_var 1 rfl) (gx_tup rfl (gxs_cons (gx_name 2 nd) (gxs_cons (gx_name 3 nd) gxs_nil))) ?_)
      refine ess_cons (es_ifP _ (et_cmp op_in_seq (ex_var 2 rfl) (ex_tup (ea_cons ex_str (ea_cons ex_str ea_nil))) (rr_inT (ns := wLW))) (fun _ => ?_) (fun h => ?_))
      · refine ess_cons (es_ret (ex_cmp op_eq (ex_call F1 hr (ea_cons (ex_var 0 rfl) (ea_cons (ex_var 3 rfl) ea_nil)) ⟨rule, p, hmem, hf, rfl, rfl⟩) (ex_cmp op_eq (ex_var 2 rfl) ex_str rr_eqT) rr_eqB) ?_)
        rw [lwS_lost]
        rfl
      · rw [lw_in] at h
        cases h
    | mn b t =>
      refine ess_cons (es_asg (ex_var 1 rfl) (gx_tup rfl (gxs_cons (gx_name 2 nd) (gxs_cons (gx_name 3 nd) gxs_nil))) ?_)
      refine ess_cons (es_ifP _ (et_cmp op_in_seq (ex_var 2 rfl) (ex_tup (ea_cons ex_str (ea_cons ex_str ea_nil))) (rr_inT (ns := wLW))) (fun h => ?_) (fun _ => ess_nil ?_))
      · rw [mn_in] at h
        cases h
      · refine ess_cons (es_ret (ex_cmp op_eq (ex_cmp op_in_seq (ex_var 3 rfl) (ex_var 0 rfl) (rr_inI (.inr rfl))) (ex_cmp op_eq (ex_var 2 rfl) ex_str rr_eqT) rr_eqB) ?_)
        rw [mnS_may]
        rfl
/-! ### all_rules -/
theorem sc_all_rules : FnScope [] [] (defScope s_all_rules) := ⟨rfl, rfl, rfl, by decide +kernel, rfl, by decide +kernel, by decide +kernel⟩
def R_all_rules (ds : List D) (r : Rs) : Prop := ds = [] ∧ r = .dat (.lst (allRules.map encR))
theorem ok_all_rules (M : Mg mg) (F : Df K mg "all_rules" s_all_rules []) (F1 : Fn P w K mg base CX0 7 "lots_from" (spP K T (R_lots_from 7))) : Fn P w K mg base CX0 8 "all_rules" (spP K T R_all_rules) :=
  F.fn fun f fd F => fn_pure F sc_all_rules (fun ds r ⟨e, _⟩ => by rw [e]; rfl) fun cdv A outer s H E hr ds r hR => by
    obtain ⟨rfl, rfl⟩ := hR
    exact ess_cons (es_ret (EN.ex (en_call F1 hr (ea_cons ex_int (ea_cons (ex_ci M.mTake) ea_nil)) ⟨1, 6, by decide, by decide, by decide, by decide, rfl, rfl⟩)) rfl)

/-! ### rules_with -/
abbrev s_rules_with : Stmt := topS 38
theorem sc_rules_with : FnScope ["rules", "facts", "rule", "fact"] ["rules", "facts"] (defScope s_rules_with) := ⟨rfl, rfl, rfl, by decide +kernel, rfl, by decide +kernel, by decide +kernel⟩
def R_rules_with (ds : List D) (r : Rs) : Prop := ∃ (rs : List Rule) (fs : List Fact), (∀ r ∈ rs, r ∈ allRules) ∧ rs.length ≤ 63 ∧ (∀ f ∈ fs, FactU f) ∧ fs.length ≤ 100 ∧ ds = [.lst (rs.map encR), .tup (fs.map encF)] ∧ r = .dat (.lst ((rulesWith rs fs).map encR))
theorem ok_rules_with (M : Mg mg) (F : Df K mg "rules_with" s_rules_with ["rules", "facts"]) (F1 : Fn P w K mg base CX0 4 "goes_with" (spP K T R_goes_with)) : Fn P w K mg base CX0 5 "rules_with" (spP K T R_rules_with) :=
  F.fn fun f fd F => fn_pure F sc_rules_with (fun ds r ⟨e, a, _, _, _, _, q, _⟩ => by rw [q]; rfl) fun cdv A outer s H E hr ds r hR => by
    obtain ⟨rs, fs, hrs, hrl, hfs, hfl, rfl, rfl⟩ := hR
    have nd := sc_rules_with.nd
    refine ess_cons (es_ret (LcOk.val (own := [("rule", 2)]) sc_rules_with (lc_filt (zs := rs) (enc := encR) (fun r => fs.all fun f => goes r f) encR (ei_list (ex_var 0 rfl)) (fun a _ s H C cl fp => gx_name 2 nd)
      (fun a ha s H C cl fp => et_eq (et_val (ex_all (bs := fs.map fun f => goes a f) M.all rfl (LcOk.valB (own := [("fact", 3)]) (xs := (fs.map fun f => goes a f).map D.bl) sc_rules_with (by
          rw [List.map_map]
          exact lc_map (zs := fs) (enc := encF) (fun f => .bl (goes a f)) (ei_tup (ex_var 1 rfl)) (fun b _ s H C cl fp => gx_name 3 nd) (fun b hb s H C cl fp => ex_call F1 hr (ea_cons (ex_var 2 rfl) (ea_cons (ex_var 3 rfl) ea_nil)) ⟨a, b, hrs a ha, hfs b hb, rfl, rfl⟩) (by rw [sizeLine_eq]; omega))))) (by rw [List.all_map]; rfl))
      (fun a ha _ s H C cl fp => ex_var 2 rfl) (by rw [sizeLine_eq]; omega))) rfl)

/-! ### some_rules -/
abbrev s_some_rules : Stmt := topS 39
theorem sc_some_rules : FnScope ["book", "found"] ["book"] (defScope s_some_rules) := ⟨rfl, rfl, rfl, by decide +kernel, rfl, by decide +kernel, by decide +kernel⟩
def encB (fs : List Fact) : D := .tup (fs.map encF)
def left (fs : List Fact) : List Rule := rulesWith allRules fs
def R_some_rules (C : Addr) (ds : List D) (r : Rs) : Prop := ∃ (fs : List Fact), (∀ f ∈ fs, FactU f) ∧ fs.length ≤ 100 ∧ ds = [encB fs] ∧ r = (if left fs = [] then .exc C else .dat (.lst ((left fs).map encR)))
theorem ok_some_rules {C : Addr} (M : Mg mg) (c : XCls K mg "Impossible" C) (F : Df K mg "some_rules" s_some_rules ["book"]) (F1 : Fn P w K mg base CX0 8 "all_rules" (spP K T R_all_rules)) (F2 : Fn P w K mg base CX0 5 "rules_with" (spP K T R_rules_with)) : Fn P w K mg base (L2N.CX P w) 9 "some_rules" (spP K T (R_some_rules C)) :=
  F.fn fun f fd F => fn_pureX F sc_some_rules (fun ds r ⟨fs, _, _, e, _⟩ => by rw [e]; rfl) fun cdv A outer s H E hr ds r hR => by
    obtain ⟨fs, hfs, hfl, rfl, rfl⟩ := hR
    have nd := sc_some_rules.nd
    refine ess_cons (es_set 1 (ex_call F2 hr (ea_cons (ex_call0 F1 hr ⟨rfl, rfl⟩) (ea_cons (ex_var 0 rfl) ea_nil)) ⟨allRules, fs, fun _ h => h, by rw [allRules_len]; exact Nat.le_refl _, hfs, hfl, rfl, rfl⟩) ?_ nd)
    refine ess_cons (es_ifP (decide (left fs = [])) (et_eq (et_eqD (n := 2) (m := 1) hr (ex_var 1 rfl) (ex_lst ea_nil) (flats_encR _) rfl) ?_) (fun h => ess_cons (es_raise c (L2N.takes_of rfl rfl rfl rfl) ?_)) (fun h => ess_nil (ess_cons (es_ret (ex_var 1 rfl) ?_))))
    · exact eqvs_dec eqv_encR (left fs) []
    · show (if left fs = [] then _ else _) = _
      rw [if_pos (of_decide_eq_true h)]
    · show _ = (if left fs = [] then _ else _)
      rw [if_neg (of_decide_eq_false h)]
      rfl
end
end Pf
set_option Elab.async false
set_option linter.all false
set_option maxRecDepth 100000
set_option maxHeartbeats 4000000
namespace Pf
open PySem PySem.Spec PyProof.Rows L2 DL
structure Mg2 (mg : Str → Option Value) : Prop where
  min : mg "min" = none
  max : mg "max" = none
  enumerate : mg "enumerate" = none

abbrev s_behind_move : Stmt := topS 34
section
variable {P : Program} {w : World} {K : PySem.W.Frag} {mg : Str → Option Value} {base : Heap} {T : Tb}
/-! ### behind_move -/
theorem sc_behind_move : FnScope ["position", "index", "take"] ["position", "index", "take"] (defScope s_behind_move) := ⟨rfl, rfl, rfl, by decide +kernel, rfl, by decide +kernel, by decide +kernel⟩
def R_behind_move (ds : List D) (r : Rs) : Prop := ∃ (p : List Int) (i : Nat) (t : Int), i < p.length ∧ p.length ≤ 100 ∧ ds = [encR p, .int (i : Nat), .int t] ∧ r = .dat (encR (behindP p i t))
theorem ok_behind_move (M : Mg mg) (F : Df K mg "behind_move" s_behind_move ["position", "index", "take"]) : Fn P w K mg base CX0 1 "behind_move" (spP K T R_behind_move) :=
  F.fn fun f fd F => fn_pure F sc_behind_move (fun ds r ⟨p, i, t, _, _, q, _⟩ => by rw [q]; rfl) fun cdv A outer s H E hr ds r hR => by
    obtain ⟨p, i, t, hi, hl, rfl, rfl⟩ := hR
    have e1 : cut (p.map D.int) none (some ((i : Nat) : Int)) = (p.take i).map D.int := by rw [cut_map, cut_upto (Nat.le_of_lt hi)]
    have e2 : cut (p.map D.int) (some ((i : Nat) + 1 : Int)) none = (p.drop (i + 1)).map D.int := by
      have : ((i : Nat) : Int) + 1 = ((i + 1 : Nat) : Int) := by omega
      rw [cut_map, this, cut_from (by omega)]
    refine ess_cons (es_ret (ex_catT (ex_catT (ex_sliceT (ex_var 0 rfl) eo_none (eo_some (ex_var 1 rfl))) (ex_tup (ea_cons (ex_sub (ex_atT (ex_var 0 rfl) (ex_var 1 rfl) (atI_nat (v := D.int (p.getD i 0)) ?_)) (ex_var 2 rfl)) ea_nil)) ?_) (ex_sliceT (ex_var 0 rfl) (eo_some (ex_add (ex_var 1 rfl) ex_int)) eo_none) ?_) ?_)
    · rw [List.getElem?_map, List.getElem?_eq_getElem hi, List.getD_eq_getElem?_getD, List.getElem?_eq_getElem hi]
      rfl
    · rw [e1, sizeLine_eq, List.length_map, List.length_take]
      simp only [List.length_cons, List.length_nil]
      omega
    · rw [e1, e2, sizeLine_eq]
      simp only [List.length_append, List.length_map, List.length_take, List.length_drop, List.length_cons, List.length_nil]
      omega
    · rw [e1, e2]
      show Rs.dat _ = Rs.dat _
      unfold encR behindP
      rw [List.map_append, List.map_append]
      rfl
end

abbrev s_votes : Stmt := topS 41
abbrev s_sure_by : Stmt := topS 42
abbrev s_sure_moves : Stmt := topS 43
abbrev s_best_moves : Stmt := topS 44
section
variable {P : Program} {w : World} {K : PySem.W.Frag} {mg : Str → Option Value} {base : Heap} {T : Tb}
theorem takesAt_get {h t : Int} {k : Nat} (e : (takesAt h)[k]? = some t) : 1 ≤ t ∧ t ≤ 6 ∧ t ≤ h := by
  unfold takesAt at e
  rw [List.getElem?_map] at e
  cases q : (List.range (if h < 6 then h else 6).toNat)[k]? with
  | none => rw [q] at e; cases e
  | some z =>
    rw [q] at e
    obtain ⟨hz, ez⟩ := List.getElem?_eq_some_iff.mp q
    rw [List.getElem_range] at ez
    rw [List.length_range] at hz
    have : t = 1 + ((z : Nat) : Int) := (Option.some.inj e).symm
    split at hz <;> omega
theorem takesAt_len (h : Int) : (takesAt h).length ≤ 6 := by
  unfold takesAt
  rw [List.length_map, List.length_range]
  split <;> omega
theorem votesAt_len (rs : List Rule) (p : List Int) (i : Nat) : (votesAt rs p i).length ≤ 6 := by
  unfold votesAt
  rw [List.length_map]
  exact takesAt_len _
def votesTo (rs : List Rule) (p : List Int) (k : Nat) : List ((Int × Int) × Int) := (List.range k).flatMap fun i => votesAt rs p i
theorem votesTo_succ (rs : List Rule) (p : List Int) (k : Nat) : votesTo rs p (k + 1) = votesTo rs p k ++ votesAt rs p k := by
  unfold votesTo
  rw [List.range_succ, List.flatMap_append]
  simp
theorem votesTo_len (rs : List Rule) (p : List Int) : ∀ k : Nat, (votesTo rs p k).length ≤ 6 * k
  | 0 => by simp [votesTo]
  | k + 1 => by
    rw [votesTo_succ, List.length_append]
    have := votesTo_len rs p k
    have := votesAt_len rs p k
    omega
theorem behindP_ok {p : List Int} (hp : HeapsOk p) {i : Nat} {t : Int} (hi : i < p.length) (ht : t ≤ p.getD i 0) : HeapsOk (behindP p i t) := by
  unfold behindP
  refine ⟨?_, fun x hx => ?_⟩
  · simp only [List.length_append, List.length_take, List.length_drop, List.length_cons, List.length_nil]
    have := hp.1
    omega
  · simp only [List.mem_append, List.mem_singleton] at hx
    rcases hx with (h | h) | h
    · exact hp.2 x (List.mem_of_mem_take h)
    · omega
    · exact hp.2 x (List.mem_of_mem_drop h)
/-! ### votes -/
theorem sc_votes : FnScope ["rules", "position", "found", "index", "heap", "take", "there", "many", "rule"] ["rules", "position"] (defScope s_votes) := ⟨rfl, rfl, rfl, by decide +kernel, rfl, by decide +kernel, by decide +kernel⟩
def R_votes (ds : List D) (r : Rs) : Prop := ∃ (rs : List Rule) (p : List Int), (∀ r ∈ rs, r ∈ allRules) ∧ rs.length ≤ 63 ∧ HeapsOk p ∧ ds = [.lst (rs.map encR), encR p] ∧ r = .new ((votes rs p).map encV)
theorem ok_votes (M : Mg mg) (M2 : Mg2 mg) (F : Df K mg "votes" s_votes ["rules", "position"]) (F1 : Fn P w K mg base CX0 1 "behind_move" (spP K T R_behind_move)) (F2 : Fn P w K mg base CX0 3 "is_lost_by" (spP K T R_is_lost_by)) : Fn P w K mg base CX0 4 "votes" (spP K T R_votes) :=
  F.fn fun f fd F => fn_pure F sc_votes (fun ds r ⟨p, i, _, _, _, q, _⟩ => by rw [q]; rfl) fun cdv A outer s H E hr ds r hR => by
    obtain ⟨rs, p, hrs, hrl, hp, rfl, rfl⟩ := hR
    have nd := sc_votes.nd
    refine ess_cons (es_setL 2 (en_lst ea_nil) (fun q hq => ?_) nd)
    refine ess_cons (es_for (I := fun k ρ' => ∃ x3 x4 x5 x6 x7, ρ' = [.dat (.lst (rs.map encR)), .dat (encR p), .own q (.lst ((votesTo rs p k).map encV)), x3, x4, x5, x6, x7, .no]) PassesOwn.never rfl (ei_enumT M2.enumerate (ex_var 1 rfl)) ⟨.no, .no, .no, .no, .no, rfl⟩ (fun i d ρ' hd hI => ?_) (fun ρ' hI => ?_))
    · obtain ⟨x3, x4, x5, x6, x7, rfl⟩ := hI
      unfold enumD at hd
      rw [List.getElem?_mapIdx, List.getElem?_map] at hd
      cases hq2 : p[i]? with
      | none => rw [hq2] at hd; cases hd
      | some h =>
        rw [hq2] at hd
        have ed : d = .tup [.int (i : Nat), .int h] := (Option.some.inj hd).symm
        subst ed
        have hil : i < p.length := (List.getElem?_eq_some_iff.mp hq2).1
        have hg : p.getD i 0 = h := by rw [List.getD_eq_getElem?_getD, hq2]; rfl
        have hh : 0 ≤ h := hp.2 h (List.mem_of_getElem? hq2)
        refine ⟨_, _, gx_tup rfl (gxs_cons (gx_name 3 nd) (gxs_cons (gx_name 4 nd) gxs_nil)), ?_⟩
        refine ess_cons (es_for (I := fun k ρ' => ∃ x5 x6 x7, ρ' = [.dat (.lst (rs.map encR)), .dat (encR p), .own q (.lst ((votesTo rs p i ++ (votesAt rs p i).take k).map encV)), .dat (.int (i : Nat)), .dat (.int h), x5, x6, x7, .no]) PassesOwn.never rfl
          (ei_eq (ei_range2 M.range (ea_cons ex_int (ea_cons (ex_add (ex_min2 M2.min (ex_ci M.mTake) (ex_var 4 rfl)) ex_int) ea_nil)) ?_) (ds' := (takesAt h).map D.int) ?_) ⟨x5, x6, x7, ?_⟩ (fun k d ρ' hd hI => ?_) (fun ρ' hI => ?_))
        · split <;> omega
        · unfold takesAt
          rw [List.map_map, Int.add_sub_cancel]
          rfl
        · rw [List.take_zero, List.append_nil]
          rfl
        · obtain ⟨y5, y6, y7, rfl⟩ := hI
          rw [List.getElem?_map] at hd
          cases hk : (takesAt h)[k]? with
          | none => rw [hk] at hd; cases hd
          | some t =>
            rw [hk] at hd
            have ed : d = .int t := (Option.some.inj hd).symm
            subst ed
            obtain ⟨t1, t2, t3⟩ := takesAt_get hk
            refine ⟨_, _, gx_name 5 nd, ?_⟩
            refine ess_cons (es_set 6 (ex_call F1 hr (ea_cons (ex_var 1 rfl) (ea_cons (ex_var 3 rfl) (ea_cons (ex_var 5 rfl) ea_nil))) ⟨p, i, t, hil, by have := hp.1; omega, rfl, rfl⟩) ?_ nd)
            refine ess_cons (es_set 7 (ex_lenLM M.len (LcOk.val (own := [("rule", 8)]) sc_votes (lc_filt (zs := rs) (enc := encR) (fun r => wins r p i t) encR (ei_list (ex_var 0 rfl)) (fun a _ s H C cl fp => gx_name 8 nd)
              (fun a ha s H C cl fp => et_and2 (et_cmp op_in_seq (ex_var 5 rfl) (ex_var 8 rfl) (rr_inI (.inr rfl))) (fun _ => et_val (ex_call F2 hr (ea_cons (ex_var 8 rfl) (ea_cons (ex_var 6 rfl) ea_nil)) ⟨a, _, hrs a ha, behindP_ok hp hil (by rw [hg]; exact t3), rfl, rfl⟩)))
              (fun a ha _ s H C cl fp => ex_var 8 rfl) (by rw [sizeLine_eq]; omega)))) ?_ nd)
            refine ess_cons (es_appendP 2 rfl (ex_tup (ea_cons (ex_tup (ea_cons (ex_var 3 rfl) (ea_cons (ex_var 5 rfl) ea_nil))) (ea_cons (ex_var 7 rfl) ea_nil))) ?_ (ess_nil ⟨.dat (.int t), .dat (encR (behindP p i t)), .dat (.int ((rs.filter fun r => wins r p i t).length : Nat)), ?_⟩))
            · rw [sizeLine_eq, List.length_map, List.length_append, List.length_take]
              have := votesTo_len rs p i
              have := votesAt_len rs p i
              have := hp.1
              omega
            · have ek : (votesAt rs p i)[k]? = some (((i : Int), t), (((rs.filter fun r => wins r p i t).length : Nat) : Int)) := by
                unfold votesAt
                rw [List.getElem?_map, hg, hk]
                rfl
              rw [List.take_add_one, ek, ← List.append_assoc, List.map_append (l₁ := _ ++ _)]
              rfl
        · obtain ⟨y5, y6, y7, rfl⟩ := hI
          refine ess_nil ⟨.dat (.int (i : Nat)), .dat (.int h), y5, y6, y7, ?_⟩
          rw [List.length_map, votesTo_succ, List.take_of_length_le (by unfold votesAt; rw [List.length_map, hg]; exact Nat.le_refl _)]
    · obtain ⟨x3, x4, x5, x6, x7, rfl⟩ := hI
      refine ess_cons (es_retOwn 2 rfl ?_)
      have e : (enumD (p.map D.int)).length = p.length := by simp [enumD]
      rw [e]
      rfl
/-! ### sure_by -/
theorem sc_sure_by : FnScope ["rules", "position", "move", "many"] ["rules", "position"] (defScope s_sure_by) := ⟨rfl, rfl, rfl, by decide +kernel, rfl, by decide +kernel, by decide +kernel⟩
def R_sure_by (ds : List D) (r : Rs) : Prop := ∃ (rs : List Rule) (p : List Int), (∀ r ∈ rs, r ∈ allRules) ∧ rs.length ≤ 63 ∧ HeapsOk p ∧ ds = [.lst (rs.map encR), encR p] ∧ r = .dat (.lst ((sureBy rs p).map encM))
theorem votes_len (rs : List Rule) {p : List Int} (hp : HeapsOk p) : (votes rs p).length ≤ 18 := by
  have h := votesTo_len rs p p.length
  have := hp.1
  show (votesTo rs p p.length).length ≤ 18
  omega
theorem ok_sure_by (M : Mg mg) (F : Df K mg "sure_by" s_sure_by ["rules", "position"]) (F1 : Fn P w K mg base CX0 4 "votes" (spP K T R_votes)) : Fn P w K mg base CX0 5 "sure_by" (spP K T R_sure_by) :=
  F.fn fun f fd F => fn_pure F sc_sure_by (fun ds r ⟨p, i, _, _, _, q, _⟩ => by rw [q]; rfl) fun cdv A outer s H E hr ds r hR => by
    obtain ⟨rs, p, hrs, hrl, hp, rfl, rfl⟩ := hR
    have nd := sc_sure_by.nd
    refine ess_cons (es_ret (LcOk.val (own := [("move", 2), ("many", 3)]) sc_sure_by (lc_filt (zs := votes rs p) (enc := encV) (fun v => decide (v.2 = (rs.length : Int))) (fun v => encM v.1) (ei_list (EN.ex (en_call F1 hr (ea_cons (ex_var 0 rfl) (ea_cons (ex_var 1 rfl) ea_nil)) ⟨rs, p, hrs, hrl, hp, rfl, rfl⟩)))
      (fun a _ s H C cl fp => gx_tup rfl (gxs_cons (gx_name 2 nd) (gxs_cons (gx_name 3 nd) gxs_nil)))
      (fun a ha s H C cl fp => et_eqI (ex_var 3 rfl) (ex_lenLM M.len (ex_var 0 rfl)))
      (fun a ha _ s H C cl fp => ex_var 2 rfl) (by have := votes_len rs hp; rw [sizeLine_eq]; omega))) ?_)
    show Rs.dat _ = Rs.dat _
    unfold sureBy
    rw [List.map_map]
    rfl
/-! ### sure_moves -/
theorem sc_sure_moves : FnScope ["book", "position"] ["book", "position"] (defScope s_sure_moves) := ⟨rfl, rfl, rfl, by decide +kernel, rfl, by decide +kernel, by decide +kernel⟩
def R_sure_moves (CB CP CI : Addr) (ds : List D) (r : Rs) : Prop := ∃ (b q : D) (n m : Nat), ds = [b, q] ∧ flat n b = true ∧ flat m q = true ∧
  ((isBook b = false ∧ r = .exc CB) ∨ (isBook b = true ∧ isPos q = false ∧ r = .exc CP) ∨ ∃ (fs : List Fact) (p : List Int), isBook b = true ∧ isPos q = true ∧ (∀ f ∈ fs, FactU f) ∧ fs.length ≤ 100 ∧ HeapsOk p ∧ b = encB fs ∧ q = encR p ∧ r = (if left fs = [] then .exc CI else .dat (.lst ((sureBy (left fs) p).map encM))))
theorem left_mem {fs : List Fact} {r : Rule} (h : r ∈ left fs) : r ∈ allRules := rulesWith_sub h
theorem left_len (fs : List Fact) : (left fs).length ≤ 63 := by
  have := rulesWith_len allRules fs
  rw [allRules_len] at this
  exact this
theorem ok_sure_moves {CB CP CI : Addr} (M : Mg mg) (F : Df K mg "sure_moves" s_sure_moves ["book", "position"]) (F1 : Fn P w K mg base (L2N.CX P w) 5 "need_book" (spP K T (R_need_book CB))) (F2 : Fn P w K mg base (L2N.CX P w) 3 "need_position" (spP K T (R_need_position CP)))
    (F3 : Fn P w K mg base (L2N.CX P w) 9 "some_rules" (spP K T (R_some_rules CI))) (F4 : Fn P w K mg base CX0 5 "sure_by" (spP K T R_sure_by)) : Fn P w K mg base (L2N.CX P w) 10 "sure_moves" (spP K T (R_sure_moves CB CP CI)) :=
  F.fn fun f fd F => fn_pureX F sc_sure_moves (fun ds r ⟨b, q, n, m, e, _⟩ => by rw [e]; rfl) fun cdv A outer s H E hr ds r hR => by
    obtain ⟨b, q, n, m, rfl, hb, hq, h⟩ := hR
    have nd := sc_sure_moves.nd
    rcases h with ⟨h1, rfl⟩ | ⟨h1, h2, rfl⟩ | ⟨fs, p, h1, h2, hfs, hfl, hp, rfl, rfl, rfl⟩
    · exact ess_cons (es_exprR (er_call F1 (L2N.takes_of rfl rfl rfl rfl) hr (ea_cons (ex_var 0 rfl) ea_nil) ⟨b, n, rfl, hb, by rw [h1]; rfl⟩) rfl)
    · refine ess_cons (es_expr (ex_call F1 hr (ea_cons (ex_var 0 rfl) ea_nil) ⟨b, n, rfl, hb, by rw [h1]; rfl⟩) ?_)
      exact ess_cons (es_exprR (er_call F2 (L2N.takes_of rfl rfl rfl rfl) hr (ea_cons (ex_var 1 rfl) ea_nil) ⟨q, m, rfl, hq, by rw [h2]; rfl⟩) rfl)
    · refine ess_cons (es_expr (ex_call F1 hr (ea_cons (ex_var 0 rfl) ea_nil) ⟨_, n, rfl, hb, by rw [h1]; rfl⟩) ?_)
      refine ess_cons (es_expr (ex_call F2 hr (ea_cons (ex_var 1 rfl) ea_nil) ⟨_, m, rfl, hq, by rw [h2]; rfl⟩) ?_)
      by_cases hl : left fs = []
      · exact ess_cons (es_retR (er_arg (R := R_sure_by) F4 hr (er_call F3 (L2N.takes_of rfl rfl rfl rfl) hr (ea_cons (ex_var 0 rfl) ea_nil) ⟨fs, hfs, hfl, rfl, by rw [if_pos hl]⟩)) (by rw [if_pos hl]; rfl))
      · exact ess_cons (es_ret (ex_call F4 hr (ea_cons (ex_call F3 hr (ea_cons (ex_var 0 rfl) ea_nil) ⟨fs, hfs, hfl, rfl, by rw [if_neg hl]⟩) (ea_cons (ex_var 1 rfl) ea_nil)) ⟨left fs, p, fun _ h => left_mem h, left_len fs, hp, rfl, rfl⟩) (by rw [if_neg hl]; rfl))
/-! ### best_moves -/
theorem sc_best_moves : FnScope ["book", "position", "found", "most", "move", "many"] ["book", "position"] (defScope s_best_moves) := ⟨rfl, rfl, rfl, by decide +kernel, rfl, by decide +kernel, by decide +kernel⟩
def encBM (z : Int × List (Int × Int)) : D := .tup [.int z.1, .lst (z.2.map encM)]
def R_best_moves (CB CP CI : Addr) (ds : List D) (r : Rs) : Prop := ∃ (b q : D) (n m : Nat), ds = [b, q] ∧ flat n b = true ∧ flat m q = true ∧
  ((isBook b = false ∧ r = .exc CB) ∨ (isBook b = true ∧ isPos q = false ∧ r = .exc CP) ∨ ∃ (fs : List Fact) (p : List Int), isBook b = true ∧ isPos q = true ∧ (∀ f ∈ fs, FactU f) ∧ fs.length ≤ 100 ∧ HeapsOk p ∧ b = encB fs ∧ q = encR p ∧ r = (if left fs = [] then .exc CI else .dat (encBM (bestBy (left fs) p))))
theorem ok_best_moves {CB CP CI : Addr} (M : Mg mg) (M2 : Mg2 mg) (F : Df K mg "best_moves" s_best_moves ["book", "position"]) (F1 : Fn P w K mg base (L2N.CX P w) 5 "need_book" (spP K T (R_need_book CB))) (F2 : Fn P w K mg base (L2N.CX P w) 3 "need_position" (spP K T (R_need_position CP)))
    (F3 : Fn P w K mg base (L2N.CX P w) 9 "some_rules" (spP K T (R_some_rules CI))) (F4 : Fn P w K mg base CX0 4 "votes" (spP K T R_votes)) : Fn P w K mg base (L2N.CX P w) 10 "best_moves" (spP K T (R_best_moves CB CP CI)) :=
  F.fn fun f fd F => fn_pureX F sc_best_moves (fun ds r ⟨b, q, n, m, e, _⟩ => by rw [e]; rfl) fun cdv A outer s H E hr ds r hR => by
    obtain ⟨b, q, n, m, rfl, hb, hq, h⟩ := hR
    have nd := sc_best_moves.nd
    rcases h with ⟨h1, rfl⟩ | ⟨h1, h2, rfl⟩ | ⟨fs, p, h1, h2, hfs, hfl, hp, rfl, rfl, rfl⟩
    · exact ess_cons (es_exprR (er_call F1 (L2N.takes_of rfl rfl rfl rfl) hr (ea_cons (ex_var 0 rfl) ea_nil) ⟨b, n, rfl, hb, by rw [h1]; rfl⟩) rfl)
    · refine ess_cons (es_expr (ex_call F1 hr (ea_cons (ex_var 0 rfl) ea_nil) ⟨b, n, rfl, hb, by rw [h1]; rfl⟩) ?_)
      exact ess_cons (es_exprR (er_call F2 (L2N.takes_of rfl rfl rfl rfl) hr (ea_cons (ex_var 1 rfl) ea_nil) ⟨q, m, rfl, hq, by rw [h2]; rfl⟩) rfl)
    · refine ess_cons (es_expr (ex_call F1 hr (ea_cons (ex_var 0 rfl) ea_nil) ⟨_, n, rfl, hb, by rw [h1]; rfl⟩) ?_)
      refine ess_cons (es_expr (ex_call F2 hr (ea_cons (ex_var 1 rfl) ea_nil) ⟨_, m, rfl, hq, by rw [h2]; rfl⟩) ?_)
      by_cases hl : left fs = []
      · exact ess_cons (es_setR 2 (er_arg (R := R_votes) F4 hr (er_call F3 (L2N.takes_of rfl rfl rfl rfl) hr (ea_cons (ex_var 0 rfl) ea_nil) ⟨fs, hfs, hfl, rfl, by rw [if_pos hl]⟩)) (by rw [if_pos hl]; rfl) nd)
      · refine ess_cons (es_set 2 (EN.ex (en_call F4 hr (ea_cons (ex_call F3 hr (ea_cons (ex_var 0 rfl) ea_nil) ⟨fs, hfs, hfl, rfl, by rw [if_neg hl]⟩) (ea_cons (ex_var 1 rfl) ea_nil)) ⟨left fs, p, fun _ h => left_mem h, left_len fs, hp, rfl, rfl⟩)) ?_ nd)
        refine ess_cons (es_set 3 ex_int ?_ nd)
        refine ess_cons (es_for (I := fun k ρ' => ∃ x4 x5, ρ' = [.dat (encB fs), .dat (encR p), .dat (.lst ((votes (left fs) p).map encV)), .dat (.int (bestMost ((votes (left fs) p).take k))), x4, x5]) (passes_of rfl) rfl (ei_list (ex_var 2 rfl)) ⟨.no, .no, rfl⟩ (fun i d ρ' hd hI => ?_) (fun ρ' hI => ?_))
        · obtain ⟨x4, x5, rfl⟩ := hI
          rw [List.getElem?_map] at hd
          cases hk : (votes (left fs) p)[i]? with
          | none => rw [hk] at hd; cases hd
          | some v =>
            rw [hk] at hd
            have ed : d = encV v := (Option.some.inj hd).symm
            subst ed
            refine ⟨_, _, gx_tup rfl (gxs_cons (gx_name 4 nd) (gxs_cons (gx_name 5 nd) gxs_nil)), ?_⟩
            refine ess_cons (es_set 3 (ex_max2 M2.max (ex_var 3 rfl) (ex_var 5 rfl)) (ess_nil ⟨.dat (encM v.1), .dat (.int v.2), ?_⟩) nd)
            rw [List.take_add_one, hk]
            unfold bestMost
            rw [List.foldl_append]
            rfl
        · obtain ⟨x4, x5, rfl⟩ := hI
          refine ess_drop 4 (ess_drop 5 (ess_cons (es_ret (ex_tup (ea_cons (ex_var 3 rfl) (ea_cons (LcOk.val (own := [("move", 4), ("many", 5)]) sc_best_moves (lc_filt (zs := votes (left fs) p) (enc := encV) (fun v => decide (v.2 = bestMost (votes (left fs) p)) && decide (0 < bestMost (votes (left fs) p))) (fun v => encM v.1) (ei_list (ex_var 2 rfl))
            (fun a _ s H C cl fp => gx_tup rfl (gxs_cons (gx_name 4 nd) (gxs_cons (gx_name 5 nd) gxs_nil)))
            (fun a ha s H C cl fp => et_and2 (et_eqI (ex_var 5 rfl) (ex_var 3 ?_)) (fun _ => et_gt (ex_var 3 ?_) ex_int))
            (fun a ha _ s H C cl fp => ex_var 4 rfl) (by have := votes_len (left fs) hp; rw [sizeLine_eq]; omega))) ea_nil))) ?_)))
          · rw [List.length_map, List.take_length]; rfl
          · rw [List.length_map, List.take_length]; rfl
          · rw [if_neg hl, List.length_map, List.take_length]
            show Rs.dat _ = Rs.dat _
            unfold encBM bestBy
            simp only [List.map_map]
            rfl
end
end Pf
set_option Elab.async false
set_option linter.all false
set_option maxRecDepth 100000
set_option maxHeartbeats 4000000
namespace Pf
open PySem PySem.Spec PyProof.Rows L2 DL
structure Mg3 (mg : Str → Option Value) : Prop where
  abs : mg "abs" = none
  sorted : mg "sorted" = none
  dict : mg "dict" = none
  list : mg "list" = none
abbrev s_pot : Stmt := topS 46
abbrev s_ladle : Stmt := topS 47
abbrev s_choose : Stmt := topS 48
abbrev s_every_rule : Stmt := topS 49
abbrev s_any_rule : Stmt := topS 50
section
variable {P : Program} {w : World} {K : PySem.W.Frag} {mg : Str → Option Value} {base : Heap} {T : Tb}
/-! ### _law_pot -/
theorem sc_pot : FnScope ["_law_script", "_law_k", "_law_cell"] ["_law_script", "_law_k"] (defScope s_pot) := ⟨rfl, rfl, rfl, by decide +kernel, rfl, by decide +kernel, by decide +kernel⟩
def R_pot (p : Addr) (ds : List D) (c c' : Cl) (r : Rs) : Prop := ∃ (u : HO) (ns : List Int) (k : Int), ds = [.raw (.ref p), .int k] ∧ 0 ≤ k ∧ k ≤ 100 ∧ IsScr u (ns.map V.int) ∧ c = .ho u ∧ c' = c ∧ r = .new [.int (potF ns k).1, .int (potF ns k).2]
theorem ok_pot (M : Mg mg) (M3 : Mg3 mg) (F : Df K mg "_law_pot" s_pot ["_law_script", "_law_k"]) : Fn P w K mg base CX0 1 "_law_pot" (spO K T R_pot) :=
  F.fn fun f fd F => fn_own 0 F sc_pot (fun p ds c c' r ⟨o, ns, k, q, _⟩ => by rw [q]; exact ⟨rfl, rfl⟩) fun cdv A outer s H E hr p ds c c' r hR => by
    obtain ⟨u, ns, k, rfl, h0, h1, hu, rfl, rfl, rfl⟩ := hR
    have nd := sc_pot.nd
    refine ess_cons (es_set 2 (d := .int (cellF ns k)) (ex_if (et_lt (ex_var 1 rfl) (ex_lenF 0 hu rfl M.len)) (fun h => ex_eq (ex_abs M3.abs (ex_int1 M.int (ex_atF 0 hu (z := ns.getD k.toNat 0) rfl (ex_var 1 rfl) ?_))) ?_) (fun h => ex_eq (ex_add (ex_mul ex_int (ex_var 1 rfl) (.inl (by decide))) ex_int) ?_)) ?_ nd)
    · have h2 := of_decide_eq_true h
      rw [List.length_map] at h2
      obtain ⟨m, rfl⟩ : ∃ m : Nat, k = m := ⟨k.toNat, by omega⟩
      have hm : m < ns.length := by omega
      refine atI_nat ?_
      rw [List.getElem?_eq_getElem hm, List.getD_eq_getElem?_getD, show ((m : Int)).toNat = m from rfl, List.getElem?_eq_getElem hm]
      rfl
    · have h2 := of_decide_eq_true h
      rw [List.length_map] at h2
      unfold cellF
      rw [if_pos h2]
    · have h2 := of_decide_eq_false h
      rw [List.length_map] at h2
      unfold cellF
      rw [if_neg h2]
    · refine ess_cons (es_retL (en_lst (ea_cons (ex_if (d := .int (potF ns k).1) (et_ge (ex_var 2 rfl) (ex_pow ex_int ex_int ⟨by decide, by decide, by decide⟩)) (fun h => ex_eq (ex_var 2 rfl) ?_) (fun h => ex_eq ex_int ?_)) (ea_cons (ex_add (ex_mod (ex_int1 M.int (ex_add (ex_add (ex_mul (ex_var 2 rfl) ex_int (.inr (by decide))) (ex_mul ex_int (ex_var 1 rfl) (.inl (by decide)))) ex_int)) ex_int (by decide)) ex_int) ea_nil))) ⟨rfl, 0, rfl⟩)
      · have h2 : (10 : Int) ^ 18 ≤ cellF ns k := of_decide_eq_true h
        show D.int _ = D.int (if _ then _ else _)
        rw [if_pos h2]
      · have h2 : ¬ (10 : Int) ^ 18 ≤ cellF ns k := of_decide_eq_false h
        show D.int _ = D.int (if _ then _ else _)
        rw [if_neg h2]
/-! ### _law_ladle -/
theorem sc_ladle : FnScope ["_law_pot_here", "_law_many", "_law_drawn", "_law_wide"] ["_law_pot_here", "_law_many"] (defScope s_ladle) := ⟨rfl, rfl, rfl, by decide +kernel, rfl, by decide +kernel, by decide +kernel⟩
def R_ladle (p : Addr) (ds : List D) (c c' : Cl) (r : Rs) : Prop := ∃ (q : Pot) (m : Int), ds = [.raw (.ref p), .int m] ∧ 0 < m ∧ m ≤ 100000 ∧ PotOk q ∧ c = encP q ∧ c' = encP (ladle q m).2 ∧ r = .dat (.int (ladle q m).1)
theorem ok_ladle (M : Mg mg) (F : Df K mg "_law_ladle" s_ladle ["_law_pot_here", "_law_many"]) : Fn P w K mg base CX0 1 "_law_ladle" (spO K T R_ladle) :=
  F.fn fun f fd F => fn_own 0 F sc_ladle (fun p ds c c' r ⟨q, m, e, _⟩ => by rw [e]; exact ⟨rfl, rfl⟩) fun cdv A outer s H E hr p ds c c' r hR => by
    obtain ⟨⟨x, y⟩, m, rfl, hm0, hm1, ⟨h1, h2, h3⟩, rfl, rfl, rfl⟩ := hR
    have nd := sc_ladle.nd
    refine ess_cons (es_ifP (decide (0 < x)) (et_gt (ex_atO 0 rfl ex_int rfl) ex_int) (fun h => ?_) (fun h => ?_))
    · have hx := of_decide_eq_true h
      have e : ladle (x, y) m = (x % m, (x / m, y)) := if_pos hx
      refine ess_cons (es_set 2 (ex_mod (ex_int1 M.int (ex_atO 0 rfl ex_int rfl)) (ex_var 1 rfl) hm0) ?_ nd)
      refine ess_cons (es_asg (ex_div (ex_atO 0 rfl ex_int rfl) (ex_var 1 rfl) ⟨hm0, by omega⟩) (gx_atO 0 rfl ex_int (j := 0) rfl) ?_)
      refine ess_cons (es_ret (ex_var 2 rfl) ?_)
      rw [e]
      exact ⟨rfl, 0, rfl⟩
    · have hx := of_decide_eq_false h
      have e : ladle (x, y) m = (((nextY y * (nextY y / 7 + 37)) % 2147483549 / 64) % m, (x, nextY y)) := if_neg hx
      have hy := nextY_rng y
      refine ess_nil (ess_cons (es_asg (ex_mod (ex_int1 M.int (ex_add (ex_mul (ex_atO 0 rfl ex_int rfl) ex_int (.inr (by decide))) ex_int)) ex_int (by decide)) (gx_atO 0 rfl ex_int (j := 1) rfl) ?_))
      refine ess_cons (es_set 3 (ex_mod (ex_int1 M.int (ex_mul (ex_atO 0 (d := .int (nextY y)) rfl ex_int rfl) (ex_add (ex_div (ex_atO 0 (d := .int (nextY y)) rfl ex_int rfl) ex_int ⟨by decide, by decide⟩) ex_int) (.inl ⟨by omega, by omega⟩))) ex_int (by decide)) ?_ nd)
      refine ess_cons (es_ret (ex_mod (ex_int1 M.int (ex_div (ex_var 3 rfl) ex_int ⟨by decide, by decide⟩)) (ex_var 1 rfl) hm0) ?_)
      rw [e]
      exact ⟨rfl, 0, rfl⟩
/-! ### _law_choose -/
theorem sc_choose : FnScope ["_law_pot_here", "_law_things"] ["_law_pot_here", "_law_things"] (defScope s_choose) := ⟨rfl, rfl, rfl, by decide +kernel, rfl, by decide +kernel, by decide +kernel⟩
def R_choose (p : Addr) (ds : List D) (c c' : Cl) (r : Rs) : Prop := ∃ (q : Pot) (xs : List D) (d : D), ds = [.raw (.ref p), .lst xs] ∧ 0 < xs.length ∧ xs.length ≤ 100000 ∧ PotOk q ∧ c = encP q ∧ c' = encP (ladle q xs.length).2 ∧ xs[(ladle q xs.length).1.toNat]? = some d ∧ r = .dat d
theorem ok_choose (M : Mg mg) (F : Df K mg "_law_choose" s_choose ["_law_pot_here", "_law_things"]) (F1 : Fn P w K mg base CX0 1 "_law_ladle" (spO K T R_ladle)) : Fn P w K mg base CX0 2 "_law_choose" (spO K T R_choose) :=
  F.fn fun f fd F => fn_own 0 F sc_choose (fun p ds c c' r ⟨q, m, d, e, _⟩ => by rw [e]; exact ⟨rfl, rfl⟩) fun cdv A outer s H E hr p ds c c' r hR => by
    obtain ⟨q, xs, d, rfl, hl, hl2, hq, rfl, rfl, hd, rfl⟩ := hR
    have nd := sc_choose.nd
    have hm : (0 : Int) < xs.length := by omega
    have hg := ladle_rng (p := q) hm
    refine ess_cons (es_ret (ex_atL (i := (ladle q xs.length).1) (d := d) (ex_var 1 rfl) (ex_callO 0 F1 hr (ea_cons (ex_own 0 rfl) (ea_cons (ex_lenL M.len (ex_var 1 rfl)) ea_nil)) rfl ⟨q, xs.length, rfl, hm, by omega, hq, rfl, rfl, rfl⟩) ?_) ⟨rfl, 0, rfl⟩)
    have e : (ladle q xs.length).1 = (((ladle q xs.length).1.toNat : Nat) : Int) := by omega
    rw [e]
    exact atI_nat hd
/-! ### _law_every_rule -/
theorem sc_every_rule : FnScope ["_law_found", "_law_take", "_law_row"] [] (defScope s_every_rule) := ⟨rfl, rfl, rfl, by decide +kernel, rfl, by decide +kernel, by decide +kernel⟩
def R_every_rule (ds : List D) (r : Rs) : Prop := ds = [] ∧ r = .dat (.lst (allRules.map encR))
theorem ok_every_rule (M : Mg mg) (M3 : Mg3 mg) (F : Df K mg "_law_every_rule" s_every_rule []) : Fn P w K mg base CX0 1 "_law_every_rule" (spP K T R_every_rule) :=
  F.fn fun f fd F => fn_pure F sc_every_rule (fun ds r ⟨e, _⟩ => by rw [e]; rfl) fun cdv A outer s H E hr ds r hR => by
    obtain ⟨rfl, rfl⟩ := hR
    have nd := sc_every_rule.nd
    refine ess_cons (es_set 0 (ex_lst (ea_cons (ex_tup ea_nil) ea_nil)) ?_ nd)
    refine ess_cons (es_for (I := fun k ρ' => ∃ x, ρ' = [.dat (.lst ((foundN k).map dTup)), x, .no]) PassesOwn.never rfl (ei_range2 M.range (ea_cons ex_int (ea_cons ex_int ea_nil)) (by decide)) ⟨.no, rfl⟩ (fun i d ρ' hd hI => ?_) (fun ρ' hI => ?_))
    · obtain ⟨x, rfl⟩ := hI
      rw [List.getElem?_map] at hd
      have hi6 : i < 6 := by
        cases hq : (List.range ((7 : Int) - 1).toNat)[i]? with
        | none => rw [hq] at hd; cases hd
        | some z => have := (List.getElem?_eq_some_iff.mp hq).1; rw [List.length_range] at this; exact this
      have ed : d = .int (1 + (i : Nat)) := by
        rw [List.getElem?_range (show i < ((7 : Int) - 1).toNat from hi6)] at hd
        exact (Option.some.inj hd).symm
      subst ed
      have hl : (foundN i).length ≤ 64 := by
        rw [foundN_len]
        exact Nat.pow_le_pow_right (by decide) (show i ≤ 6 by omega)
      refine ⟨_, _, gx_name 1 nd, ?_⟩
      refine ess_cons (es_set 0 (ex_catL (ex_var 0 rfl) (LcOk.val (own := [("_law_row", 2)]) sc_every_rule (lc_map (zs := foundN i) (enc := dTup) (fun r => dTup (r ++ [1 + ((i : Nat) : Int)])) (ei_list (ex_var 0 rfl)) (fun a _ s H C cl fp => gx_name 2 nd)
        (fun a ha s H C cl fp => ex_eq (ex_catT (ex_var 2 rfl) (ex_tup (ea_cons (ex_var 1 rfl) ea_nil)) (by have := foundN_mem ha; rw [sizeLine_eq, List.length_map]; simp only [List.length_cons, List.length_nil]; omega)) (by unfold dTup; rw [List.map_append]; rfl)) (by rw [sizeLine_eq]; omega))) (by rw [sizeLine_eq, List.length_map, List.length_map]; omega)) (ess_nil ⟨.dat (.int (1 + (i : Nat))), ?_⟩) nd)
      have e : (foundN i).map dTup ++ (foundN i).map (fun r => dTup (r ++ [1 + ((i : Nat) : Int)])) = (foundN (i + 1)).map dTup := by
        have es : foundN (i + 1) = foundN i ++ (foundN i).map fun r => r ++ [((i + 1 : Nat) : Int)] := rfl
        rw [es, List.map_append, List.map_map]
        congr 1
        refine List.map_congr_left fun r _ => ?_
        show dTup _ = dTup _
        congr 2
        show [1 + (i : Int)] = [((i + 1 : Nat) : Int)]
        congr 1
        omega
      rw [e]
      rfl
    · obtain ⟨x, rfl⟩ := hI
      have hr2 : Room 0 _ := hr
      refine ess_cons (es_ret (ex_sliceL (ex_sorted hr M3.sorted (ex_var 0 rfl) (ks := foundN 6) (.inr (foundN_head 6)) every_srtd every_stb) (eo_some ex_int) eo_none) ?_)
      show Rs.dat _ = Rs.dat _
      have e : cut (([] :: allRules).map dTup) (some (1 : Int)) none = (([] :: allRules).map dTup).drop 1 := cut_from (k := 1) (by simp)
      rw [e]
      rfl
/-! ### _law_any_rule -/
theorem sc_any_rule : FnScope ["_law_pot_here"] ["_law_pot_here"] (defScope s_any_rule) := ⟨rfl, rfl, rfl, by decide +kernel, rfl, by decide +kernel, by decide +kernel⟩
def anyRule (q : Pot) : Rule := allRules.getD (ladle q 63).1.toNat []
theorem anyRule_mem (q : Pot) : anyRule q ∈ allRules := by
  have h := ladle_rng (p := q) (show (0 : Int) < 63 by decide)
  have hl : (ladle q 63).1.toNat < allRules.length := by rw [allRules_len]; omega
  unfold anyRule
  rw [List.getD_eq_getElem?_getD, List.getElem?_eq_getElem hl]
  exact List.getElem_mem hl
def R_any_rule (p : Addr) (ds : List D) (c c' : Cl) (r : Rs) : Prop := ∃ (q : Pot), ds = [.raw (.ref p)] ∧ PotOk q ∧ c = encP q ∧ c' = encP (ladle q 63).2 ∧ r = .dat (encR (anyRule q))
theorem ok_any_rule (M : Mg mg) (F : Df K mg "_law_any_rule" s_any_rule ["_law_pot_here"]) (F1 : Fn P w K mg base CX0 2 "_law_choose" (spO K T R_choose)) (F2 : Fn P w K mg base CX0 1 "_law_every_rule" (spP K T R_every_rule)) : Fn P w K mg base CX0 3 "_law_any_rule" (spO K T R_any_rule) :=
  F.fn fun f fd F => fn_own 0 F sc_any_rule (fun p ds c c' r ⟨q, e, _⟩ => by rw [e]; exact ⟨rfl, rfl⟩) fun cdv A outer s H E hr p ds c c' r hR => by
    obtain ⟨q, rfl, hq, rfl, rfl, rfl⟩ := hR
    have nd := sc_any_rule.nd
    have hl : (allRules.map encR).length = 63 := by rw [List.length_map, allRules_len]
    have hg := ladle_rng (p := q) (show (0 : Int) < 63 by decide)
    refine ess_cons (es_ret (ex_callO 0 F1 hr (ea_cons (ex_own 0 rfl) (ea_cons (ex_call0 F2 hr ⟨rfl, rfl⟩) ea_nil)) rfl ⟨q, allRules.map encR, encR (anyRule q), rfl, by rw [hl]; decide, by rw [hl]; decide, hq, rfl, rfl, ?_, rfl⟩) ⟨rfl, 0, ?_⟩)
    · rw [hl, List.getElem?_map]
      have hl2 : (ladle q 63).1.toNat < allRules.length := by rw [allRules_len]; omega
      show Option.map encR allRules[(ladle q 63).1.toNat]? = _
      unfold anyRule
      rw [List.getD_eq_getElem?_getD, List.getElem?_eq_getElem hl2]
      rfl
    · rw [hl]
      rfl
end
end Pf
set_option Elab.async false
set_option linter.all false
set_option maxRecDepth 100000
set_option maxHeartbeats 4000000
namespace Pf
open PySem PySem.Spec PyProof.Rows L2 DL
abbrev s_first_worths : Stmt := topS 51
abbrev s_known : Stmt := topS 52
abbrev s_worth : Stmt := topS 53
abbrev s_lost : Stmt := topS 54
abbrev s_any_heap : Stmt := topS 55
abbrev s_any_position : Stmt := topS 56
abbrev s_all_known : Stmt := topS 57
section
variable {P : Program} {w : World} {K : PySem.W.Frag} {mg : Str → Option Value} {base : Heap} {T : Tb}
/-! ### _law_first_worths -/

abbrev N_fw : List Str := ["_law_rule", "_law_many", "_law_row", "_law_heap", "_law_behind_here", "_law_number", "_law_take"]
theorem sc_first_worths : FnScope N_fw ["_law_rule", "_law_many"] (defScope s_first_worths) := ⟨rfl, rfl, rfl, by decide +kernel, rfl, by decide +kernel, by decide +kernel⟩
def R_first_worths (ds : List D) (r : Rs) : Prop := ∃ (rule : Rule) (n : Nat), rule ∈ allRules ∧ n ≤ 260 ∧ ds = [encR rule, .int (n : Nat)] ∧ r = .new ((wN rule n).map D.int)
theorem ok_first_worths (M : Mg mg) (F : Df K mg "_law_first_worths" s_first_worths ["_law_rule", "_law_many"]) : Fn P w K mg base CX0 1 "_law_first_worths" (spP K T R_first_worths) :=
  F.fn fun f fd F => fn_pure F sc_first_worths (fun ds r ⟨_, _, _, _, e, _⟩ => by rw [e]; rfl) fun cdv A outer s H E hr ds r hR => by
    obtain ⟨rule, n, hmem, hn, rfl, rfl⟩ := hR
    have nd := sc_first_worths.nd
    refine ess_cons (es_setL 2 (en_lst ea_nil) (fun q hq => ?_) nd)
    refine ess_cons (es_for (I := fun k ρ' => ∃ x3 x4 x5, ρ' = [.dat (encR rule), .dat (.int (n : Nat)), .own q (.lst ((wN rule k).map D.int)), x3, x4, x5, .no]) PassesOwn.never rfl (ei_range1 M.range (ea_cons (ex_var 1 rfl) ea_nil) (by omega)) ⟨.no, .no, .no, rfl⟩ (fun i d ρ' hd hI => ?_) (fun ρ' hI => ?_))
    · obtain ⟨x3, x4, x5, rfl⟩ := hI
      rw [List.getElem?_map] at hd
      have hin : i < n := by
        cases hq : (List.range ((n : Nat) : Int).toNat)[i]? with
        | none => rw [hq] at hd; cases hd
        | some z => have := (List.getElem?_eq_some_iff.mp hq).1; rw [List.length_range] at this; exact this
      have ed : d = .int ((i : Nat) : Int) := by
        rw [List.getElem?_range (show i < ((n : Nat) : Int).toNat from hin)] at hd
        have := (Option.some.inj hd).symm
        rw [this]
        show D.int (0 + ((i : Nat) : Int)) = _
        rw [Int.zero_add]
      subst ed
      have hwl := wN_len rule i
      have hrl := rule_len hmem
      refine ⟨_, _, gx_name 3 nd, ?_⟩
      refine ess_cons (LcOk.asg (xs := (behindW rule (wN rule i)).map D.int) (own := [("_law_take", 6)]) 4 sc_first_worths (by
          have e : (behindW rule (wN rule i)).map D.int = (rule.filter fun t => decide (t ≤ ((i : Nat) : Int))).map fun t => D.int ((wN rule i).getD ((wN rule i).length - t.toNat) 0) := by
            unfold behindW
            rw [List.map_map, hwl]
            rfl
          rw [e]
          exact lc_filt (zs := rule) (enc := D.int) (fun t => decide (t ≤ ((i : Nat) : Int))) (fun t => D.int ((wN rule i).getD ((wN rule i).length - t.toNat) 0)) (ei_tup (ex_var 0 rfl)) (fun a _ s H C cl fp => gx_name 6 nd)
            (fun a ha s H C cl fp => et_le (ex_var 6 rfl) (ex_var 3 rfl))
            (fun a ha hq s H C cl fp => ex_atO 2 rfl (ex_sub (ex_var 3 rfl) (ex_var 6 rfl)) (by
              have h1 : a ≤ ((i : Nat) : Int) := of_decide_eq_true hq
              have := behind_mem hmem (found := wN rule i) ha (by rw [hwl]; exact h1)
              rw [hwl] at this
              rw [hwl]
              exact this)) (by rw [sizeLine_eq]; omega)) ?_)
      refine ess_cons (es_set 5 ex_int ?_ nd)
      refine ess_cons (es_while (I := fun m ρ' => ∃ z, ρ' = [.dat (encR rule), .dat (.int (n : Nat)), .own q (.lst ((wN rule i).map D.int)), .dat (.int (i : Nat)), .dat (encL (behindW rule (wN rule i))), .dat (.int z), .no] ∧ ((behindW rule (wN rule i)).filter fun x => decide (z ≤ x)).length ≤ m ∧ mexF (behindW rule (wN rule i)) m z = mex (behindW rule (wN rule i))) (behindW rule (wN rule i)).length PassesOwn.never ⟨0, rfl, List.length_filter_le _ _, rfl⟩ (fun m ρ' hI => ?_))
      obtain ⟨z, rfl, h1, h2⟩ := hI
      refine ⟨_, decide (z ∈ behindW rule (wN rule i)), et_cmp op_in_seq (ex_var 5 rfl) (ex_var 4 rfl) (rr_inI (.inl rfl)), fun h => ?_, fun h => ?_⟩
      · have hz : z ∈ behindW rule (wN rule i) := of_decide_eq_true h
        have hc := cnt_lt hz
        obtain ⟨m', rfl⟩ : ∃ m', m = m' + 1 := ⟨m - 1, by omega⟩
        refine ess_cons (es_set 5 (ex_add (ex_var 5 rfl) ex_int) (ess_nil ⟨m', Nat.lt_succ_self _, z + 1, rfl, by omega, ?_⟩) nd)
        rw [← h2]
        show _ = (if z ∈ behindW rule (wN rule i) then mexF _ m' (z + 1) else z)
        rw [if_pos hz]
      · have hz : z ∉ behindW rule (wN rule i) := of_decide_eq_false h
        have e : mex (behindW rule (wN rule i)) = z := by
          rw [← h2]
          cases m with
          | zero => rfl
          | succ m =>
            show (if z ∈ behindW rule (wN rule i) then _ else z) = z
            rw [if_neg hz]
        refine ess_cons (es_appendP 2 rfl (ex_var 5 rfl) (by rw [sizeLine_eq, List.length_map, hwl]; omega) (ess_nil ⟨.dat (.int (i : Nat)), .dat (encL (behindW rule (wN rule i))), .dat (.int z), ?_⟩))
        have es : wN rule (i + 1) = wN rule i ++ [z] := by rw [← e]; rfl
        rw [es, List.map_append]
        rfl
    · obtain ⟨x3, x4, x5, rfl⟩ := hI
      refine ess_cons (es_retOwn 2 rfl ?_)
      rw [List.length_map, List.length_range]
      rfl
/-! ### _law_known -/
theorem sc_known : FnScope ["_law_rule", "_law_row", "_law_period", "_law_lead"] ["_law_rule"] (defScope s_known) := ⟨rfl, rfl, rfl, by decide +kernel, rfl, by decide +kernel, by decide +kernel⟩
def R_known (ds : List D) (r : Rs) : Prop := ∃ (rule : Rule), rule ∈ allRules ∧ ds = [encR rule] ∧ r = .dat (knownD rule)
theorem rowF_len (rule : Rule) : (rowF rule).length = 260 := by rw [rowF_def, wN_len]
theorem ok_known (M : Mg mg) (F : Df K mg "_law_known" s_known ["_law_rule"]) (F1 : Fn P w K mg base CX0 1 "_law_first_worths" (spP K T R_first_worths)) : Fn P w K mg base CX0 2 "_law_known" (spP K T R_known) :=
  F.fn fun f fd F => fn_pure F sc_known (fun ds r ⟨_, _, e, _⟩ => by rw [e]; rfl) fun cdv A outer s H E hr ds r hR => by
    obtain ⟨rule, hmem, rfl, rfl⟩ := hR
    have nd := sc_known.nd
    have W := rw_of hmem
    obtain ⟨hp1, hp2, hp3⟩ := perOf_ok W
    have hrl := rowF_len rule
    have hat := (perOf_at W).2.2
    refine ess_cons (es_set 1 (ex_eq (EN.ex (en_call F1 hr (ea_cons (ex_var 0 rfl) (ea_cons ex_int ea_nil)) ⟨rule, 260, hmem, Nat.le_refl _, rfl, rfl⟩)) (d' := encL (rowF rule)) (by rw [rowF_def]; rfl)) ?_ nd)
    refine ess_cons (es_set 2 ex_int ?_ nd)
    -- the least period
    refine ess_cons (es_while (I := fun m ρ' => ∃ q : Nat, ρ' = [.dat (encR rule), .dat (encL (rowF rule)), .dat (.int (q : Nat)), .no] ∧ q + m = 100 ∧ q ≤ perOf rule ∧ perF (rowF rule) m q = perOf rule) 99 PassesOwn.never ⟨1, rfl, rfl, hp1, (perOf_eq rule).symm⟩ (fun m ρ' hI => ?_))
    obtain ⟨q, rfl, hqm, hqp, hpf⟩ := hI
    obtain ⟨m', rfl⟩ : ∃ m', m = m' + 1 := ⟨m - 1, by omega⟩
    have e1 : cut ((rowF rule).map D.int) (some (130 : Int)) (some (260 - ((q : Nat) : Int))) = (((rowF rule).drop 130).take (130 - q)).map D.int := by
      rw [cut_map, show (260 - ((q : Nat) : Int)) = ((260 - q : Nat) : Int) by omega, show (130 : Int) = ((130 : Nat) : Int) from rfl, cut_mid (by omega) (by omega), show 260 - q - 130 = 130 - q by omega]
    have e2 : cut ((rowF rule).map D.int) (some (130 + ((q : Nat) : Int))) (some (260 : Int)) = ((rowF rule).drop (130 + q)).map D.int := by
      rw [cut_map, show (130 + ((q : Nat) : Int)) = ((130 + q : Nat) : Int) by omega, show (260 : Int) = ((260 : Nat) : Int) from rfl, cut_mid (by omega) (by omega), List.take_of_length_le (by rw [List.length_drop]; omega)]
    have hlt : decide (((q : Nat) : Int) < 100) = true := decide_eq_true (by omega)
    refine ⟨_, (decide (((q : Nat) : Int) < 100) && !decide (PerAt 130 (rowF rule) q)), et_and2 (et_lt (ex_var 2 rfl) ex_int) (fun _ => et_eq (et_neD (n := 1) (m := 1) hr (ex_eq (ex_sliceL (ex_var 1 rfl) (eo_some ex_int) (eo_some (ex_sub ex_int (ex_var 2 rfl)))) (show D.lst _ = encL (((rowF rule).drop 130).take (130 - q)) by rw [e1]; rfl)) (ex_eq (ex_sliceL (ex_var 1 rfl) (eo_some (ex_add ex_int (ex_var 2 rfl))) (eo_some ex_int)) (show D.lst _ = encL ((rowF rule).drop (130 + q)) by rw [e2]; rfl)) (flat_encL _) (flat_encL _)) (by rw [eqv_encL]; rfl)), fun h => ?_, fun h => ?_⟩
    · rw [hlt, Bool.true_and] at h
      have hnp : ¬ PerAt 130 (rowF rule) q := of_decide_eq_false (nt h)
      have hne : q ≠ perOf rule := fun z => hnp (by rw [z]; exact hat)
      refine ess_cons (es_set 2 (ex_add (ex_var 2 rfl) ex_int) (ess_nil ⟨m', Nat.lt_succ_self _, q + 1, rfl, by omega, by omega, ?_⟩) nd)
      rw [← hpf]
      conv => rhs; unfold perF
      rw [if_neg hnp]
    · rw [hlt, Bool.true_and] at h
      have hyp : PerAt 130 (rowF rule) q := of_decide_eq_true (nf h)
      have eq : perOf rule = q := by
        rw [← hpf]
        unfold perF
        rw [if_pos hyp]
      rw [← eq]
      refine ess_cons (es_set 3 ex_int ?_ nd)
      -- from where on
      refine ess_cons (es_while (I := fun m ρ' => ρ' = [.dat (encR rule), .dat (encL (rowF rule)), .dat (.int (perOf rule : Nat)), .dat (.int (m : Nat))] ∧ m ≤ 130) 130 PassesOwn.never ⟨rfl, Nat.le_refl _⟩ (fun m ρ' hI => ?_))
      obtain ⟨rfl, hm⟩ := hI
      cases m with
      | zero =>
        refine ⟨_, false, et_eq (et_and2 (k' := false) (et_gt (ex_var 3 rfl) ex_int) (fun z => nomatch z)) rfl, (fun z => nomatch z), fun _ => ess_cons (es_ret (ex_tup (ea_cons (ex_var 1 rfl) (ea_cons (ex_var 3 rfl) (ea_cons (ex_var 2 rfl) ea_nil)))) rfl)⟩
      | succ m =>
        have at1 : atI ((rowF rule).map D.int) (((m + 1 : Nat) : Int) - 1) = some (.int (sW (rounds rule).2 m)) := by
          rw [show ((m + 1 : Nat) : Int) - 1 = ((m : Nat) : Int) by omega]
          refine atI_nat ?_
          rw [rowF_eq W, List.getElem?_map, List.getElem?_map, List.getElem?_range (by omega)]
          rfl
        have at2 : atI ((rowF rule).map D.int) (((m + 1 : Nat) : Int) - 1 + ((perOf rule : Nat) : Int)) = some (.int (sW (rounds rule).2 (m + perOf rule))) := by
          rw [show ((m + 1 : Nat) : Int) - 1 + ((perOf rule : Nat) : Int) = ((m + perOf rule : Nat) : Int) by omega]
          refine atI_nat ?_
          rw [rowF_eq W, List.getElem?_map, List.getElem?_map, List.getElem?_range (by omega)]
          rfl
        have hgt : decide ((0 : Int) < ((m + 1 : Nat) : Int)) = true := decide_eq_true (by omega)
        refine ⟨_, true, et_eq (et_and2 (et_gt (ex_var 3 rfl) ex_int) (fun _ => et_eqI (ex_atL (ex_var 1 rfl) (ex_sub (ex_var 3 rfl) ex_int) at1) (ex_atL (ex_var 1 rfl) (ex_add (ex_sub (ex_var 3 rfl) ex_int) (ex_var 2 rfl)) at2))) (by rw [hgt, hp3]; simp), fun _ => ?_, (fun z => nomatch z)⟩
        refine ess_cons (es_set 3 (ex_sub (ex_var 3 rfl) ex_int) (ess_nil ⟨m, Nat.lt_succ_self _, ?_, by omega⟩) nd)
        rw [show ((m + 1 : Nat) : Int) - 1 = ((m : Nat) : Int) by omega]
        rfl
/-! ### _law_worth -/
theorem sc_worth : FnScope ["_law_known_here", "_law_heap", "_law_row", "_law_lead", "_law_period"] ["_law_known_here", "_law_heap"] (defScope s_worth) := ⟨rfl, rfl, rfl, by decide +kernel, rfl, by decide +kernel, by decide +kernel⟩
def R_worth (ds : List D) (r : Rs) : Prop := ∃ (rule : Rule) (h : Int), rule ∈ allRules ∧ 0 ≤ h ∧ ds = [knownD rule, .int h] ∧ r = .dat (.int (worth rule h))
theorem row_at {rule : Rule} (hm : rule ∈ allRules) {n : Nat} (hn : n < 260) : atI ((rowF rule).map D.int) ((n : Nat) : Int) = some (.int (sW (rounds rule).2 n)) := by
  refine atI_nat ?_
  rw [rowF_eq (rw_of hm), List.getElem?_map, List.getElem?_map, List.getElem?_range hn]
  rfl
theorem ok_worth (M : Mg mg) (F : Df K mg "_law_worth" s_worth ["_law_known_here", "_law_heap"]) : Fn P w K mg base CX0 1 "_law_worth" (spP K T R_worth) :=
  F.fn fun f fd F => fn_pure F sc_worth (fun ds r ⟨_, _, _, _, e, _⟩ => by rw [e]; rfl) fun cdv A outer s H E hr ds r hR => by
    obtain ⟨rule, h, hmem, h0, rfl, rfl⟩ := hR
    have nd := sc_worth.nd
    have W := rw_of hmem
    obtain ⟨hp1, hp2, hp3⟩ := perOf_ok W
    rw [worth_eq W h0]
    obtain ⟨n, rfl⟩ : ∃ n : Nat, h = n := ⟨h.toNat, by omega⟩
    refine ess_cons (es_asg (ex_var 0 rfl) (gx_tup rfl (gxs_cons (gx_name 2 nd) (gxs_cons (gx_name 3 nd) (gxs_cons (gx_name 4 nd) gxs_nil)))) ?_)
    refine ess_cons (es_ifP _ (et_lt (ex_var 1 rfl) (ex_add (ex_var 3 rfl) (ex_var 4 rfl))) (fun h => ?_) (fun h => ?_))
    · have h2 := of_decide_eq_true h
      exact ess_cons (es_ret (ex_atL (ex_var 2 rfl) (ex_var 1 rfl) (row_at hmem (n := n) (by omega))) rfl)
    · refine ess_nil (ess_cons (es_ret (ex_atL (ex_var 2 rfl) (ex_add (ex_var 3 rfl) (ex_mod (ex_int1 M.int (ex_sub (ex_var 1 rfl) (ex_var 3 rfl))) (ex_var 4 rfl) (by omega))) (d := .int (sW (rounds rule).2 (n % perOf rule))) ?_) ?_))
      · have e : (0 : Int) + (((n : Nat) : Int) - 0) % ((perOf rule : Nat) : Int) = ((n % perOf rule : Nat) : Int) := by
          rw [Int.zero_add, Int.sub_zero]
          rfl
        rw [e]
        exact row_at hmem (by have := Nat.mod_lt n hp1; omega)
      · rw [sW_perMod W]
        rfl
/-! ### _law_lost -/
theorem sc_lost : FnScope ["_law_known_here", "_law_position", "_law_total", "_law_heap"] ["_law_known_here", "_law_position"] (defScope s_lost) := ⟨rfl, rfl, rfl, by decide +kernel, rfl, by decide +kernel, by decide +kernel⟩
def R_lost (ds : List D) (r : Rs) : Prop := ∃ (rule : Rule) (p : List Int), rule ∈ allRules ∧ HeapsOk p ∧ ds = [knownD rule, encR p] ∧ r = .dat (.bl (isLost rule p))
theorem ok_lost (M : Mg mg) (F : Df K mg "_law_lost" s_lost ["_law_known_here", "_law_position"]) (F1 : Fn P w K mg base CX0 1 "_law_worth" (spP K T R_worth)) : Fn P w K mg base CX0 2 "_law_lost" (spP K T R_lost) :=
  F.fn fun f fd F => fn_pure F sc_lost (fun ds r ⟨_, _, _, _, e, _⟩ => by rw [e]; rfl) fun cdv A outer s H E hr ds r hR => by
    obtain ⟨rule, p, hmem, hp, rfl, rfl⟩ := hR
    have nd := sc_lost.nd
    refine ess_cons (es_set 2 ex_int ?_ nd)
    refine ess_cons (es_for (I := fun k ρ' => ∃ x, ρ' = [.dat (knownD rule), .dat (encR p), .dat (.int ((p.take k).foldl (fun t h => Builtin.bitXor t (worth rule h)) 0)), x]) PassesOwn.never rfl (ei_tup (ex_var 1 rfl)) ⟨.no, rfl⟩ (fun i d ρ' hd hI => ?_) (fun ρ' hI => ?_))
    · obtain ⟨x, rfl⟩ := hI
      rw [List.getElem?_map] at hd
      cases hq : p[i]? with
      | none => rw [hq] at hd; cases hd
      | some h =>
        rw [hq] at hd
        have ed : d = .int h := (Option.some.inj hd).symm
        subst ed
        refine ⟨_, _, gx_name 3 nd, ess_cons (es_set 2 (ex_xor (ex_var 2 rfl) (ex_call F1 hr (ea_cons (ex_var 0 rfl) (ea_cons (ex_var 3 rfl) ea_nil)) ⟨rule, h, hmem, hp.2 h (List.mem_of_getElem? hq), rfl, rfl⟩)) (ess_nil ⟨.dat (.int h), ?_⟩) nd)⟩
        rw [List.take_add_one, hq, List.foldl_append]
        rfl
    · obtain ⟨x, rfl⟩ := hI
      rw [List.length_map, List.take_length]
      exact ess_cons (es_ret (ex_eqI (ex_var 2 rfl) ex_int) rfl)
/-! ### _law_any_heap -/
theorem sc_any_heap : FnScope ["_law_pot_here", "_law_way"] ["_law_pot_here"] (defScope s_any_heap) := ⟨rfl, rfl, rfl, by decide +kernel, rfl, by decide +kernel, by decide +kernel⟩
def wayTop (v : Int) : Int := ([7, 13, 80] : List Int).getD (v - 1).toNat 7
def anyHeap (q : Pot) : Int × Pot := if (ladle q 4).1 = 0 then (10 ^ 30 - (ladle (ladle q 4).2 1000).1, (ladle (ladle q 4).2 1000).2) else ladle (ladle q 4).2 (wayTop (ladle q 4).1)
theorem wayTop_rng (v : Int) : 0 < wayTop v ∧ wayTop v ≤ 80 := by
  unfold wayTop
  generalize (v - 1).toNat = n
  match n with
  | 0 => exact ⟨by decide, by decide⟩
  | 1 => exact ⟨by decide, by decide⟩
  | 2 => exact ⟨by decide, by decide⟩
  | n + 3 => exact ⟨show (0 : Int) < 7 by decide, show (7 : Int) ≤ 80 by decide⟩
theorem anyHeap_ok {q : Pot} (h : PotOk q) : PotOk (anyHeap q).2 ∧ 0 ≤ (anyHeap q).1 ∧ (anyHeap q).1 ≤ 10 ^ 30 := by
  have h1 := ladle_ok (m := 4) (by decide) h
  have w := wayTop_rng (ladle q 4).1
  unfold anyHeap
  split
  · have g := ladle_rng (p := (ladle q 4).2) (show (0 : Int) < 1000 by decide)
    refine ⟨ladle_ok (by decide) h1, ?_, ?_⟩
    · show 0 ≤ 10 ^ 30 - (ladle (ladle q 4).2 1000).1
      omega
    · show 10 ^ 30 - (ladle (ladle q 4).2 1000).1 ≤ 10 ^ 30
      omega
  · have g := ladle_rng (p := (ladle q 4).2) w.1
    exact ⟨ladle_ok w.1 h1, g.1, by omega⟩
def R_any_heap (p : Addr) (ds : List D) (c c' : Cl) (r : Rs) : Prop := ∃ (q : Pot), ds = [.raw (.ref p)] ∧ PotOk q ∧ c = encP q ∧ c' = encP (anyHeap q).2 ∧ r = .dat (.int (anyHeap q).1)
theorem ok_any_heap (M : Mg mg) (F : Df K mg "_law_any_heap" s_any_heap ["_law_pot_here"]) (F1 : Fn P w K mg base CX0 1 "_law_ladle" (spO K T R_ladle)) : Fn P w K mg base CX0 2 "_law_any_heap" (spO K T R_any_heap) :=
  F.fn fun f fd F => fn_own 0 F sc_any_heap (fun p ds c c' r ⟨q, e, _⟩ => by rw [e]; exact ⟨rfl, rfl⟩) fun cdv A outer s H E hr p ds c c' r hR => by
    obtain ⟨q, rfl, hq, rfl, rfl, rfl⟩ := hR
    have nd := sc_any_heap.nd
    have g4 := ladle_rng (p := q) (show (0 : Int) < 4 by decide)
    have h1 := ladle_ok (m := 4) (by decide) hq
    have w := wayTop_rng (ladle q 4).1
    refine ess_cons (es_set 1 (ex_callO 0 F1 hr (ea_cons (ex_own 0 rfl) (ea_cons ex_int ea_nil)) rfl ⟨q, 4, rfl, by decide, by decide, hq, rfl, rfl, rfl⟩) ?_ nd)
    refine ess_cons (es_ifP (decide ((ladle q 4).1 = 0)) (et_eqI (ex_var 1 rfl) ex_int) (fun h => ?_) (fun h => ?_))
    · have e : anyHeap q = (10 ^ 30 - (ladle (ladle q 4).2 1000).1, (ladle (ladle q 4).2 1000).2) := if_pos (of_decide_eq_true h)
      refine ess_cons (es_ret (ex_sub (ex_pow ex_int ex_int ⟨by decide, by decide, by decide⟩) (ex_callO 0 F1 hr (ea_cons (ex_own 0 rfl) (ea_cons ex_int ea_nil)) rfl ⟨(ladle q 4).2, 1000, rfl, by decide, by decide, h1, rfl, rfl, rfl⟩)) ?_)
      rw [e]
      exact ⟨rfl, 0, rfl⟩
    · have hz : ¬ (ladle q 4).1 = 0 := of_decide_eq_false h
      have e : anyHeap q = ladle (ladle q 4).2 (wayTop (ladle q 4).1) := if_neg hz
      refine ess_nil (ess_cons (es_ret (ex_callO 0 F1 hr (ea_cons (ex_own 0 rfl) (ea_cons (ex_atL (d := .int (wayTop (ladle q 4).1)) (ex_lst (ea_cons ex_int (ea_cons ex_int (ea_cons ex_int ea_nil)))) (ex_sub (ex_var 1 rfl) ex_int) ?_) ea_nil)) rfl ⟨(ladle q 4).2, wayTop (ladle q 4).1, rfl, w.1, by omega, h1, rfl, rfl, rfl⟩) ?_))
      · unfold wayTop
        generalize (ladle q 4).1 = v at g4 hz
        have : v = 1 ∨ v = 2 ∨ v = 3 := by omega
        rcases this with rfl | rfl | rfl <;> rfl
      · rw [e]
        exact ⟨rfl, 0, rfl⟩
/-! ### _law_any_position -/
theorem sc_any_position : FnScope ["_law_pot_here", "_law_turn"] ["_law_pot_here"] (defScope s_any_position) := ⟨rfl, rfl, rfl, by decide +kernel, rfl, by decide +kernel, by decide +kernel⟩
def heapsN (q : Pot) : Nat → List Int × Pot
  | 0 => ([], q)
  | n + 1 => ((heapsN q n).1 ++ [(anyHeap (heapsN q n).2).1], (anyHeap (heapsN q n).2).2)
theorem heapsN_ok {q : Pot} (h : PotOk q) : ∀ n : Nat, PotOk (heapsN q n).2 ∧ (heapsN q n).1.length = n ∧ ∀ x ∈ (heapsN q n).1, 0 ≤ x ∧ x ≤ 10 ^ 30
  | 0 => ⟨h, rfl, fun x hx => nomatch hx⟩
  | n + 1 => by
    obtain ⟨a1, a2, a3⟩ := heapsN_ok h n
    obtain ⟨b1, b2, b3⟩ := anyHeap_ok a1
    refine ⟨b1, ?_, fun x hx => ?_⟩
    · show ((heapsN q n).1 ++ [_]).length = _
      rw [List.length_append, a2]
      rfl
    · rcases List.mem_append.mp hx with hx | hx
      · exact a3 x hx
      · rw [List.mem_singleton.mp hx]
        exact ⟨b2, b3⟩
def anyPos (q : Pot) : List Int × Pot := heapsN (ladle q 3).2 (1 + (ladle q 3).1).toNat
theorem anyPos_ok {q : Pot} (h : PotOk q) : PotOk (anyPos q).2 ∧ PosOk (anyPos q).1 := by
  have g := ladle_rng (p := q) (show (0 : Int) < 3 by decide)
  obtain ⟨a1, a2, a3⟩ := heapsN_ok (ladle_ok (m := 3) (by decide) h) (1 + (ladle q 3).1).toNat
  exact ⟨a1, by show 1 ≤ (heapsN _ _).1.length; omega, by show (heapsN _ _).1.length ≤ 3; omega, a3⟩
def R_any_position (p : Addr) (ds : List D) (c c' : Cl) (r : Rs) : Prop := ∃ (q : Pot), ds = [.raw (.ref p)] ∧ PotOk q ∧ c = encP q ∧ c' = encP (anyPos q).2 ∧ r = .dat (encR (anyPos q).1)
theorem ok_any_position (M : Mg mg) (F : Df K mg "_law_any_position" s_any_position ["_law_pot_here"]) (F1 : Fn P w K mg base CX0 1 "_law_ladle" (spO K T R_ladle)) (F2 : Fn P w K mg base CX0 2 "_law_any_heap" (spO K T R_any_heap)) : Fn P w K mg base CX0 3 "_law_any_position" (spO K T R_any_position) :=
  F.fn fun f fd F => fn_own 0 F sc_any_position (fun p ds c c' r ⟨q, e, _⟩ => by rw [e]; exact ⟨rfl, rfl⟩) fun cdv A outer s H E hr p ds c c' r hR => by
    obtain ⟨q, rfl, hq, rfl, rfl, rfl⟩ := hR
    have nd := sc_any_position.nd
    have g := ladle_rng (p := q) (show (0 : Int) < 3 by decide)
    have h1 := ladle_ok (m := 3) (by decide) hq
    refine ess_cons (es_ret (ex_tupOf (xs := (anyPos q).1.map D.int) M.tuple (LcOk.val (own := [("_law_turn", 1)]) sc_any_position
      (lc_ok (I := fun k ρ' acc => ρ' = [.own p (encP (heapsN (ladle q 3).2 k).2), .no] ∧ acc = (heapsN (ladle q 3).2 k).1.map D.int)
        (ei_range1 M.range (ea_cons (ex_add ex_int (ex_callO 0 F1 hr (ea_cons (ex_own 0 rfl) (ea_cons ex_int ea_nil)) rfl ⟨q, 3, rfl, by decide, by decide, hq, rfl, rfl, rfl⟩)) ea_nil) (by omega)) ⟨rfl, rfl⟩ (fun i d ρ' acc hd hI => ?_) (ρ2 := [.own p (encP (anyPos q).2), .no]) (fun ρ' acc hI => ?_)))) ⟨rfl, 0, rfl⟩)
    · obtain ⟨rfl, rfl⟩ := hI
      obtain ⟨a1, a2, a3⟩ := heapsN_ok h1 i
      have hi : i < 3 := by
        have := (List.getElem?_eq_some_iff.mp hd).1
        rw [List.length_map, List.length_range] at this
        omega
      refine ⟨_, _, _, true, ?_, rfl, fun s H C cl fp => gx_name 1 nd, fun s H C cl fp => ets_nil, fun _ => ⟨_, .int (anyHeap (heapsN (ladle q 3).2 i).2).1, fun s H C cl fp => ex_callO 0 F2 hr (ea_cons (ex_own 0 rfl) ea_nil) rfl ⟨_, rfl, a1, rfl, rfl, rfl⟩, ?_, rfl, ?_⟩, (fun z => nomatch z)⟩
      · decide
      · rw [List.length_map, a2, sizeLine_eq]
        omega
      · show _ = ((heapsN (ladle q 3).2 i).1 ++ [_]).map D.int
        rw [List.map_append]
        rfl
    · obtain ⟨rfl, rfl⟩ := hI
      rw [List.length_map, List.length_range]
      exact ⟨rfl, rfl⟩
/-! ### _law_all_known -/
theorem sc_all_known : FnScope ["_law_rule"] [] (defScope s_all_known) := ⟨rfl, rfl, rfl, by decide +kernel, rfl, by decide +kernel, by decide +kernel⟩
def keyR (r : Rule) : List Key := r.map Sum.inl
def everyD : D := .dct (allRules.map fun r => (keyR r, knownD r))
theorem keyR_inj {a b : Rule} (h : keyR a = keyR b) : a = b := by
  unfold keyR at h
  induction a generalizing b with
  | nil => cases b with
    | nil => rfl
    | cons y b => cases h
  | cons x a ih =>
    cases b with
    | nil => cases h
    | cons y b =>
      rw [List.map_cons, List.map_cons] at h
      obtain ⟨h1, h2⟩ := List.cons.inj h
      rw [Sum.inl.inj h1, ih h2]
theorem keyR_dK (r : Rule) : (keyR r).map dK = r.map D.int := by
  unfold keyR
  rw [List.map_map]
  rfl
theorem nodup_map_keyR : ∀ {l : List Rule}, l.Nodup → (l.map keyR).Nodup
  | [], _ => List.nodup_nil
  | x :: l, h => by
    obtain ⟨h1, h2⟩ := List.nodup_cons.mp h
    rw [List.map_cons]
    refine List.nodup_cons.mpr ⟨fun z => ?_, nodup_map_keyR h2⟩
    obtain ⟨y, hy, e⟩ := List.mem_map.mp z
    rw [keyR_inj e] at hy
    exact h1 hy
theorem every_at {r : Rule} : ∀ {l : List Rule}, r ∈ l → valD (l.map fun r => (keyR r, knownD r)) (keyR r) = some (knownD r)
  | x :: l, h => by
    unfold valD
    rw [List.map_cons, List.find?_cons]
    by_cases e : keyR x = keyR r
    · rw [decide_eq_true e]
      show some (knownD x) = _
      rw [keyR_inj e]
    · rw [decide_eq_false e]
      refine every_at ((List.mem_cons.mp h).resolve_left fun z => e (by rw [z]))
def R_all_known (ds : List D) (r : Rs) : Prop := ds = [] ∧ r = .dat everyD
theorem ok_all_known (M : Mg mg) (M3 : Mg3 mg) (F : Df K mg "_law_all_known" s_all_known []) (F1 : Fn P w K mg base CX0 1 "_law_every_rule" (spP K T R_every_rule)) (F2 : Fn P w K mg base CX0 2 "_law_known" (spP K T R_known)) : Fn P w K mg base CX0 3 "_law_all_known" (spP K T R_all_known) :=
  F.fn fun f fd F => fn_pure F sc_all_known (fun ds r ⟨e, _⟩ => by rw [e]; rfl) fun cdv A outer s H E hr ds r hR => by
    obtain ⟨rfl, rfl⟩ := hR
    have nd := sc_all_known.nd
    have e : (allRules.map fun r => (keyR r, knownD r)).map DL.prD = allRules.map fun r => D.tup [encR r, knownD r] := by
      rw [List.map_map]
      refine List.map_congr_left fun r _ => ?_
      show D.tup [.tup ((keyR r).map dK), knownD r] = _
      rw [keyR_dK]
      rfl
    refine ess_cons (es_ret (ex_dictPT hr M3.dict (es := allRules.map fun r => (keyR r, knownD r)) (ex_eq (LcOk.val (own := [("_law_rule", 0)]) sc_all_known (lc_map (zs := allRules) (enc := encR) (fun r => D.tup [encR r, knownD r]) (ei_list (ex_call0 F1 hr ⟨rfl, rfl⟩)) (fun a _ s H C cl fp => gx_name 0 nd)
      (fun a ha s H C cl fp => ex_tup (ea_cons (ex_var 0 rfl) (ea_cons (ex_call F2 hr (ea_cons (ex_var 0 rfl) ea_nil) ⟨a, ha, rfl, rfl⟩) ea_nil))) (by rw [allRules_len, sizeLine_eq]; decide))) (by rw [e])) ?_) rfl)
    rw [List.map_map]
    exact nodup_map_keyR rules_nodup
end
end Pf
set_option Elab.async false
set_option linter.all false
set_option maxRecDepth 100000
set_option maxHeartbeats 4000000
namespace Pf
open PySem PySem.Spec PyProof.Rows L2 DL
abbrev s_lgoes : Stmt := topS 58
abbrev s_left : Stmt := topS 59
abbrev s_any_fact : Stmt := topS 60
abbrev s_any_book : Stmt := topS 61
section
variable {P : Program} {w : World} {K : PySem.W.Frag} {mg : Str → Option Value} {base : Heap} {T : Tb}
theorem eqv_nil (xs : List D) : eqv (.lst xs) (.lst []) = xs.isEmpty := by
  cases xs with
  | nil => rfl
  | cons x xs => rfl
theorem key_tup (r : Rule) : encR r = .tup ((keyR r).map dK) := by rw [keyR_dK]; rfl
theorem ex_every {X : Cx} {ρ : En} {j : Nat} {pos p1 p2 : Pos} {r : Rule} (i : Nat) (k : Nat) {x y : Str} (hr : Room j X.A) (hm : r ∈ allRules) (h1 : ρ[i]? = some (.dat everyD)) (h2 : ρ[k]? = some (.dat (encR r))) (hN : X.N[i]? = some x := by rfl) (hv : Vis X.env.scope x := by first | exact Or.inl rfl | exact Or.inr (Or.inl rfl) | exact Or.inr (Or.inr rfl)) (hN2 : X.N[k]? = some y := by rfl) (hv2 : Vis X.env.scope y := by first | exact Or.inl rfl | exact Or.inr (Or.inl rfl) | exact Or.inr (Or.inr rfl))
    (hd : (x == ("__debug__" : Str)) = false := by decide) (hcd : (x == ("__classdict__" : Str)) = false := by decide) (hd2 : (y == ("__debug__" : Str)) = false := by decide) (hcd2 : (y == ("__classdict__" : Str)) = false := by decide) : EX X T (.Subscript (.Name x p1) (.Name y p2) pos) ρ ρ (knownD r) :=
  ex_dget hr (ex_var i h1 hN hv hd hcd) (ex_eq (ex_var k h2 hN2 hv2 hd2 hcd2) (key_tup r)) (every_at hm)
/-! ### _law_goes -/
theorem sc_lgoes : FnScope ["_law_every", "_law_rule", "_law_fact", "_law_word_here", "_law_what"] ["_law_every", "_law_rule", "_law_fact"] (defScope s_lgoes) := ⟨rfl, rfl, rfl, by decide +kernel, rfl, by decide +kernel, by decide +kernel⟩
def R_lgoes (ds : List D) (r : Rs) : Prop := ∃ (rule : Rule) (f : Fact), rule ∈ allRules ∧ FactU f ∧ ds = [everyD, encR rule, encF f] ∧ r = .dat (.bl (goes rule f))
theorem ok_lgoes (M : Mg mg) (F : Df K mg "_law_goes" s_lgoes ["_law_every", "_law_rule", "_law_fact"]) (F1 : Fn P w K mg base CX0 2 "_law_lost" (spP K T R_lost)) : Fn P w K mg base CX0 3 "_law_goes" (spP K T R_lgoes) :=
  F.fn fun f fd F => fn_pure F sc_lgoes (fun ds r ⟨_, _, _, _, e, _⟩ => by rw [e]; rfl) fun cdv A outer s H E hr ds r hR => by
    obtain ⟨rule, fact, hmem, hf, rfl, rfl⟩ := hR
    have nd := sc_lgoes.nd
    cases fact with
    | lw b p =>
      refine ess_cons (es_asg (ex_var 2 rfl) (gx_tup rfl (gxs_cons (gx_name 3 nd) (gxs_cons (gx_name 4 nd) gxs_nil))) ?_)
      refine ess_cons (es_ifP true (et_eq (et_or2 (et_cmp op_eq (ex_var 3 rfl) ex_str rr_eqT) (fun _ => et_cmp op_eq (ex_var 3 rfl) ex_str rr_eqT)) (by cases b <;> decide +kernel)) (fun _ => ?_) (fun h => nomatch h))
      refine ess_cons (es_ret (ex_cmp op_eq (ex_call F1 hr (ea_cons (ex_every 0 1 hr hmem rfl rfl) (ea_cons (ex_var 4 rfl) ea_nil)) ⟨rule, p, hmem, hf, rfl, rfl⟩) (ex_cmp op_eq (ex_var 3 rfl) ex_str rr_eqT) rr_eqB) ?_)
      rw [lwS_lost]
      rfl
    | mn b t =>
      refine ess_cons (es_asg (ex_var 2 rfl) (gx_tup rfl (gxs_cons (gx_name 3 nd) (gxs_cons (gx_name 4 nd) gxs_nil))) ?_)
      refine ess_cons (es_ifP false (et_eq (et_or2 (et_cmp op_eq (ex_var 3 rfl) ex_str rr_eqT) (fun _ => et_cmp op_eq (ex_var 3 rfl) ex_str rr_eqT)) (by cases b <;> decide +kernel)) (fun h => nomatch h) (fun _ => ess_nil ?_))
      refine ess_cons (es_ret (ex_cmp op_eq (ex_cmp op_in_seq (ex_var 4 rfl) (ex_var 1 rfl) (rr_inI (.inr rfl))) (ex_cmp op_eq (ex_var 3 rfl) ex_str rr_eqT) rr_eqB) ?_)
      rw [mnS_may]
      rfl
/-! ### _law_left -/
theorem sc_left : FnScope ["_law_every", "_law_facts", "_law_found", "_law_rule", "_law_fact"] ["_law_every", "_law_facts"] (defScope s_left) := ⟨rfl, rfl, rfl, by decide +kernel, rfl, by decide +kernel, by decide +kernel⟩
def R_left (ds : List D) (r : Rs) : Prop := ∃ (fs : List Fact), (∀ f ∈ fs, FactU f) ∧ fs.length ≤ 100 ∧ ds = [everyD, encB fs] ∧ r = .dat (.lst ((left fs).map encR))
theorem left_srtd (fs : List Fact) : SrtO.Srtd DL.lexLt (left fs) := List.Pairwise.sublist List.filter_sublist rules_srtd
theorem ok_left (M : Mg mg) (M3 : Mg3 mg) (F : Df K mg "_law_left" s_left ["_law_every", "_law_facts"]) (F1 : Fn P w K mg base CX0 3 "_law_goes" (spP K T R_lgoes)) : Fn P w K mg base CX0 4 "_law_left" (spP K T R_left) :=
  F.fn fun f fd F => fn_pure F sc_left (fun ds r ⟨_, _, _, e, _⟩ => by rw [e]; rfl) fun cdv A outer s H E hr ds r hR => by
    obtain ⟨fs, hfs, hfl, rfl, rfl⟩ := hR
    have nd := sc_left.nd
    refine ess_cons (es_setL 2 (en_lst ea_nil) (fun q hq => ?_) nd)
    refine ess_cons (es_for (I := fun k ρ' => ∃ x3, ρ' = [.dat everyD, .dat (encB fs), .own q (.lst (((allRules.take k).filter fun r => fs.all fun f => goes r f).map encR)), x3, .no]) PassesOwn.never rfl (ei_eq (ei_keys (ex_var 0 rfl)) (ds' := allRules.map encR) ?_) ⟨.no, rfl⟩ (fun i d ρ' hd hI => ?_) (fun ρ' hI => ?_))
    · rw [List.map_map]
      refine List.map_congr_left fun r _ => ?_
      exact (key_tup r).symm
    · obtain ⟨x3, rfl⟩ := hI
      rw [List.getElem?_map] at hd
      cases hq2 : allRules[i]? with
      | none => rw [hq2] at hd; cases hd
      | some rule =>
        rw [hq2] at hd
        have ed : d = encR rule := (Option.some.inj hd).symm
        subst ed
        have hm : rule ∈ allRules := List.mem_of_getElem? hq2
        refine ⟨_, _, gx_name 3 nd, ?_⟩
        have ek : (fs.filter fun f => !goes rule f).isEmpty = fs.all fun f => goes rule f := by
          rw [Bool.eq_iff_iff, List.isEmpty_iff, List.filter_eq_nil_iff, List.all_eq_true]
          refine forall_congr' fun f => forall_congr' fun _ => ?_
          cases goes rule f <;> simp
        have et : allRules.take (i + 1) = allRules.take i ++ [rule] := by rw [List.take_add_one, hq2]; rfl
        refine ess_cons (es_ifP (fs.all fun f => goes rule f) (et_eq (et_eqD (n := 3) (m := 1) hr (LcOk.val (own := [("_law_fact", 4)]) sc_left (lc_filt (zs := fs) (enc := encF) (fun f => !goes rule f) encF (ei_tup (ex_var 1 rfl)) (fun a _ s H C cl fp => gx_name 4 nd)
          (fun a ha s H C cl fp => et_not (et_val (ex_call F1 hr (ea_cons (ex_var 0 rfl) (ea_cons (ex_var 3 rfl) (ea_cons (ex_var 4 rfl) ea_nil))) ⟨rule, a, hm, hfs a ha, rfl, rfl⟩)))
          (fun a ha _ s H C cl fp => ex_var 4 rfl) (by rw [sizeLine_eq]; omega))) (ex_lst ea_nil) (flats_map flat_F _) rfl) (by rw [eqv_nil, List.isEmpty_map, ek])) (fun h => ?_) (fun h => ?_))
        · refine ess_cons (es_appendP 2 rfl (ex_var 3 rfl) ?_ (ess_nil (ess_nil ⟨.dat (encR rule), ?_⟩)))
          · rw [sizeLine_eq, List.length_map]
            have h1 := List.length_filter_le (fun r => fs.all fun f => goes r f) (allRules.take i)
            have h2 : (allRules.take i).length ≤ 63 := by rw [List.length_take, allRules_len]; omega
            omega
          · rw [et, List.filter_append, List.map_append, List.filter_cons, if_pos h]
            rfl
        · refine ess_nil (ess_nil ⟨.dat (encR rule), ?_⟩)
          rw [et, List.filter_append, List.filter_cons, if_neg (by rw [h]; decide)]
          simp
    · obtain ⟨x3, rfl⟩ := hI
      rw [List.length_map, List.take_length]
      refine ess_freeze 2 rfl (ess_cons (es_ret (ex_sorted hr M3.sorted (ex_var 2 rfl) (ks := left fs) (.inl fun ns hn => rules_ne ns (left_mem hn)) (left_srtd fs) (stb_self _)) rfl))
/-! ### _law_any_fact -/
theorem sc_any_fact : FnScope ["_law_every", "_law_pot_here", "_law_rule", "_law_honest", "_law_take", "_law_position"] ["_law_every", "_law_pot_here", "_law_rule"] (defScope s_any_fact) := ⟨rfl, rfl, rfl, by decide +kernel, rfl, by decide +kernel, by decide +kernel⟩
def factB (rule : Rule) (honest : Bool) (q : Pot) : Fact × Pot :=
  if (ladle q 4).1 = 0 then (.mn (decide (1 + (ladle (ladle q 4).2 6).1 ∈ rule) == honest) (1 + (ladle (ladle q 4).2 6).1), (ladle (ladle q 4).2 6).2)
  else (.lw (isLost rule (anyPos (ladle q 4).2).1 == honest) (anyPos (ladle q 4).2).1, (anyPos (ladle q 4).2).2)
def anyFact (rule : Rule) (q : Pot) : Fact × Pot := factB rule (decide (0 < (ladle q 12).1)) (ladle q 12).2
theorem factB_ok {rule : Rule} {b : Bool} {q : Pot} (h : PotOk q) : PotOk (factB rule b q).2 ∧ FactOk (factB rule b q).1 := by
  have h1 := ladle_ok (m := 4) (by decide) h
  unfold factB
  split
  · have g := ladle_rng (p := (ladle q 4).2) (show (0 : Int) < 6 by decide)
    exact ⟨ladle_ok (by decide) h1, by show 1 ≤ 1 + _; omega, by show 1 + (ladle (ladle q 4).2 6).1 ≤ 6; omega⟩
  · obtain ⟨a, b⟩ := anyPos_ok h1
    exact ⟨a, b⟩
theorem anyFact_ok {rule : Rule} {q : Pot} (h : PotOk q) : PotOk (anyFact rule q).2 ∧ FactOk (anyFact rule q).1 := factB_ok (ladle_ok (m := 12) (by decide) h)
theorem posOk_heaps {p : List Int} (h : PosOk p) : HeapsOk p := ⟨h.2.1, fun x hx => (h.2.2 x hx).1⟩
theorem factOk_U {f : Fact} (h : FactOk f) : FactU f := by
  cases f with
  | lw b p => exact posOk_heaps h
  | mn b t => trivial
def R_any_fact (p : Addr) (ds : List D) (c c' : Cl) (r : Rs) : Prop := ∃ (q : Pot) (rule : Rule), rule ∈ allRules ∧ ds = [everyD, .raw (.ref p), encR rule] ∧ PotOk q ∧ c = encP q ∧ c' = encP (anyFact rule q).2 ∧ r = .dat (encF (anyFact rule q).1)
theorem ok_any_fact (M : Mg mg) (F : Df K mg "_law_any_fact" s_any_fact ["_law_every", "_law_pot_here", "_law_rule"]) (F1 : Fn P w K mg base CX0 1 "_law_ladle" (spO K T R_ladle)) (F2 : Fn P w K mg base CX0 3 "_law_any_position" (spO K T R_any_position)) (F3 : Fn P w K mg base CX0 2 "_law_lost" (spP K T R_lost)) : Fn P w K mg base CX0 4 "_law_any_fact" (spO K T R_any_fact) :=
  F.fn fun f fd F => fn_own 1 F sc_any_fact (fun p ds c c' r ⟨q, rule, _, e, _⟩ => by rw [e]; exact ⟨rfl, rfl⟩) fun cdv A outer s H E hr p ds c c' r hR => by
    obtain ⟨q, rule, hmem, rfl, hq, rfl, rfl, rfl⟩ := hR
    have nd := sc_any_fact.nd
    have h0 := ladle_ok (m := 12) (by decide) hq
    unfold anyFact
    refine ess_cons (es_set 3 (ex_gt (ex_callO 1 F1 hr (ea_cons (ex_own 1 rfl) (ea_cons ex_int ea_nil)) rfl ⟨q, 12, rfl, by decide, by decide, hq, rfl, rfl, rfl⟩) ex_int) ?_ nd)
    generalize decide (0 < (ladle q 12).1) = honest
    generalize (ladle q 12).2 = q1 at h0
    have h1 := ladle_ok (m := 4) (by decide) h0
    refine ess_cons (es_if (k := decide ((ladle q1 4).1 = 0)) (et_eqI (ex_callO 1 F1 hr (ea_cons (ex_own 1 rfl) (ea_cons ex_int ea_nil)) rfl ⟨q1, 4, rfl, by decide, by decide, h0, rfl, rfl, rfl⟩) ex_int) (fun h => ?_) (fun h => ess_nil ?_))
    · have e : factB rule honest q1 = (.mn (decide (1 + (ladle (ladle q1 4).2 6).1 ∈ rule) == honest) (1 + (ladle (ladle q1 4).2 6).1), (ladle (ladle q1 4).2 6).2) := if_pos (of_decide_eq_true h)
      rw [e]
      refine ess_cons (es_set 4 (ex_add ex_int (ex_callO 1 F1 hr (ea_cons (ex_own 1 rfl) (ea_cons ex_int ea_nil)) rfl ⟨_, 6, rfl, by decide, by decide, h1, rfl, rfl, rfl⟩)) ?_ nd)
      refine ess_cons (es_ret (ex_tup (ea_cons (ex_if (d := .str (mnS (decide (1 + (ladle (ladle q1 4).2 6).1 ∈ rule) == honest))) (et_cmp op_eq (ex_cmp op_in_seq (ex_var 4 rfl) (ex_var 2 rfl) (rr_inI (.inr rfl))) (ex_var 3 rfl) rr_eqB) (fun h => ex_eq ex_str (by rw [h]; rfl)) (fun h => ex_eq ex_str (by rw [h]; rfl))) (ea_cons (ex_var 4 rfl) ea_nil))) ⟨rfl, 1, rfl⟩)
    · have e : factB rule honest q1 = (.lw (isLost rule (anyPos (ladle q1 4).2).1 == honest) (anyPos (ladle q1 4).2).1, (anyPos (ladle q1 4).2).2) := if_neg (of_decide_eq_false h)
      rw [e]
      obtain ⟨a1, a2⟩ := anyPos_ok h1
      refine ess_cons (es_set 5 (ex_callO 1 F2 hr (ea_cons (ex_own 1 rfl) ea_nil) rfl ⟨_, rfl, h1, rfl, rfl, rfl⟩) ?_ nd)
      refine ess_cons (es_ret (ex_tup (ea_cons (ex_if (d := .str (lwS (isLost rule (anyPos (ladle q1 4).2).1 == honest))) (et_cmp op_eq (ex_call F3 hr (ea_cons (ex_every 0 2 hr hmem rfl rfl) (ea_cons (ex_var 5 rfl) ea_nil)) ⟨rule, _, hmem, posOk_heaps a2, rfl, rfl⟩) (ex_var 3 rfl) rr_eqB) (fun h => ex_eq ex_str (by rw [h]; rfl)) (fun h => ex_eq ex_str (by rw [h]; rfl))) (ea_cons (ex_var 5 rfl) ea_nil))) ⟨rfl, 1, rfl⟩)
/-! ### _law_any_book -/
theorem sc_any_book : FnScope ["_law_every", "_law_pot_here", "_law_most", "_law_rule", "_law_turn"] ["_law_every", "_law_pot_here", "_law_most"] (defScope s_any_book) := ⟨rfl, rfl, rfl, by decide +kernel, rfl, by decide +kernel, by decide +kernel⟩
def factsN (rule : Rule) (q : Pot) : Nat → List Fact × Pot
  | 0 => ([], q)
  | n + 1 => ((factsN rule q n).1 ++ [(anyFact rule (factsN rule q n).2).1], (anyFact rule (factsN rule q n).2).2)
theorem factsN_ok {rule : Rule} {q : Pot} (h : PotOk q) : ∀ n : Nat, PotOk (factsN rule q n).2 ∧ (factsN rule q n).1.length = n ∧ ∀ f ∈ (factsN rule q n).1, FactOk f
  | 0 => ⟨h, rfl, fun x hx => nomatch hx⟩
  | n + 1 => by
    obtain ⟨a1, a2, a3⟩ := factsN_ok (rule := rule) h n
    obtain ⟨b1, b2⟩ := anyFact_ok (rule := rule) a1
    refine ⟨b1, ?_, fun x hx => ?_⟩
    · show ((factsN rule q n).1 ++ [_]).length = _
      rw [List.length_append, a2]
      rfl
    · rcases List.mem_append.mp hx with hx | hx
      · exact a3 x hx
      · rw [List.mem_singleton.mp hx]
        exact b2
def anyBook (q : Pot) (most : Int) : List Fact × Pot := factsN (anyRule q) (ladle (ladle q 63).2 (most + 1)).2 (ladle (ladle q 63).2 (most + 1)).1.toNat
theorem anyBook_ok {q : Pot} (h : PotOk q) {most : Int} (hm : 0 ≤ most) : PotOk (anyBook q most).2 ∧ ((anyBook q most).1.length : Int) ≤ most ∧ ∀ f ∈ (anyBook q most).1, FactOk f := by
  have h1 := ladle_ok (m := 63) (by decide) h
  have g := ladle_rng (p := (ladle q 63).2) (show 0 < most + 1 by omega)
  obtain ⟨a1, a2, a3⟩ := factsN_ok (rule := anyRule q) (ladle_ok (m := most + 1) (by omega) h1) (ladle (ladle q 63).2 (most + 1)).1.toNat
  exact ⟨a1, by show ((factsN _ _ _).1.length : Int) ≤ most; omega, a3⟩
def R_any_book (p : Addr) (ds : List D) (c c' : Cl) (r : Rs) : Prop := ∃ (q : Pot) (most : Int), 0 ≤ most ∧ most ≤ 60 ∧ ds = [everyD, .raw (.ref p), .int most] ∧ PotOk q ∧ c = encP q ∧ c' = encP (anyBook q most).2 ∧ r = .dat (encB (anyBook q most).1)
theorem ok_any_book (M : Mg mg) (F : Df K mg "_law_any_book" s_any_book ["_law_every", "_law_pot_here", "_law_most"]) (F1 : Fn P w K mg base CX0 1 "_law_ladle" (spO K T R_ladle)) (F2 : Fn P w K mg base CX0 3 "_law_any_rule" (spO K T R_any_rule)) (F3 : Fn P w K mg base CX0 4 "_law_any_fact" (spO K T R_any_fact)) : Fn P w K mg base CX0 5 "_law_any_book" (spO K T R_any_book) :=
  F.fn fun f fd F => fn_own 1 F sc_any_book (fun p ds c c' r ⟨q, most, _, _, e, _⟩ => by rw [e]; exact ⟨rfl, rfl⟩) fun cdv A outer s H E hr p ds c c' r hR => by
    obtain ⟨q, most, hm0, hm1, rfl, hq, rfl, rfl, rfl⟩ := hR
    have nd := sc_any_book.nd
    have h1 := ladle_ok (m := 63) (by decide) hq
    have g := ladle_rng (p := (ladle q 63).2) (show 0 < most + 1 by omega)
    have h2 := ladle_ok (m := most + 1) (by omega) h1
    have hmem := anyRule_mem q
    refine ess_cons (es_set 3 (ex_callO 1 F2 hr (ea_cons (ex_own 1 rfl) ea_nil) rfl ⟨q, rfl, hq, rfl, rfl, rfl⟩) ?_ nd)
    refine ess_cons (es_ret (ex_tupOf (xs := (anyBook q most).1.map encF) M.tuple (LcOk.val (own := [("_law_turn", 4)]) sc_any_book
      (lc_ok (I := fun k ρ' acc => ρ' = [.dat everyD, .own p (encP (factsN (anyRule q) (ladle (ladle q 63).2 (most + 1)).2 k).2), .dat (.int most), .dat (encR (anyRule q)), .no] ∧ acc = (factsN (anyRule q) (ladle (ladle q 63).2 (most + 1)).2 k).1.map encF)
        (ei_range1 M.range (ea_cons (ex_callO 1 F1 hr (ea_cons (ex_own 1 rfl) (ea_cons (ex_add (ex_var 2 rfl) ex_int) ea_nil)) rfl ⟨(ladle q 63).2, most + 1, rfl, by omega, by omega, h1, rfl, rfl, rfl⟩) ea_nil) (by omega)) ⟨rfl, rfl⟩ (fun i d ρ' acc hd hI => ?_) (ρ2 := [.dat everyD, .own p (encP (anyBook q most).2), .dat (.int most), .dat (encR (anyRule q)), .no]) (fun ρ' acc hI => ?_)))) ⟨rfl, 1, rfl⟩)
    · obtain ⟨rfl, rfl⟩ := hI
      obtain ⟨a1, a2, a3⟩ := factsN_ok (rule := anyRule q) h2 i
      have hi : i < 61 := by
        have := (List.getElem?_eq_some_iff.mp hd).1
        rw [List.length_map, List.length_range] at this
        omega
      refine ⟨_, _, _, true, ?_, rfl, fun s H C cl fp => gx_name 4 nd, fun s H C cl fp => ets_nil, fun _ => ⟨_, encF (anyFact (anyRule q) (factsN (anyRule q) (ladle (ladle q 63).2 (most + 1)).2 i).2).1, fun s H C cl fp => ex_callO 1 F3 hr (ea_cons (ex_var 0 rfl) (ea_cons (ex_own 1 rfl) (ea_cons (ex_var 3 rfl) ea_nil))) rfl ⟨_, anyRule q, hmem, rfl, a1, rfl, rfl, rfl⟩, ?_, rfl, ?_⟩, (fun z => nomatch z)⟩
      · decide
      · rw [List.length_map, a2, sizeLine_eq]
        omega
      · show _ = ((factsN (anyRule q) (ladle (ladle q 63).2 (most + 1)).2 i).1 ++ [_]).map encF
        rw [List.map_append]
        rfl
    · obtain ⟨rfl, rfl⟩ := hI
      rw [List.length_map, List.length_range]
      exact ⟨rfl, rfl⟩
end
end Pf
set_option Elab.async false
set_option linter.all false
set_option maxRecDepth 100000
set_option maxHeartbeats 4000000
namespace Pf
open PySem PySem.Spec PyProof.Rows L2 DL

abbrev s_behind : Stmt := topS 64
section
variable {P : Program} {w : World} {K : PySem.W.Frag} {mg : Str → Option Value} {base : Heap} {T : Tb}
/-! ### _law_behind -/
theorem sc_behind : FnScope ["_law_position", "_law_index", "_law_take", "_law_left_here"] ["_law_position", "_law_index", "_law_take"] (defScope s_behind) := ⟨rfl, rfl, rfl, by decide +kernel, rfl, by decide +kernel, by decide +kernel⟩
theorem ok_behind (M : Mg mg) (F : Df K mg "_law_behind" s_behind ["_law_position", "_law_index", "_law_take"]) : Fn P w K mg base CX0 1 "_law_behind" (spP K T R_behind_move) :=
  F.fn fun f fd F => fn_pure F sc_behind (fun ds r ⟨p, i, t, _, _, q, _⟩ => by rw [q]; rfl) fun cdv A outer s H E hr ds r hR => by
    obtain ⟨p, i, t, hi, hl, rfl, rfl⟩ := hR
    have nd := sc_behind.nd
    have e1 : cut (p.map D.int) none (some ((i : Nat) : Int)) = (p.take i).map D.int := by rw [cut_map, cut_upto (Nat.le_of_lt hi)]
    have e2 : cut (p.map D.int) (some ((i : Nat) + 1 : Int)) none = (p.drop (i + 1)).map D.int := by
      have : ((i : Nat) : Int) + 1 = ((i + 1 : Nat) : Int) := by omega
      rw [cut_map, this, cut_from (by omega)]
    refine ess_cons (es_set 3 (ex_sub (ex_atT (ex_var 0 rfl) (ex_var 1 rfl) (atI_nat (v := D.int (p.getD i 0)) ?_)) (ex_var 2 rfl)) ?_ nd)
    · rw [List.getElem?_map, List.getElem?_eq_getElem hi, List.getD_eq_getElem?_getD, List.getElem?_eq_getElem hi]
      rfl
    · refine ess_cons (es_ret (ex_catT (ex_catT (ex_sliceT (ex_var 0 rfl) eo_none (eo_some (ex_var 1 rfl))) (ex_tup (ea_cons (ex_var 3 rfl) ea_nil)) ?_) (ex_sliceT (ex_var 0 rfl) (eo_some (ex_add (ex_var 1 rfl) ex_int)) eo_none) ?_) ?_)
      · rw [e1, sizeLine_eq, List.length_map, List.length_take]
        simp only [List.length_cons, List.length_nil]
        omega
      · rw [e1, e2, sizeLine_eq]
        simp only [List.length_append, List.length_map, List.length_take, List.length_drop, List.length_cons, List.length_nil]
        omega
      · rw [e1, e2]
        show Rs.dat _ = Rs.dat _
        unfold encR behindP
        rw [List.map_append, List.map_append]
        rfl
end

abbrev s_rows : Stmt := topS 65
section
variable {P : Program} {w : World} {K : PySem.W.Frag} {mg : Str → Option Value} {base : Heap} {T : Tb}
theorem takes6 {h : Int} (h0 : 0 ≤ h) : (((List.range 6).map fun k => 1 + ((k : Nat) : Int)).filter fun t => decide (t ≤ h)) = takesAt h := by
  by_cases h6 : h < 6
  · obtain ⟨n, rfl⟩ : ∃ n : Nat, h = n := ⟨h.toNat, by omega⟩
    have : n = 0 ∨ n = 1 ∨ n = 2 ∨ n = 3 ∨ n = 4 ∨ n = 5 := by omega
    rcases this with rfl | rfl | rfl | rfl | rfl | rfl <;> decide +kernel
  · have e : takesAt h = (List.range 6).map fun k => 1 + ((k : Nat) : Int) := by
      unfold takesAt
      rw [if_neg h6]
      rfl
    rw [e]
    refine List.filter_eq_self.mpr fun t ht => ?_
    obtain ⟨k, hk, rfl⟩ := List.mem_map.mp ht
    have := List.mem_range.mp hk
    exact decide_eq_true (by omega)
/-! ### _law_rows -/
theorem sc_rows : FnScope ["_law_every", "_law_left_here", "_law_position", "_law_found", "_law_index", "_law_heap", "_law_take", "_law_there", "_law_some", "_law_rule"] ["_law_every", "_law_left_here", "_law_position"] (defScope s_rows) := ⟨rfl, rfl, rfl, by decide +kernel, rfl, by decide +kernel, by decide +kernel⟩
def R_rows (ds : List D) (r : Rs) : Prop := ∃ (rs : List Rule) (p : List Int), (∀ r ∈ rs, r ∈ allRules) ∧ rs.length ≤ 63 ∧ HeapsOk p ∧ ds = [everyD, .lst (rs.map encR), encR p] ∧ r = .new ((votes rs p).map encV)
theorem ok_rows (M : Mg mg) (M2 : Mg2 mg) (F : Df K mg "_law_rows" s_rows ["_law_every", "_law_left_here", "_law_position"]) (F1 : Fn P w K mg base CX0 1 "_law_behind" (spP K T R_behind_move)) (F2 : Fn P w K mg base CX0 2 "_law_lost" (spP K T R_lost)) : Fn P w K mg base CX0 3 "_law_rows" (spP K T R_rows) :=
  F.fn fun f fd F => fn_pure F sc_rows (fun ds r ⟨p, i, _, _, _, q, _⟩ => by rw [q]; rfl) fun cdv A outer s H E hr ds r hR => by
    obtain ⟨rs, p, hrs, hrl, hp, rfl, rfl⟩ := hR
    have nd := sc_rows.nd
    refine ess_cons (es_setL 3 (en_lst ea_nil) (fun q hq => ?_) nd)
    refine ess_cons (es_for (I := fun k ρ' => ∃ x4 x5 x6 x7 x8, ρ' = [.dat everyD, .dat (.lst (rs.map encR)), .dat (encR p), .own q (.lst ((votesTo rs p k).map encV)), x4, x5, x6, x7, x8, .no]) PassesOwn.never rfl (ei_enumT M2.enumerate (ex_var 2 rfl)) ⟨.no, .no, .no, .no, .no, rfl⟩ (fun i d ρ' hd hI => ?_) (fun ρ' hI => ?_))
    · obtain ⟨x4, x5, x6, x7, x8, rfl⟩ := hI
      unfold enumD at hd
      rw [List.getElem?_mapIdx, List.getElem?_map] at hd
      cases hq2 : p[i]? with
      | none => rw [hq2] at hd; cases hd
      | some h =>
        rw [hq2] at hd
        have ed : d = .tup [.int (i : Nat), .int h] := (Option.some.inj hd).symm
        subst ed
        have hil : i < p.length := (List.getElem?_eq_some_iff.mp hq2).1
        have hg : p.getD i 0 = h := by rw [List.getD_eq_getElem?_getD, hq2]; rfl
        have hh : 0 ≤ h := hp.2 h (List.mem_of_getElem? hq2)
        refine ⟨_, _, gx_tup rfl (gxs_cons (gx_name 4 nd) (gxs_cons (gx_name 5 nd) gxs_nil)), ess_drop 6 ?_⟩
        refine ess_cons (es_for (I := fun k ρ' => ∃ x6 x7 x8, ρ' = [.dat everyD, .dat (.lst (rs.map encR)), .dat (encR p), .own q (.lst ((votesTo rs p i ++ (votesAt rs p i).take k).map encV)), .dat (.int (i : Nat)), .dat (.int h), x6, x7, x8, .no]) PassesOwn.never rfl
          (ei_eq (ei_list (LcOk.val (own := [("_law_take", 6)]) sc_rows (lc_filt (zs := (List.range 6).map fun k => 1 + ((k : Nat) : Int)) (enc := D.int) (fun t => decide (t ≤ h)) D.int (ei_eq (ei_range2 M.range (ea_cons ex_int (ea_cons ex_int ea_nil)) (by decide)) (by rw [List.map_map]; rfl)) (fun a _ s H C cl fp => gx_name 6 nd)
            (fun a ha s H C cl fp => et_le (ex_var 6 rfl) (ex_var 5 rfl)) (fun a ha _ s H C cl fp => ex_var 6 rfl) (by rw [sizeLine_eq, List.length_map, List.length_range]; decide)))) (ds' := (takesAt h).map D.int) (by rw [takes6 hh])) ⟨.no, x7, x8, ?_⟩ (fun k d ρ' hd hI => ?_) (fun ρ' hI => ?_))
        · rw [List.take_zero, List.append_nil]
          rfl
        · obtain ⟨y6, y7, y8, rfl⟩ := hI
          rw [List.getElem?_map] at hd
          cases hk : (takesAt h)[k]? with
          | none => rw [hk] at hd; cases hd
          | some t =>
            rw [hk] at hd
            have ed : d = .int t := (Option.some.inj hd).symm
            subst ed
            obtain ⟨t1, t2, t3⟩ := takesAt_get hk
            refine ⟨_, _, gx_name 6 nd, ?_⟩
            refine ess_cons (es_set 7 (ex_call F1 hr (ea_cons (ex_var 2 rfl) (ea_cons (ex_var 4 rfl) (ea_cons (ex_var 6 rfl) ea_nil))) ⟨p, i, t, hil, by have := hp.1; omega, rfl, rfl⟩) ?_ nd)
            refine ess_cons (LcOk.asg (xs := (rs.filter fun r => wins r p i t).map encR) (own := [("_law_rule", 9)]) 8 sc_rows (lc_filt (zs := rs) (enc := encR) (fun r => wins r p i t) encR (ei_list (ex_var 1 rfl)) (fun a _ s H C cl fp => gx_name 9 nd)
              (fun a ha s H C cl fp => et_and2 (et_cmp op_in_seq (ex_var 6 rfl) (ex_var 9 rfl) (rr_inI (.inr rfl))) (fun _ => et_val (ex_call F2 hr (ea_cons (ex_every 0 9 hr (hrs a ha) rfl rfl) (ea_cons (ex_var 7 rfl) ea_nil)) ⟨a, _, hrs a ha, behindP_ok hp hil (by rw [hg]; exact t3), rfl, rfl⟩)))
              (fun a ha _ s H C cl fp => ex_var 9 rfl) (by rw [sizeLine_eq]; omega)) ?_)
            refine ess_cons (es_appendP 3 rfl (ex_tup (ea_cons (ex_tup (ea_cons (ex_var 4 rfl) (ea_cons (ex_var 6 rfl) ea_nil))) (ea_cons (ex_lenLM M.len (ex_var 8 rfl)) ea_nil))) ?_ (ess_nil ⟨.dat (.int t), .dat (encR (behindP p i t)), .dat (.lst ((rs.filter fun r => wins r p i t).map encR)), ?_⟩))
            · rw [sizeLine_eq, List.length_map, List.length_append, List.length_take]
              have := votesTo_len rs p i
              have := votesAt_len rs p i
              have := hp.1
              omega
            · have ek : (votesAt rs p i)[k]? = some (((i : Int), t), (((rs.filter fun r => wins r p i t).length : Nat) : Int)) := by
                unfold votesAt
                rw [List.getElem?_map, hg, hk]
                rfl
              rw [List.take_add_one, ek, ← List.append_assoc, List.map_append (l₁ := _ ++ _)]
              rfl
        · obtain ⟨y6, y7, y8, rfl⟩ := hI
          refine ess_nil ⟨.dat (.int (i : Nat)), .dat (.int h), y6, y7, y8, ?_⟩
          rw [List.length_map, votesTo_succ, List.take_of_length_le (by unfold votesAt; rw [List.length_map, hg]; exact Nat.le_refl _)]
    · obtain ⟨x4, x5, x6, x7, x8, rfl⟩ := hI
      refine ess_cons (es_retOwn 3 rfl ?_)
      have e : (enumD (p.map D.int)).length = p.length := by simp [enumD]
      rw [e]
      rfl
end
end Pf
set_option Elab.async false
set_option linter.all false
set_option maxRecDepth 100000
set_option maxHeartbeats 4000000
namespace Pf
open PySem PySem.Spec PyProof.Rows L2 DL HX
abbrev s_names : Stmt := topS 62
abbrev s_word : Stmt := topS 63
def errNames : List Str := ["InvalidRule", "InvalidPosition", "InvalidHeap", "InvalidBook", "InvalidFact", "InvalidTable", "InvalidNumber", "InvalidTake", "InvalidIndex", "InvalidWord", "Impossible", "Unlike", "NothingToUndo", "TooMany", "InvalidText", "Failed"]
/-- what isinstance says of an error of the class x -/
def bitsOf (x : Str) : List Bool := (errNames.map fun y => decide (y = x)) ++ [true]
def labelsS : Str := "rule position heap book fact table number take index word none unlike undo many text failed value"
def labels : List Str := Txt.split labelsS " "
theorem labels_len : labels.length = 17 := by decide +kernel
def wordsOf (x : Str) (k : Nat) : List Str := (((labels.zip (bitsOf x)).take k).filter fun z => z.2).map fun z => z.1
def wordOf (x : Str) : Str := Txt.join " " (wordsOf x 17)
theorem sub_sum {l m : List Nat} (h : l.Sublist m) : l.sum ≤ m.sum := by
  induction h with
  | slnil => exact Nat.le_refl _
  | cons a _ ih => rw [List.sum_cons]; omega
  | cons_cons a _ ih => rw [List.sum_cons, List.sum_cons]; omega
/-- an error's class, as the law's helper asks it -/
structure ErrC (K : PySem.W.Frag) (mg : Str → Option Value) (x : Str) (D0 : Addr) : Prop where
  e : ExcC K D0
  k : ∀ y ∈ errNames, ∃ C, mg y = some (.ref C) ∧ PySem.W.kitOne K (.ref D0) (.ref C) = some (decide (y = x))
  v : PySem.W.kitOne K (.ref D0) (.type "ValueError") = some true
structure Mg4 (mg : Str → Option Value) : Prop where
  zip : mg "zip" = none
  value : mg "ValueError" = none
section
variable {P : Program} {w : World} {K : PySem.W.Frag} {mg : Str → Option Value} {base : Heap} {T : Tb}
/-! ### _law_names -/
theorem sc_names : FnScope ["_law_error", "_law_some", "_law_labels", "_law_label", "_law_good"] ["_law_error"] (defScope s_names) := ⟨rfl, rfl, rfl, by decide +kernel, rfl, by decide +kernel, by decide +kernel⟩
def spN (K : PySem.W.Frag) (T : Tb) (nm : Str) (a : Addr) : Sp := fun vs H Q _ => ∃ (B : Bs) (G : Hp), Sta K T B G [] [] H ∧ vs = [.ref a] ∧ ∀ G' H', Same G G' → Sta K T B G' [] [] H' → Q (.str nm) H'
theorem ex_isN {X : Cx} {ρ : En} {a D0 : Addr} {oe : Obj} {x y : Str} {p p1 p2 pos : Pos} (hm : X.mg "isinstance" = none) (E : ErrC X.K X.mg x D0) (hz : Zc (.ref D0) none oe) (hf : ∃ vs, oe.data = .fields vs) (hp : (a, oe) ∈ X.pn) (h0 : ρ[0]? = some (.dat (.raw (.ref a)))) (hy : y ∈ errNames) (hN : X.N[0]? = some ("_law_error" : Str)) (hv : Vis X.env.scope ("_law_error" : Str)) (hg : Gl X "isinstance") (hg2 : Gl X y) (hdb : (y == ("__debug__" : Str)) = false)
    (h1 : starEach [.Name "_law_error" p1, .Name y p2] X.env = (false, eval (.Name "_law_error" p1) X.env) :: starEach [.Name y p2] X.env) (h2 : starEach [.Name y p2] X.env = (false, eval (.Name y p2) X.env) :: starEach [] X.env) (hpl : (backTo pos (starEach [.Name y p2] X.env)).any (·.1) = false) :
    EX X T (.Call (.Name "isinstance" p) [.Name "_law_error" p1, .Name y p2] [] pos) ρ ρ (.bl (decide (y = x))) := by
  obtain ⟨C, hC, hk⟩ := E.k y hy
  exact ex_callB (call_isZ E.e hz hf hp) hm (by decide +kernel) (ea_cons (ex_var 0 h0 hN hv) (ea_cons (ex_glob (v := .ref C) hC rfl rfl hg2 hdb) ea_nil h2) h1) (rc_isE (fun u hu => hu) hk) hg (by decide) (by decide) h1 hpl
theorem ex_isV {X : Cx} {ρ : En} {a D0 : Addr} {oe : Obj} {x : Str} {p p1 p2 pos : Pos} (hm : X.mg "isinstance" = none) (hmv : X.mg "ValueError" = none) (E : ErrC X.K X.mg x D0) (hz : Zc (.ref D0) none oe) (hf : ∃ vs, oe.data = .fields vs) (hp : (a, oe) ∈ X.pn) (h0 : ρ[0]? = some (.dat (.raw (.ref a)))) (hN : X.N[0]? = some ("_law_error" : Str)) (hv : Vis X.env.scope ("_law_error" : Str)) (hg : Gl X "isinstance") (hg2 : Gl X "ValueError")
    (h1 : starEach [.Name "_law_error" p1, .Name "ValueError" p2] X.env = (false, eval (.Name "_law_error" p1) X.env) :: starEach [.Name "ValueError" p2] X.env) (h2 : starEach [.Name "ValueError" p2] X.env = (false, eval (.Name "ValueError" p2) X.env) :: starEach [] X.env) (hpl : (backTo pos (starEach [.Name "ValueError" p2] X.env)).any (·.1) = false) :
    EX X T (.Call (.Name "isinstance" p) [.Name "_law_error" p1, .Name "ValueError" p2] [] pos) ρ ρ (.bl true) :=
  ex_callB (call_isZ E.e hz hf hp) hm (by decide +kernel) (ea_cons (ex_var 0 h0 hN hv) (ea_cons (ex_ty (n := "ValueError") hmv (by decide +kernel) hg2) ea_nil h2) h1) (rc_isE (cv := .type "ValueError") (fun u hu => hu) E.v) hg (by decide) (by decide) h1 hpl
theorem ok_names {x : Str} {D0 : Addr} (M : Mg mg) (M4 : Mg4 mg) (Er : ErrC K mg x D0) {f : Addr} {fd : FuncData} (F : L2.Fun K "_law_names" "_law_names" s_names f fd) : FnZ P w K mg base CX0 1 f fd ["_law_error"] D0 (spN K T (wordOf x)) := by
  obtain ⟨oc, od, kV, doc, pm, an, cdv, ct, osl, rfl, lk, hcd⟩ := F.ex
  refine fn_ofZ lk hcd sc_names (fun a vs H Q E h => by obtain ⟨_, _, _, e, _⟩ := h; rw [e]; rfl) (fun A outer s H vs Q E p hot hz hr hsp => ?_)
  obtain ⟨B, G, S, rfl, q⟩ := hsp
  obtain ⟨a, oe⟩ := p
  have nd := sc_names.nd
  have hf : ∃ vs, oe.data = .fields vs := by
    obtain ⟨_, vs, h, _⟩ := hot
    exact ⟨vs, h⟩
  have hm : (a, oe) ∈ (L2H.cxH CX0 P w K mg base ["_law_error", "_law_some", "_law_labels", "_law_label", "_law_good"] "_law_names" (defScope s_names) f cdv A outer s H E (a, oe)).pn := List.mem_cons_self
  have hot' : L2H.HotC (L2H.cxH CX0 P w K mg base ["_law_error", "_law_some", "_law_labels", "_law_label", "_law_good"] "_law_names" (defScope s_names) f cdv A outer s H E (a, oe)) := ⟨(a, oe), hot, hm⟩
  have isN : ∀ {ρ : En} {y : Str} {p p1 p2 pos : Pos}, ρ[0]? = some (.dat (.raw (.ref a))) → y ∈ errNames → Gl (L2H.cxH CX0 P w K mg base ["_law_error", "_law_some", "_law_labels", "_law_label", "_law_good"] "_law_names" (defScope s_names) f cdv A outer s H E (a, oe)) y → (y == ("__debug__" : Str)) = false →
      EX (L2H.cxH CX0 P w K mg base ["_law_error", "_law_some", "_law_labels", "_law_label", "_law_good"] "_law_names" (defScope s_names) f cdv A outer s H E (a, oe)) T (.Call (.Name "isinstance" p) [.Name "_law_error" p1, .Name y p2] [] pos) ρ ρ (.bl (decide (y = x))) :=
    fun h0 hy hg2 hdb => ex_isN M.isinstance Er hz hf hm h0 hy rfl (.inl rfl) rfl hg2 hdb rfl rfl rfl
  have isV : ∀ {ρ : En} {p p1 p2 pos : Pos}, ρ[0]? = some (.dat (.raw (.ref a))) →
      EX (L2H.cxH CX0 P w K mg base ["_law_error", "_law_some", "_law_labels", "_law_label", "_law_good"] "_law_names" (defScope s_names) f cdv A outer s H E (a, oe)) T (.Call (.Name "isinstance" p) [.Name "_law_error" p1, .Name "ValueError" p2] [] pos) ρ ρ (.bl true) :=
    fun h0 => ex_isV M.isinstance M4.value Er hz hf hm h0 rfl (.inl rfl) rfl rfl rfl rfl rfl
  have body : ESs (L2H.cxH CX0 P w K mg base ["_law_error", "_law_some", "_law_labels", "_law_label", "_law_good"] "_law_names" (defScope s_names) f cdv A outer s H E (a, oe)) T W0 (defBody s_names) (en0 ["_law_error", "_law_some", "_law_labels", "_law_label", "_law_good"] 1 [.raw (.ref a)]) (Ret (.dat (.str (wordOf x)))) := by
    refine ess_cons (es_set 1 (ex_lst (ea_cons (isN rfl (by decide) rfl (by decide)) (ea_cons (isN rfl (by decide) rfl (by decide)) (ea_cons (isN rfl (by decide) rfl (by decide)) ea_nil)))) ?_ nd)
    refine ess_cons (es_set 1 (ex_catL (ex_var 1 rfl) (ex_lst (ea_cons (isN rfl (by decide) rfl (by decide)) (ea_cons (isN rfl (by decide) rfl (by decide)) (ea_cons (isN rfl (by decide) rfl (by decide)) ea_nil)))) (by rw [sizeLine_eq]; exact Nat.le_of_ble_eq_true rfl)) ?_ nd)
    refine ess_cons (es_set 1 (ex_catL (ex_var 1 rfl) (ex_lst (ea_cons (isN rfl (by decide) rfl (by decide)) (ea_cons (isN rfl (by decide) rfl (by decide)) (ea_cons (isN rfl (by decide) rfl (by decide)) ea_nil)))) (by rw [sizeLine_eq]; exact Nat.le_of_ble_eq_true rfl)) ?_ nd)
    refine ess_cons (es_set 1 (ex_catL (ex_var 1 rfl) (ex_lst (ea_cons (isN rfl (by decide) rfl (by decide)) (ea_cons (isN rfl (by decide) rfl (by decide)) (ea_cons (isN rfl (by decide) rfl (by decide)) ea_nil)))) (by rw [sizeLine_eq]; exact Nat.le_of_ble_eq_true rfl)) ?_ nd)
    refine ess_cons (es_set 1 (ex_catL (ex_var 1 rfl) (ex_lst (ea_cons (isN rfl (by decide) rfl (by decide)) (ea_cons (isN rfl (by decide) rfl (by decide)) (ea_cons (isN rfl (by decide) rfl (by decide)) ea_nil)))) (by rw [sizeLine_eq]; exact Nat.le_of_ble_eq_true rfl)) ?_ nd)
    refine ess_cons (es_set 1 (ex_catL (ex_var 1 rfl) (ex_lst (ea_cons (isN rfl (by decide) rfl (by decide)) (ea_cons (isV rfl) ea_nil))) (by rw [sizeLine_eq]; exact Nat.le_of_ble_eq_true rfl)) ?_ nd)
    refine ess_cons (es_set 2 ex_str ?_ nd)
    have hl : (labels.map D.str).length = ((bitsOf x).map D.bl).length := by rw [List.length_map, List.length_map, labels_len]; rfl
    refine ess_cons (es_ret (ex_join (zs := wordsOf x 17) ex_str (EN.ex (LcZ.en (own := [("_law_label", 3), ("_law_good", 4)]) (xs := (wordsOf x 17).map D.str)
      (lc_okZ (I := fun k ρ' acc => ρ' = [.dat (.raw (.ref a)), .dat (.lst ((bitsOf x).map D.bl)), .dat (.str labelsS), .no, .no] ∧ acc = (wordsOf x k).map D.str)
        (ei_zipZ (xs := labels.map D.str) (ys := (bitsOf x).map D.bl) M4.zip (ex_split (ex_var 2 rfl) ex_str (by decide +kernel) (by rw [sizeLine_eq]; decide +kernel)) (ex_var 1 rfl) hl) ⟨rfl, rfl⟩ (fun i d ρ' acc hd hI => ?_) (ρ2 := [.dat (.raw (.ref a)), .dat (.lst ((bitsOf x).map D.bl)), .dat (.str labelsS), .no, .no]) (fun ρ' acc hI => ?_)) hot' nd (blkOk_by (show blkC ["_law_error", "_law_some", "_law_labels", "_law_label", "_law_good"] (defScope s_names) _ _ = true by decide +kernel)))) ?_) ?_)
    · obtain ⟨rfl, rfl⟩ := hI
      unfold zipD at hd
      rw [List.getElem?_zipWith, List.getElem?_map, List.getElem?_map] at hd
      cases q1 : labels[i]? with
      | none => rw [q1] at hd; cases hd
      | some l =>
        cases q2 : (bitsOf x)[i]? with
        | none => rw [q1, q2] at hd; cases hd
        | some b =>
          rw [q1, q2] at hd
          have ed : d = .tup [.str l, .bl b] := (Option.some.inj hd).symm
          subst ed
          have qz : (labels.zip (bitsOf x))[i]? = some (l, b) := by rw [List.getElem?_zip_eq_some]; exact ⟨q1, q2⟩
          have tk : (labels.zip (bitsOf x)).take (i + 1) = (labels.zip (bitsOf x)).take i ++ [(l, b)] := by rw [List.take_add_one, qz]; rfl
          refine ⟨_, _, _, b, ?_, rfl, fun s H C cl fp hotB => gx_tupZ hotB (gxs_cons (gx_name 3 nd) (gxs_cons (gx_name 4 nd) gxs_nil)), fun s H C cl fp => ets_one (et_val (ex_var 4 rfl)), fun hb => ⟨_, .str l, fun s H C cl fp => ex_var 3 rfl, ?_, rfl, ?_⟩, fun hb => ⟨rfl, ?_⟩⟩
          · decide
          · unfold wordsOf
            rw [List.length_map, List.length_map, sizeLine_eq]
            have h1 := List.length_filter_le (fun z : Str × Bool => z.2) ((labels.zip (bitsOf x)).take i)
            have h2 : ((labels.zip (bitsOf x)).take i).length ≤ 17 := by rw [List.length_take, List.length_zip, labels_len]; omega
            omega
          · unfold wordsOf
            rw [tk, List.filter_append, List.map_append, List.map_append, List.filter_cons, if_pos (show ((l, b) : Str × Bool).2 = true from hb)]
            rfl
          · unfold wordsOf
            rw [tk, List.filter_append, List.map_append, List.map_append, List.filter_cons, if_neg (show ¬ ((l, b) : Str × Bool).2 = true by rw [show ((l, b) : Str × Bool).2 = false from hb]; decide)]
            simp
    · obtain ⟨rfl, rfl⟩ := hI
      refine ⟨rfl, ?_⟩
      have : (zipD (labels.map D.str) ((bitsOf x).map D.bl)).length = 17 := by
        unfold zipD
        rw [List.length_zipWith, List.length_map, List.length_map, labels_len]
        rfl
      rw [this]
    · have h1 : (wordsOf x 17).Sublist labels := by
        unfold wordsOf
        have a1 : ((labels.zip (bitsOf x)).take 17).Sublist (labels.zip (bitsOf x)) := List.take_sublist _ _
        have a2 := (List.filter_sublist (p := fun z : Str × Bool => z.2) (l := (labels.zip (bitsOf x)).take 17)).trans a1
        have a3 := a2.map (fun z : Str × Bool => z.1)
        rw [List.map_fst_zip (by rw [labels_len]; exact Nat.le_of_ble_eq_true rfl)] at a3
        exact a3
      have h2 := sub_sum (h1.map (fun z : Str => z.length))
      have h3 := h1.length_le
      have h4 : (labels.map (·.length)).sum ≤ 1000 := by decide +kernel
      rw [labels_len] at h3
      have h5 : (" " : Str).length = 1 := by decide +kernel
      rw [h5]
      omega
    · rfl
  exact ends_of (E := E) body rfl (sta_start (N := ["_law_error", "_law_some", "_law_labels", "_law_label", "_law_good"]) (n := 1) S (RpA.cons (.raw _) .nil) rfl) (fun _ h => by cases h) (fun _ _ h => h) (fun _ h => h) (fun _ h => h) (fun _ _ h => h.elim) (fun _ _ _ _ _ _ _ S' => ⟨S'.bare, fun _ z => nomatch z⟩) (fun G' H' g S' => ⟨fun v rv => by rw [rv.str_inv]; exact q G' H' g S', fun C e => nomatch e⟩)
end
end Pf
set_option Elab.async false
set_option linter.all false
set_option maxRecDepth 100000
set_option maxHeartbeats 4000000
namespace Pf
open PySem PySem.Spec PyProof.Rows L2 DL HX LamX
theorem takesN0 {X : Cx} : L2N.Takes X (fun _ _ _ _ => False) := fun _ _ x => by
  obtain ⟨_, _, _, _, _, _, _, _, _, _, _, _, _, _, _, _, z⟩ := x
  exact z.elim
/-- what _law_word makes of a lambda's reading -/
def TTw (K : PySem.W.Frag) (mg : Str → Option Value) (T : Tb) (CH : Addr) : (XK → Hp → VK → Prop) → Hp → VK → Prop := fun tl H Q =>
  tl (fun cls d H' => ∃ x D0, ErrC K mg x D0 ∧ cls = .ref D0 ∧ d = none ∧ PySem.W.exmOne K (.ref D0) (.ref CH) = some true ∧ ∃ B G, Sta K T B G [] [] H' ∧ ∀ G2 H2, Same G G2 → Sta K T B G2 [] [] H2 → Q (.str (wordOf x)) H2) H (fun _ H' => Q (.str "") H')
theorem sc_word : FnScope ["_law_call", "_law_error"] ["_law_call"] (defScope s_word) := ⟨rfl, rfl, rfl, by decide +kernel, rfl, by decide +kernel, by decide +kernel⟩
theorem word_gives {X : Cx} {T : Tb} {g CH fN : Addr} {cdg : Value} {fdN : FuncData} {q : Str} (hr : Room 4 X.A) (hH : X.mg "HeapError" = some (.ref CH)) (hn : X.mg "_law_names" = some (.ref fN)) (hk : PySem.W.keepIn X.K (.ref fN) = true) (hb : Binds X.K fdN ["_law_error"] [])
    (FN : ∀ x D0, ErrC X.K X.mg x D0 → FnZ X.prog X.w X.K X.mg X.base CX0 1 fN fdN ["_law_error"] D0 (spN X.K T (wordOf x))) : GivesN X ["_law_call", "_law_error"] "_law_word" (defScope s_word) g cdg (defBody s_word) "_law_call" q (TTw X.K X.mg T CH) := by
  intro f c' s H Q tl act hc h
  have nd := sc_word.nd
  refine ⟨_, pss_cons (L2N.ps_try_as (X := (cxOf CX0 X.prog X.w X.K X.mg X.base ["_law_call", "_law_error"] "_law_word" (defScope s_word) g cdg X.A X.stack s H E0).nox) (c := .ref CH) (i := 1)
      (tb := fun W D σ H => ∃ Ech : XK, (∀ cls d σ' H', Ech cls d H' → W cls d σ' H') ∧ σ[0]? = some (some (.ref f)) ∧ H c' = some (CodeO c' q) ∧ tl Ech H (fun _ H' => D.nx σ H'))
      (ts := fun a cls d D σ H => ∃ (x : Str) (D0 : Addr) (σ0 : L2.St), ErrC X.K X.mg x D0 ∧ cls = .ref D0 ∧ d = none ∧ σ = σ0.set 1 (some (.ref a)) ∧ spN X.K T (wordOf x) a [.ref a] H D.rt E0)
      rfl rfl nd rfl rfl ⟨rfl, by decide, .inl hH⟩ takesN0 (fun W pn xe tk _ => ?_) (fun a oe cls d pn hz hf => ?_)) (pss_one (ps_ret pe_str)), ?_⟩
  · refine ⟨fun pins s' σ H' D I h' => ?_⟩
    obtain ⟨Ech, hW, h1, h2, h3⟩ := h'
    refine PSs.run (pss_one (ps_expr (act W pn xe Ech _ _ tk hW) ?_)) pins s' σ H' D I ⟨h1, h2, h3⟩
    rfl
  · refine ⟨fun pins s' σ H' D I h' => ?_⟩
    obtain ⟨x, D0, σ0, hE, rfl, rfl, h0, h2⟩ := h'
    have h1 : σ[1]? = some (some (.ref a)) := by
      have hl : σ.length = 2 := I.len
      rw [h0] at hl ⊢
      rw [List.length_set] at hl
      exact List.getElem?_set_self (by omega)
    have hot : L2H.Hot1 ((cxOf CX0 X.prog X.w X.K X.mg X.base ["_law_call", "_law_error"] "_law_word" (defScope s_word) g cdg X.A X.stack s H E0).nox.suite a ((a, oe) :: pn)).A (a, oe) := by
      obtain ⟨vs, hv⟩ := hf
      exact ⟨rfl, vs, hv, hz.2.2 vs hv⟩
    have hr1 : L2H.RoomH 1 ((cxOf CX0 X.prog X.w X.K X.mg X.base ["_law_call", "_law_error"] "_law_word" (defScope s_word) g cdg X.A X.stack s H E0).nox.suite a ((a, oe) :: pn)).A :=
      ⟨by have := hr.dp; show X.A.depth + 1 + 3 * 1 + 5 < _; omega, by have := hr.un; show X.A.units + 3 + 16 * 1 + 200 < _; omega⟩
    refine PSs.run (pss_one (ps_ret (pe_callZ (X := (cxOf CX0 X.prog X.w X.K X.mg X.base ["_law_call", "_law_error"] "_law_word" (defScope s_word) g cdg X.A X.stack s H E0).nox.suite a ((a, oe) :: pn)) (E := fun _ => E0) (x := ("_law_names" : Str)) (FN x D0 hE) hr1 hot hz.zc List.mem_cons_self rfl hn hk hb (fun τ _ _ _ _ _ _ h => h.elim)
      (pa_cons (pe_var (i := 1) rfl (.inl rfl) (by decide) (by decide)) pa_nil)))) pins s' σ H' D I ⟨.ref a, h1, h2⟩
  · refine ⟨fun cls d H' => ∃ x D0, ErrC X.K X.mg x D0 ∧ cls = .ref D0 ∧ d = none ∧ PySem.W.exmOne X.K (.ref D0) (.ref CH) = some true ∧ ∃ B G, Sta X.K T B G [] [] H' ∧ ∀ G2 H2, Same G G2 → Sta X.K T B G2 [] [] H2 → Q (.str (wordOf x)) H2, fun cls d σ' H' hE => ?_, rfl, hc, h⟩
    obtain ⟨x, D0, e1, rfl, rfl, e2, B, G, S, q2⟩ := hE
    exact ⟨true, e2, fun _ a _ => ⟨x, D0, σ', e1, rfl, rfl, rfl, B, G, S, rfl, q2⟩, fun z => nomatch z⟩
end Pf
set_option Elab.async false
set_option linter.all false
set_option maxRecDepth 100000
set_option maxHeartbeats 4000000
namespace Pf
open PySem PySem.Spec PyProof.Rows L2 DL HX LamX
/-- the law's defs that name an error -/
structure WordD (P0 : Program) (w : World) (K : PySem.W.Frag) (mg : Str → Option Value) (base : Heap) (T : Tb) (CH : Addr) : Prop where
  ex : ∃ g fd fN fdN, mg "_law_word" = some (.ref g) ∧ PySem.W.keepIn K (.ref g) = true ∧ L2.Fun K "_law_word" "_law_word" s_word g fd ∧ L2.Binds K fd ["_law_call"] [] ∧ mg "HeapError" = some (.ref CH) ∧ mg "_law_names" = some (.ref fN) ∧ PySem.W.keepIn K (.ref fN) = true ∧ Binds K fdN ["_law_error"] [] ∧
    ∀ x D0, ErrC K mg x D0 → FnZ P0 w K mg base CX0 1 fN fdN ["_law_error"] D0 (spN K T (wordOf x))
/-- where a lambda stands -/
structure LamAt (X : Cx) (T : Tb) (scope : Scope) (params : Arguments) (body : Expr) : Prop where
  tb : ∃ c Pt, TabB X.base X.mg c Pt ∧ X.env.code = .ref c ∧ (Pt, X.env.qual ++ "<lambda>") ∈ T ∧ ∀ p ∈ T, p.1 = Pt → p.2 = X.env.qual ++ "<lambda>"
  l : LamS X.env.scope scope
  df : defaultsOf params X.env = ([], [])
  bd : ∀ (q : Str) (cl : List (Str × Addr)) (pm cv ctv : Value), bindArgs (PySem.W.kla_fn "<lambda>" q params body scope cl pm cv ctv) ⟨[], []⟩ = pure []
section
variable {X : Cx} {T : Tb} {ρ : En} {d : D} {k : Nat} {params : Arguments} {body : Expr} {scope : Scope} {lpos p pos : Pos} {CH C : Addr} {x : Str}
theorem ex_word (Wd : WordD X.prog X.w X.K X.mg X.base T CH) (La : LamAt X T scope params body) (hr : Room (k + 4) X.A) (hg : Gl X "_law_word")
    (hbody : ∀ (A : Around) (outer : List Env) (s : Shared) (H : Hp) (E : XK) (f c' : Addr), Room (k + 2) (A.deeper (lamEnv X scope s.heap.objs.size f c')) → EX (lamN X A outer s H E scope f c') T body ρ ρ d) : EX X T (.Call (.Name "_law_word" p) [.Lambda params body scope lpos] [] pos) ρ ρ (.str "") := by
  obtain ⟨g, fd, fN, fdN, h1, h2, h3, h4, h5, h6, h7, h8, h9⟩ := Wd.ex
  obtain ⟨oc, od, kV, doc, pm, an, cdv, ct, osl, rfl, lk, hcd⟩ := h3.ex
  obtain ⟨c, Pt, t1, t2, t3, t4⟩ := La.tb
  refine pe_imp (pe_lamN (k := k + 2) (t := fun E => tEX X.K T ρ ρ d) hg h1 h2 lk hcd h4 sc_word rfl (.inl rfl) (word_gives (hr.mono (by omega)) h5 h6 h7 h8 h9) t1 t2 t3 t4 hr La.l La.df La.bd hbody) fun σ H Q ⟨B, G, S, q⟩ => ⟨S.tb, fun H1 eP tb1 => ?_⟩
  exact ⟨B, G, S.lam (mem_tabL t3) eP tb1, fun v G' H' g' S' _ => q _ G' H' g' S' (.str _)⟩
theorem ex_wordX (Wd : WordD X.prog X.w X.K X.mg X.base T CH) (La : LamAt X T scope params body) (hr : Room (k + 4) X.A) (hg : Gl X "_law_word") (hE : ErrC X.K X.mg x C) (hx : PySem.W.exmOne X.K (.ref C) (.ref CH) = some true)
    (hbody : ∀ (A : Around) (outer : List Env) (s : Shared) (H : Hp) (E : XK) (f c' : Addr), Room (k + 2) (A.deeper (lamEnv X scope s.heap.objs.size f c')) → ER (lamN X A outer s H E scope f c') T (fun cls dd _ H' => E cls dd H') body ρ C) : EX X T (.Call (.Name "_law_word" p) [.Lambda params body scope lpos] [] pos) ρ ρ (.str (wordOf x)) := by
  obtain ⟨g, fd, fN, fdN, h1, h2, h3, h4, h5, h6, h7, h8, h9⟩ := Wd.ex
  obtain ⟨oc, od, kV, doc, pm, an, cdv, ct, osl, rfl, lk, hcd⟩ := h3.ex
  obtain ⟨c, Pt, t1, t2, t3, t4⟩ := La.tb
  refine pe_imp (pe_lamN (k := k + 2) (t := fun E => tER X.K T (fun cls dd _ H' => E cls dd H') ρ C) hg h1 h2 lk hcd h4 sc_word rfl (.inl rfl) (word_gives (hr.mono (by omega)) h5 h6 h7 h8 h9) t1 t2 t3 t4 hr La.l La.df La.bd hbody) fun σ H Q ⟨B, G, S, q⟩ => ⟨S.tb, fun H1 eP tb1 => ?_⟩
  exact ⟨B, G, S.lam (mem_tabL t3) eP tb1, fun G' H' g' S' => ⟨x, C, hE, rfl, rfl, hx, _, G', S'.call0, fun G2 H2 g2 S2 => q _ G2 H2 (g'.trans g2) (S'.back0 S2) (.str _)⟩⟩
end
end Pf
set_option Elab.async false
set_option linter.all false
set_option maxRecDepth 100000
set_option maxHeartbeats 4000000
namespace Pf
open PySem PySem.Spec PyProof.Rows L2 DL HX LamX

abbrev s_right : Stmt := topS 66
abbrev N_right : List Str := ["_law_every", "_law_book", "_law_position", "_law_left_here", "_law_words", "_law_rows_here", "_law_found", "_law_most", "_law_move", "_law_many", "_law_due", "_law_call"]
theorem sc_right : FnScope N_right ["_law_every", "_law_book", "_law_position"] (defScope s_right) := ⟨rfl, rfl, rfl, by decide +kernel, rfl, by decide +kernel, by decide +kernel⟩
theorem book_ok {fs : List Fact} (h : ∀ f ∈ fs, FactOk f) (hl : fs.length ≤ 8) : isBook (encB fs) = true := by
  show (decide ((fs.map encF).length ≤ 8) && (fs.map encF).all isFact) = true
  rw [List.length_map, decide_eq_true hl, Bool.true_and, List.all_eq_true]
  intro d hd
  obtain ⟨f, hf, rfl⟩ := List.mem_map.mp hd
  exact isFact_enc (h f hf)
theorem flat_B (fs : List Fact) : flat 3 (encB fs) = true := flats_map flat_F fs
def R_right (ds : List D) (r : Rs) : Prop := ∃ (fs : List Fact) (p : List Int), (∀ f ∈ fs, FactOk f) ∧ fs.length ≤ 8 ∧ PosOk p ∧ ds = [everyD, encB fs, encR p] ∧ r = .dat (.bl true)
/-- a lambda in a comprehension's element -/
theorem lamAt_blk {X : Cx} {T : Tb} {sc0 sc scope : Scope} {params : Arguments} {body : Expr} {c Pt : Addr} (t : TabB X.base X.mg c Pt) (ec : X.env.code = .ref c) (hT : (Pt, X.env.qual ++ "<lambda>") ∈ T) (hu : ∀ p ∈ T, p.1 = Pt → p.2 = X.env.qual ++ "<lambda>")
    (es : X.env.scope = relS sc0 sc) (hb : lamSB (relS sc0 sc) scope = true) (df : defaultsOf params X.env = ([], []) := by rfl) (bd : ∀ (q : Str) (cl : List (Str × Addr)) (pm cv ctv : Value), bindArgs (PySem.W.kla_fn "<lambda>" q params body scope cl pm cv ctv) ⟨[], []⟩ = pure [] := by intros; rfl) : LamAt X T scope params body :=
  ⟨⟨c, Pt, t, ec, hT, hu⟩, by rw [es]; exact lamS_by hb, df, bd⟩
/-- the scope of a comprehension, of the lambda in it -/
def lcSc : Stmt → Scope
  | .Assign _ (.ListComp _ _ sc _) _ => sc
  | _ => defScope s_right
def laSc : Stmt → Scope
  | .Assign _ (.ListComp (.Call _ [.Lambda _ _ sc _] _ _) _ _ _) _ => sc
  | _ => defScope s_right
def inIf : Stmt → Stmt
  | .If _ (s :: _) _ _ => s
  | .For _ _ (s :: _) _ _ => s
  | s => s
theorem fnCalls {P : Program} {w : World} {K : PySem.W.Frag} {mg : Str → Option Value} {base : Heap} {CX : CXT} {k : Nat} {a b : Str} {sa sb : Sp} (F3 : Fn P w K mg base CX k a sa) (F4 : Fn P w K mg base CX k b sb) :
    ∃ f3 f4, mg a = some (.ref f3) ∧ mg b = some (.ref f4) ∧ FnAt P w K mg base CX k f3 sa ∧ FnAt P w K mg base CX k f4 sb := by
  obtain ⟨f3, h3, e3⟩ := F3.at
  obtain ⟨f4, h4, e4⟩ := F4.at
  exact ⟨f3, f4, h3, h4, e3, e4⟩
/-- a def with lambdas in it: its code object, its table -/
structure LamD (K : PySem.W.Frag) (mg : Str → Option Value) (base : Heap) (T : Tb) (x : Str) (st : Stmt) (ps : List Str) : Prop where
  ex : ∃ f fd c Pt, mg x = some (.ref f) ∧ PySem.W.keepIn K (.ref f) = true ∧ FunC K x x st f fd c ∧ Binds K fd ps [] ∧ TabB base mg c Pt ∧ (Pt, x ++ ".<locals>." ++ "<lambda>") ∈ T ∧ ∀ p ∈ T, p.1 = Pt → p.2 = x ++ ".<locals>." ++ "<lambda>"
/-- an error class that the helper can name -/
structure ErrX (K : PySem.W.Frag) (mg : Str → Option Value) (CH : Addr) (x : Str) (C : Addr) : Prop where
  e : ErrC K mg x C
  x : PySem.W.exmOne K (.ref C) (.ref CH) = some true
theorem flat_encM (m : Int × Int) : flat 1 (encM m) = true := rfl
theorem flat_encMs (ms : List (Int × Int)) : flat 2 (.lst (ms.map encM)) = true := flats_map flat_encM ms
theorem eqv_encM (a b : Int × Int) : eqv (encM a) (encM b) = decide (a = b) := by
  obtain ⟨a1, a2⟩ := a
  obtain ⟨b1, b2⟩ := b
  show eqv (.tup [.int a1, .int a2]) (.tup [.int b1, .int b2]) = _
  rw [eqv_tup, eqvs_cons, eqvs_cons, eqvs_nil, eqv_int, eqv_int, Bool.and_true, Bool.eq_iff_iff, Bool.and_eq_true, decide_eq_true_iff, decide_eq_true_iff, decide_eq_true_iff, Prod.mk.injEq]
theorem eqv_encMs (xs ys : List (Int × Int)) : eqv (.lst (xs.map encM)) (.lst (ys.map encM)) = decide (xs = ys) := by
  rw [eqv_lst]
  exact eqvs_dec eqv_encM xs ys
theorem flat_BM (z : Int × List (Int × Int)) : flat 3 (encBM z) = true := by
  show (flat 2 (.int z.1) && (flat 2 (.lst (z.2.map encM)) && true)) = true
  rw [flat_encMs]
  rfl
theorem eqv_BM (z : Int × List (Int × Int)) : eqv (encBM z) (encBM z) = true := by
  show eqv (.tup [.int z.1, .lst (z.2.map encM)]) (.tup [.int z.1, .lst (z.2.map encM)]) = true
  rw [eqv_tup, eqvs_cons, eqvs_cons, eqvs_nil, eqv_int, eqv_encMs, decide_eq_true rfl, decide_eq_true rfl]
  rfl
theorem best_eq (rs : List Rule) (p : List Int) : (bestBy rs p).2 = ((votes rs p).filter fun v => decide (v.2 = bestMost (votes rs p)) && decide (0 < v.2)).map (·.1) := by
  unfold bestBy
  refine congrArg (List.map fun (x : (Int × Int) × Int) => x.1) (List.filter_congr fun v _ => ?_)
  by_cases e : v.2 = bestMost (votes rs p)
  · rw [e]
  · rw [decide_eq_false e, Bool.false_and, Bool.false_and]
section
variable {P : Program} {w : World} {K : PySem.W.Frag} {mg : Str → Option Value} {base : Heap} {T : Tb}
theorem ok_right {CH CB CP CI : Addr} (M : Mg mg) (M3 : Mg3 mg) (Wd : WordD P w K mg base T CH) (EI : ErrX K mg CH "Impossible" CI) (F : LamD K mg base T "_law_right" s_right ["_law_every", "_law_book", "_law_position"]) (F1 : Fn P w K mg base CX0 4 "_law_left" (spP K T R_left)) (F2 : Fn P w K mg base CX0 3 "_law_rows" (spP K T R_rows))
    (F3 : Fn P w K mg base (L2N.CX P w) 10 "sure_moves" (spP K T (R_sure_moves CB CP CI))) (F4 : Fn P w K mg base (L2N.CX P w) 10 "best_moves" (spP K T (R_best_moves CB CP CI))) : Fn P w K mg base CX0 13 "_law_right" (spP K T R_right) := by
  obtain ⟨f, fd, c, Pt, g1, g2, g3, g4, g5, g6, g7⟩ := F.ex
  obtain ⟨f3, f4, m3, m4, A3, A4⟩ := fnCalls F3 F4
  refine ⟨f, fd, _, g1, g2, g4, fn_pureC g3 sc_right (fun ds r ⟨_, _, _, _, _, e, _⟩ => by rw [e]; rfl) fun A outer s H E hr ds r hR => ?_⟩
  obtain ⟨fs, p, hfs, hfl, hp, rfl, rfl⟩ := hR
  have nd := sc_right.nd
  have hfU : ∀ f ∈ fs, FactU f := fun f hf => factOk_U (hfs f hf)
  refine ess_cons (es_set 3 (ex_call F1 hr (ea_cons (ex_var 0 rfl) (ea_cons (ex_var 1 rfl) ea_nil)) ⟨fs, hfU, by omega, rfl, rfl⟩) ?_ nd)
  refine ess_cons (es_ifP (left fs).isEmpty (et_eq (et_eqD (n := 2) (m := 1) hr (ex_var 3 rfl) (ex_lst ea_nil) (flats_encR _) rfl) (by rw [eqv_nil, List.isEmpty_map])) (fun h => ?_) (fun h => ?_))
  · have hl : left fs = [] := List.isEmpty_iff.mp h
    refine ess_cons (LcOk.asg (xs := [.str (wordOf "Impossible"), .str (wordOf "Impossible")]) (own := [("_law_call", 11)]) 4 sc_right (lc_map (zs := [f3, f4]) (enc := fun f => D.raw (.ref f)) (fun _ => .str (wordOf "Impossible"))
      (ei_tup (ex_tup (ea_cons (ex_glob (v := .ref f3) m3 rfl rfl) (ea_cons (ex_glob (v := .ref f4) m4 rfl rfl) ea_nil)))) (fun a _ s H C cl fp => gx_name 11 nd)
      (fun a ha s H C cl fp => ex_wordX (k := 8) Wd (lamAt_blk (sc0 := lcSc (inIf ((defBody s_right).getD 1 s_right))) (sc := defScope s_right) g5 rfl g6 g7 rfl (by decide +kernel)) hr rfl EI.e EI.x (fun A2 o2 s2 H2 E2 f2 c2 hr2 => ?_)) (by rw [sizeLine_eq]; exact Nat.lt_of_sub_ne_zero (by decide : 16777216 - 2 ≠ 0))) ?_)
    · rcases List.mem_cons.mp ha with rfl | ha
      · exact er_callL (k := 10) (j := 10) 11 A3 (L2N.takes_of rfl rfl rfl rfl) hr2 rfl (ea_cons (ex_var 1 rfl) (ea_cons (ex_var 2 rfl) ea_nil)) ⟨encB fs, encR p, 3, 1, rfl, flat_B fs, flat_R p, .inr (.inr ⟨fs, p, book_ok hfs hfl, isPos_enc hp, hfU, by omega, posOk_heaps hp, rfl, rfl, by rw [if_pos hl]⟩)⟩ (by decide) rfl (.inr (.inr rfl))
      · rw [List.mem_singleton.mp ha]
        exact er_callL (k := 10) (j := 10) 11 A4 (L2N.takes_of rfl rfl rfl rfl) hr2 rfl (ea_cons (ex_var 1 rfl) (ea_cons (ex_var 2 rfl) ea_nil)) ⟨encB fs, encR p, 3, 1, rfl, flat_B fs, flat_R p, .inr (.inr ⟨fs, p, book_ok hfs hfl, isPos_enc hp, hfU, by omega, posOk_heaps hp, rfl, rfl, by rw [if_pos hl]⟩)⟩ (by decide) rfl (.inr (.inr rfl))
    · refine ess_cons (es_ret (ex_eqD (n := 1) (m := 1) hr (ex_var 4 rfl) (ex_repL (ex_lst (ea_cons ex_str ea_nil)) ex_int (by decide) (by decide) (by rw [sizeLine_eq]; decide)) (by decide +kernel) (by decide +kernel)) ?_)
      show Rs.dat _ = Rs.dat _
      congr 2
      decide +kernel
  · have hl : left fs ≠ [] := fun z => by rw [z] at h; cases h
    have hrs : ∀ r ∈ left fs, r ∈ allRules := fun _ h => left_mem h
    have hB : ∀ d, (if left fs = [] then Rs.exc CI else .dat d) = .dat d := fun d => if_neg hl
    have hU := posOk_heaps hp
    refine ess_nil (ess_cons (es_set 5 (EN.ex (en_call F2 hr (ea_cons (ex_var 0 rfl) (ea_cons (ex_var 3 rfl) (ea_cons (ex_var 2 rfl) ea_nil))) ⟨left fs, p, hrs, left_len fs, hU, rfl, rfl⟩)) ?_ nd))
    refine ess_cons (es_asg (ex_tup (ea_cons (ex_call F3 hr (ea_cons (ex_var 1 rfl) (ea_cons (ex_var 2 rfl) ea_nil)) ⟨encB fs, encR p, 3, 1, rfl, flat_B fs, flat_R p, .inr (.inr ⟨fs, p, book_ok hfs hfl, isPos_enc hp, hfU, by omega, hU, rfl, rfl, (hB _).symm⟩)⟩) (ea_cons ex_int ea_nil))) (gx_tup rfl (gxs_cons (gx_name 6 nd) (gxs_cons (gx_name 7 nd) gxs_nil))) ?_)
    refine ess_cons (es_for (I := fun k ρ' => ∃ x8 x9, ρ' = [.dat everyD, .dat (encB fs), .dat (encR p), .dat (.lst ((left fs).map encR)), .no, .dat (.lst ((votes (left fs) p).map encV)), .dat (.lst ((sureBy (left fs) p).map encM)), .dat (.int (bestMost ((votes (left fs) p).take k))), x8, x9, .no, .no]) PassesOwn.never rfl (ei_list (ex_var 5 rfl)) ⟨.no, .no, rfl⟩ (fun i d ρ' hd hI => ?_) (fun ρ' hI => ?_))
    · obtain ⟨x8, x9, rfl⟩ := hI
      rw [List.getElem?_map] at hd
      cases hk : (votes (left fs) p)[i]? with
      | none => rw [hk] at hd; cases hd
      | some v =>
        rw [hk] at hd
        have ed : d = encV v := (Option.some.inj hd).symm
        subst ed
        refine ⟨_, _, gx_tup rfl (gxs_cons (gx_name 8 nd) (gxs_cons (gx_name 9 nd) gxs_nil)), ?_⟩
        refine ess_cons (es_set 7 (d := .int (maxI (bestMost ((votes (left fs) p).take i)) v.2)) (ex_if (k := decide (bestMost ((votes (left fs) p).take i) < v.2)) (et_gt (ex_var 9 rfl) (ex_var 7 rfl)) (fun h => ex_eq (ex_var 9 rfl) (by unfold maxI; rw [if_pos (of_decide_eq_true h)])) (fun h => ex_eq (ex_var 7 rfl) (by unfold maxI; rw [if_neg (of_decide_eq_false h)]))) (ess_nil ⟨.dat (encM v.1), .dat (.int v.2), ?_⟩) nd)
        rw [List.take_add_one, hk]
        unfold bestMost
        rw [List.foldl_append]
        rfl
    · obtain ⟨x8, x9, rfl⟩ := hI
      rw [List.length_map, List.take_length]
      refine ess_drop 8 (ess_drop 9 ?_)
      refine ess_cons (LcOk.asg (xs := ((sureBy (left fs) p).map encM)) (own := [("_law_move", 8), ("_law_many", 9)]) 10 sc_right (LcOk.eq (lc_filt (zs := votes (left fs) p) (enc := encV) (fun v => decide (v.2 = ((left fs).length : Int))) (fun v => encM v.1) (ei_list (ex_var 5 rfl)) (fun a _ s H C cl fp => gx_tup rfl (gxs_cons (gx_name 8 nd) (gxs_cons (gx_name 9 nd) gxs_nil)))
          (fun a ha s H C cl fp => et_eqI (ex_var 9 rfl) (ex_lenLM M.len (ex_var 3 rfl))) (fun a ha _ s H C cl fp => ex_var 8 rfl) (by have := votes_len (left fs) hU; rw [sizeLine_eq]; omega)) (by unfold sureBy; rw [List.map_map]; rfl)) ?_)
      refine ess_cons (es_ifP false (et_eq (et_or2 (et_not (et_val (ex_isLst M.isinstance (ex_var 6 rfl) M3.list rfl))) (fun _ => et_neD (n := 2) (m := 2) hr (ex_var 6 rfl) (ex_var 10 rfl) (flat_encMs _) (flat_encMs _))) (by rw [eqv_encMs, decide_eq_true rfl]; rfl)) (fun z => nomatch z) (fun _ => ess_nil ?_))
      refine ess_cons (LcOk.asg (xs := ((bestBy (left fs) p).2.map encM)) (own := [("_law_move", 8), ("_law_many", 9)]) 10 sc_right (LcOk.eq (lc_filt (zs := votes (left fs) p) (enc := encV) (fun v => decide (v.2 = bestMost (votes (left fs) p)) && decide (0 < v.2)) (fun v => encM v.1) (ei_list (ex_var 5 rfl)) (fun a _ s H C cl fp => gx_tup rfl (gxs_cons (gx_name 8 nd) (gxs_cons (gx_name 9 nd) gxs_nil)))
          (fun a ha s H C cl fp => et_and2 (et_eqI (ex_var 9 rfl) (ex_var 7 rfl)) (fun _ => et_gt (ex_var 9 rfl) ex_int)) (fun a ha _ s H C cl fp => ex_var 8 rfl) (by have := votes_len (left fs) hU; rw [sizeLine_eq]; omega)) (by rw [best_eq, List.map_map]; rfl)) ?_)
      refine ess_cons (es_ret (ex_eqD (n := 3) (m := 3) hr (ex_call F4 hr (ea_cons (ex_var 1 rfl) (ea_cons (ex_var 2 rfl) ea_nil)) ⟨encB fs, encR p, 3, 1, rfl, flat_B fs, flat_R p, .inr (.inr ⟨fs, p, book_ok hfs hfl, isPos_enc hp, hfU, by omega, hU, rfl, rfl, (hB _).symm⟩)⟩) (ex_tup (ea_cons (ex_var 7 rfl) (ea_cons (ex_var 10 rfl) ea_nil))) (flat_BM _) (flat_BM (bestBy (left fs) p))) ?_)
      show Rs.dat _ = Rs.dat _
      rw [show (D.tup [D.int (bestMost (votes (left fs) p)), .lst ((bestBy (left fs) p).2.map encM)]) = encBM (bestBy (left fs) p) from rfl, eqv_BM]
end
end Pf
set_option Elab.async false
set_option linter.all false
set_option maxRecDepth 100000
set_option maxHeartbeats 4000000
namespace Pf
open PySem PySem.Spec PyProof.Rows L2 DL HX LamX

abbrev s_refused : Stmt := topS 67
abbrev N_refused : List Str := ["_law_book", "_law_odd", "_law_words", "_law_call"]
theorem sc_refused : FnScope N_refused ["_law_book"] (defScope s_refused) := ⟨rfl, rfl, rfl, by decide +kernel, rfl, by decide +kernel, by decide +kernel⟩
def R_refused (ds : List D) (r : Rs) : Prop := ∃ (fs : List Fact), (∀ f ∈ fs, FactOk f) ∧ fs.length ≤ 8 ∧ ds = [encB fs] ∧ r = .dat (.bl true)
def odds : List D := [.non, .tup [], .int 4, .lst [.int 4], .tup [.int (-1)], .tup [.int 1, .int 2, .int 3, .int 4]]
theorem odds_no : odds.all (fun d => !isPos d && flat 2 d) = true := by decide +kernel
def badB : D := .tup [.tup [.str "may", .int 0]]
theorem badB_no : isBook badB = false := by decide +kernel
theorem sz2 : 2 < sizeLine := by rw [sizeLine_eq]; exact Nat.lt_of_sub_ne_zero (by decide : 16777216 - 2 ≠ 0)
section
variable {P : Program} {w : World} {K : PySem.W.Frag} {mg : Str → Option Value} {base : Heap} {T : Tb}
theorem ok_refused {CH CB CP CI : Addr} (M : Mg mg) (Wd : WordD P w K mg base T CH) (EP : ErrX K mg CH "InvalidPosition" CP) (EB : ErrX K mg CH "InvalidBook" CB) (F : LamD K mg base T "_law_refused" s_refused ["_law_book"])
    (F3 : Fn P w K mg base (L2N.CX P w) 10 "sure_moves" (spP K T (R_sure_moves CB CP CI))) (F4 : Fn P w K mg base (L2N.CX P w) 10 "best_moves" (spP K T (R_best_moves CB CP CI))) : Fn P w K mg base CX0 13 "_law_refused" (spP K T R_refused) := by
  obtain ⟨f, fd, c, Pt, g1, g2, g3, g4, g5, g6, g7⟩ := F.ex
  obtain ⟨f3, f4, m3, m4, A3, A4⟩ := fnCalls F3 F4
  refine ⟨f, fd, _, g1, g2, g4, fn_pureC g3 sc_refused (fun ds r ⟨_, _, _, e, _⟩ => by rw [e]; rfl) fun A outer s H E hr ds r hR => ?_⟩
  obtain ⟨fs, hfs, hfl, rfl, rfl⟩ := hR
  have nd := sc_refused.nd
  have hfU : ∀ f ∈ fs, FactU f := fun f hf => factOk_U (hfs f hf)
  refine ess_cons (es_for (I := fun k ρ' => ∃ x1 x2, ρ' = [.dat (encB fs), x1, x2, .no]) PassesOwn.never rfl (ei_list (ds := odds) (ex_lst (ea_cons ex_non (ea_cons (ex_tup ea_nil) (ea_cons ex_int (ea_cons (ex_lst (ea_cons ex_int ea_nil)) (ea_cons (ex_tup (ea_cons (ex_neg ex_int) ea_nil)) (ea_cons (ex_tup (ea_cons ex_int (ea_cons ex_int (ea_cons ex_int (ea_cons ex_int ea_nil))))) ea_nil)))))))) ⟨.no, .no, rfl⟩ (fun i d ρ' hd hI => ?_) (fun ρ' hI => ?_))
  · obtain ⟨x1, x2, rfl⟩ := hI
    have hd2 := List.all_eq_true.mp odds_no d (List.mem_of_getElem? hd)
    rw [Bool.and_eq_true, Bool.not_eq_true'] at hd2
    obtain ⟨hno, hfd⟩ := hd2
    refine ⟨_, _, gx_name 1 nd, ?_⟩
    refine ess_cons (LcOk.asg (xs := [.str (wordOf "InvalidPosition"), .str (wordOf "InvalidPosition")]) (own := [("_law_call", 3)]) 2 sc_refused (lc_map (zs := [f3, f4]) (enc := fun f => D.raw (.ref f)) (fun _ => .str (wordOf "InvalidPosition"))
      (ei_tup (ex_tup (ea_cons (ex_glob (v := .ref f3) m3 rfl rfl) (ea_cons (ex_glob (v := .ref f4) m4 rfl rfl) ea_nil)))) (fun a _ s H C cl fp => gx_name 3 nd)
      (fun a ha s H C cl fp => ex_wordX (k := 8) Wd (lamAt_blk (sc0 := lcSc (inIf ((defBody s_refused).getD 0 s_refused))) (sc := defScope s_refused) g5 rfl g6 g7 rfl (by decide +kernel)) hr rfl EP.e EP.x (fun A2 o2 s2 H2 E2 f2 c2 hr2 => ?_)) sz2) ?_)
    · rcases List.mem_cons.mp ha with rfl | ha
      · exact er_callL (k := 10) (j := 10) 3 A3 (L2N.takes_of rfl rfl rfl rfl) hr2 rfl (ea_cons (ex_var 0 rfl) (ea_cons (ex_var 1 rfl) ea_nil)) ⟨encB fs, d, 3, 2, rfl, flat_B fs, hfd, .inr (.inl ⟨book_ok hfs hfl, hno, rfl⟩)⟩ (by decide) rfl (.inr (.inr rfl))
      · rw [List.mem_singleton.mp ha]
        exact er_callL (k := 10) (j := 10) 3 A4 (L2N.takes_of rfl rfl rfl rfl) hr2 rfl (ea_cons (ex_var 0 rfl) (ea_cons (ex_var 1 rfl) ea_nil)) ⟨encB fs, d, 3, 2, rfl, flat_B fs, hfd, .inr (.inl ⟨book_ok hfs hfl, hno, rfl⟩)⟩ (by decide) rfl (.inr (.inr rfl))
    · refine ess_cons (es_ifP false (et_eq (et_neD (n := 1) (m := 1) hr (ex_var 2 rfl) (ex_repL (ex_lst (ea_cons ex_str ea_nil)) ex_int (by decide) (by decide) (by rw [sizeLine_eq]; decide)) (by decide +kernel) (by decide +kernel)) (by decide +kernel)) (fun z => nomatch z) (fun _ => ess_nil (ess_nil ⟨_, _, rfl⟩)))
  · obtain ⟨x1, x2, rfl⟩ := hI
    refine ess_cons (LcOk.asg (xs := [.str (wordOf "InvalidBook"), .str (wordOf "InvalidBook")]) (own := [("_law_call", 3)]) 2 sc_refused (lc_map (zs := [f3, f4]) (enc := fun f => D.raw (.ref f)) (fun _ => .str (wordOf "InvalidBook"))
      (ei_tup (ex_tup (ea_cons (ex_glob (v := .ref f3) m3 rfl rfl) (ea_cons (ex_glob (v := .ref f4) m4 rfl rfl) ea_nil)))) (fun a _ s H C cl fp => gx_name 3 nd)
      (fun a ha s H C cl fp => ex_wordX (k := 8) Wd (lamAt_blk (sc0 := lcSc ((defBody s_refused).getD 1 s_refused)) (sc := defScope s_refused) g5 rfl g6 g7 rfl (by decide +kernel)) hr rfl EB.e EB.x (fun A2 o2 s2 H2 E2 f2 c2 hr2 => ?_)) sz2) ?_)
    · rcases List.mem_cons.mp ha with rfl | ha
      · exact er_callL (k := 10) (j := 10) 3 A3 (L2N.takes_of rfl rfl rfl rfl) hr2 rfl (ea_cons (ex_tup (ea_cons (ex_tup (ea_cons ex_str (ea_cons ex_int ea_nil))) ea_nil)) (ea_cons ex_non ea_nil)) ⟨badB, .non, 2, 0, rfl, by decide +kernel, rfl, .inl ⟨badB_no, rfl⟩⟩ (by decide) rfl (.inr (.inr rfl))
      · rw [List.mem_singleton.mp ha]
        exact er_callL (k := 10) (j := 10) 3 A4 (L2N.takes_of rfl rfl rfl rfl) hr2 rfl (ea_cons (ex_tup (ea_cons (ex_tup (ea_cons ex_str (ea_cons ex_int ea_nil))) ea_nil)) (ea_cons ex_non ea_nil)) ⟨badB, .non, 2, 0, rfl, by decide +kernel, rfl, .inl ⟨badB_no, rfl⟩⟩ (by decide) rfl (.inr (.inr rfl))
    · refine ess_cons (es_ret (ex_eqD (n := 1) (m := 1) hr (ex_var 2 rfl) (ex_repL (ex_lst (ea_cons ex_str ea_nil)) ex_int (by decide) (by decide) (by rw [sizeLine_eq]; decide)) (by decide +kernel) (by decide +kernel)) ?_)
      show Rs.dat _ = Rs.dat _
      congr 2
      decide +kernel
end
end Pf
set_option Elab.async false
set_option linter.all false
set_option maxRecDepth 100000
set_option maxHeartbeats 4000000
namespace Pf
open PySem PySem.Spec PyProof.Rows L2 DL HX LamX

/-- numbers drawn one behind another -/
def smallN (q : Pot) (m : Int) : Nat → List Int × Pot
  | 0 => ([], q)
  | n + 1 => ((smallN q m n).1 ++ [(ladle (smallN q m n).2 m).1], (ladle (smallN q m n).2 m).2)
theorem smallN_ok {q : Pot} {m : Int} (hm : 0 < m) (h : PotOk q) : ∀ n : Nat, PotOk (smallN q m n).2 ∧ (smallN q m n).1.length = n ∧ ∀ x ∈ (smallN q m n).1, 0 ≤ x ∧ x < m
  | 0 => ⟨h, rfl, fun x hx => by cases hx⟩
  | n + 1 => by
    obtain ⟨a1, a2, a3⟩ := smallN_ok hm h n
    refine ⟨ladle_ok hm a1, ?_, fun x hx => ?_⟩
    · show ((smallN q m n).1 ++ [_]).length = n + 1
      rw [List.length_append, a2]
      rfl
    · rcases List.mem_append.mp hx with hx | hx
      · exact a3 x hx
      · rw [List.mem_singleton.mp hx]
        exact ladle_rng hm

abbrev s_law : Stmt := topS 68
abbrev N_law : List Str := ["_law_script", "_law_every", "_law_k", "_law_pot_here", "_law_book", "_law_small", "_law_position", "_law_known_here", "_law_some", "_law_heap"]
theorem sc_law : FnScope N_law ["_law_script"] (defScope s_law) := ⟨rfl, rfl, rfl, by decide +kernel, rfl, by decide +kernel, by decide +kernel⟩
def R_law (p : Addr) (ds : List D) (c c' : Cl) (r : Rs) : Prop := ∃ (u : HO) (ns : List Int), ds = [.raw (.ref p)] ∧ ns.length ≤ 63 ∧ IsScr u (ns.map V.int) ∧ c = .ho u ∧ c' = c ∧ r = .dat (.bl true)
def bkK : List Fact := [.lw true [3], .lw false [2]]
def posK : List (List Int) := [[4], [5, 5, 2], [6]]
def posK2 : List (List Int) := [[4], [6], [3], [0, 4], [0]]
def dueK : List (List (Int × Int)) := [[(0, 1)], [(0, 2), (1, 2), (2, 2)], []]
def dueK2 : List (Int × List (Int × Int)) := [(8, [(0, 1)]), (4, [(0, 6)]), (0, []), (8, [(1, 1)]), (0, [])]
theorem calc1 : posK.map (sureBy (left bkK)) = dueK := by decide +kernel
theorem calc2 : posK2.map (bestBy (left bkK)) = dueK2 := by decide +kernel
theorem calc3 : bestBy (left []) [2] = (32, [(0, 2)]) := by decide +kernel
theorem calc4 : sureBy (left [.mn true 2, .mn false 1]) [2] = [(0, 2)] := by decide +kernel
theorem bkK_ne : left bkK ≠ [] := by decide +kernel
theorem all_ne : left [] ≠ [] := by decide +kernel
theorem mn_ne : left [.mn true 2, .mn false 1] ≠ [] := by decide +kernel
instance (f : Fact) : Decidable (FactOk f) := match f with
  | .lw _ p => inferInstanceAs (Decidable (1 ≤ p.length ∧ p.length ≤ 3 ∧ ∀ x ∈ p, 0 ≤ x ∧ x ≤ 10 ^ 30))
  | .mn _ t => inferInstanceAs (Decidable (1 ≤ t ∧ t ≤ 6))
instance (p : List Int) : Decidable (PosOk p) := inferInstanceAs (Decidable (1 ≤ p.length ∧ p.length ≤ 3 ∧ ∀ x ∈ p, 0 ≤ x ∧ x ≤ 10 ^ 30))
theorem bkK_ok : ∀ f ∈ bkK, FactOk f := by decide +kernel
theorem mn_ok : ∀ f ∈ [Fact.mn true 2, .mn false 1], FactOk f := by decide +kernel
theorem posK_ok : ∀ p ∈ posK, PosOk p := by decide +kernel
theorem posK2_ok : ∀ p ∈ posK2, PosOk p := by decide +kernel
theorem pos2_ok : PosOk [2] := by decide +kernel
section
variable {P : Program} {w : World} {K : PySem.W.Frag} {mg : Str → Option Value} {base : Heap} {T : Tb}
theorem sure_R {CB CP CI : Addr} {fs : List Fact} {p : List Int} (hfs : ∀ f ∈ fs, FactOk f) (hfl : fs.length ≤ 8) (hp : PosOk p) (hl : left fs ≠ []) : R_sure_moves CB CP CI [encB fs, encR p] (.dat (.lst ((sureBy (left fs) p).map encM))) :=
  ⟨encB fs, encR p, 3, 1, rfl, flat_B fs, flat_R p, .inr (.inr ⟨fs, p, book_ok hfs hfl, isPos_enc hp, fun f hf => factOk_U (hfs f hf), by omega, posOk_heaps hp, rfl, rfl, (if_neg hl).symm⟩)⟩
theorem best_R {CB CP CI : Addr} {fs : List Fact} {p : List Int} (hfs : ∀ f ∈ fs, FactOk f) (hfl : fs.length ≤ 8) (hp : PosOk p) (hl : left fs ≠ []) : R_best_moves CB CP CI [encB fs, encR p] (.dat (encBM (bestBy (left fs) p))) :=
  ⟨encB fs, encR p, 3, 1, rfl, flat_B fs, flat_R p, .inr (.inr ⟨fs, p, book_ok hfs hfl, isPos_enc hp, fun f hf => factOk_U (hfs f hf), by omega, posOk_heaps hp, rfl, rfl, (if_neg hl).symm⟩)⟩
theorem ok_law {CB CP CI f : Addr} {fd : FuncData} (M : Mg mg) (M2 : Mg2 mg) (F : L2.Fun K "law" "law" s_law f fd) (FK : Fn P w K mg base CX0 3 "_law_all_known" (spP K T R_all_known)) (FP : Fn P w K mg base CX0 1 "_law_pot" (spO K T R_pot)) (FL : Fn P w K mg base CX0 1 "_law_ladle" (spO K T R_ladle))
    (FB : Fn P w K mg base CX0 5 "_law_any_book" (spO K T R_any_book)) (FA : Fn P w K mg base CX0 3 "_law_any_position" (spO K T R_any_position)) (FR : Fn P w K mg base CX0 13 "_law_right" (spP K T R_right)) (FF : Fn P w K mg base CX0 13 "_law_refused" (spP K T R_refused))
    (F3 : Fn P w K mg base (L2N.CX P w) 10 "sure_moves" (spP K T (R_sure_moves CB CP CI))) (F4 : Fn P w K mg base (L2N.CX P w) 10 "best_moves" (spP K T (R_best_moves CB CP CI))) : FnOk P w K mg base CX0 14 f fd ["_law_script"] (spO K T R_law) :=
  fn_own 0 F sc_law (fun p ds c c' r ⟨o, ns, e, _⟩ => by rw [e]; exact ⟨rfl, rfl⟩) fun cdv A outer s H E hr p ds c c' r hR => by
    obtain ⟨u, ns, rfl, hns, hu, rfl, rfl, rfl⟩ := hR
    have nd := sc_law.nd
    refine ess_cons (es_set 1 (ex_call0 FK hr ⟨rfl, rfl⟩) ?_ nd)
    refine ess_cons (es_for (I := fun k ρ' => ∃ x2 x3 x4 x5 x6, ρ' = [.own p (.ho u), .dat everyD, x2, x3, x4, x5, x6, .no, .no, .no]) PassesOwn.never rfl
      (ei_range1 M.range (ea_cons (ex_max2 M2.max ex_int (ex_min2 M2.min ex_int (ex_lenF 0 hu rfl M.len))) ea_nil) ?_) ⟨.no, .no, .no, .no, .no, rfl⟩ (fun i d ρ' hd hI => ?_) (fun ρ' hI => ?_))
    · rw [List.length_map]
      split <;> split <;> omega
    · obtain ⟨x2, x3, x4, x5, x6, rfl⟩ := hI
      have hi : i < 64 ∧ d = .int (0 + (i : Nat)) := by
        obtain ⟨h1, h2⟩ := List.getElem?_eq_some_iff.mp hd
        rw [List.length_map, List.length_range, List.length_map] at h1
        rw [List.getElem_map, List.getElem_range] at h2
        refine ⟨?_, h2.symm⟩
        split at h1 <;> split at h1 <;> omega
      obtain ⟨hi, rfl⟩ := hi
      refine ⟨_, _, gx_name 2 nd, ess_drop 3 (ess_drop 4 (ess_drop 5 (ess_drop 6 ?_)))⟩
      refine ess_cons (es_setL 3 (en_callO 0 FP hr (ea_cons (ex_own 0 rfl) (ea_cons (ex_var 2 rfl) ea_nil)) rfl ⟨u, ns, _, rfl, by omega, by omega, hu, rfl, rfl, rfl⟩) (fun q hq => ?_) nd)
      have p0 := potF_ok ns (0 + (i : Nat))
      have b1 := anyBook_ok p0 (most := 5) (by decide)
      have b2 := anyBook_ok b1.1 (most := 2) (by decide)
      refine ess_cons (es_for (I := fun k ρ' => ∃ pot x4 x5 x6, PotOk pot ∧ ρ' = [.own p (.ho u), .dat everyD, .dat (.int (0 + (i : Nat))), .own q (encP pot), x4, x5, x6, .no, .no, .no]) PassesOwn.never rfl
        (ei_tup (ex_tup (ea_cons (ex_callO 3 FB hr (ea_cons (ex_var 1 rfl) (ea_cons (ex_own 3 rfl) (ea_cons ex_int ea_nil))) rfl ⟨potF ns (0 + (i : Nat)), 5, by decide, by decide, rfl, p0, rfl, rfl, rfl⟩)
          (ea_cons (ex_callO 3 FB hr (ea_cons (ex_var 1 rfl) (ea_cons (ex_own 3 rfl) (ea_cons ex_int ea_nil))) rfl ⟨_, 2, by decide, by decide, rfl, b1.1, rfl, rfl, rfl⟩) ea_nil)))) ⟨_, .no, .no, .no, b2.1, rfl⟩ (fun j d ρ' hd hI => ?_) (fun ρ' hI => ?_))
      · obtain ⟨pot, x4, x5, x6, hpot, rfl⟩ := hI
        obtain ⟨fs, hfs, hfl, rfl⟩ : ∃ fs : List Fact, (∀ f ∈ fs, FactOk f) ∧ fs.length ≤ 8 ∧ d = encB fs := by
          match j, hd with
          | 0, hd => exact ⟨_, b1.2.2, by have := b1.2.1; omega, (Option.some.inj hd).symm⟩
          | 1, hd => exact ⟨_, b2.2.2, by have := b2.2.1; omega, (Option.some.inj hd).symm⟩
        refine ⟨_, _, gx_name 4 nd, ess_drop 5 (ess_drop 6 ?_)⟩
        have g := ladle_rng (p := pot) (show (0 : Int) < 3 by decide)
        have h1 := ladle_ok (m := 3) (by decide) hpot
        have sm := smallN_ok (m := 10) (by decide) h1
        have sml : PosOk (smallN (ladle pot 3).2 10 (1 + (ladle pot 3).1).toNat).1 := by
          obtain ⟨_, a2, a3⟩ := sm (1 + (ladle pot 3).1).toNat
          exact ⟨by omega, by omega, fun x hx => ⟨(a3 x hx).1, Int.le_trans (Int.le_of_lt (a3 x hx).2) (by decide)⟩⟩
        refine ess_cons (es_set 5 (d := encR (smallN (ladle pot 3).2 10 (1 + (ladle pot 3).1).toNat).1) (ex_tupOf (xs := (smallN (ladle pot 3).2 10 (1 + (ladle pot 3).1).toNat).1.map D.int) M.tuple (LcOk.val (own := [("_law_heap", 9)]) sc_law
          (lc_ok (I := fun k ρ' acc => ρ' = [.own p (.ho u), .dat everyD, .dat (.int (0 + (i : Nat))), .own q (encP (smallN (ladle pot 3).2 10 k).2), .dat (encB fs), .no, .no, .no, .no, .no] ∧ acc = (smallN (ladle pot 3).2 10 k).1.map D.int)
            (ei_range1 M.range (ea_cons (ex_add ex_int (ex_callO 3 FL hr (ea_cons (ex_own 3 rfl) (ea_cons ex_int ea_nil)) rfl ⟨pot, 3, rfl, by decide, by decide, hpot, rfl, rfl, rfl⟩)) ea_nil) (by omega)) ⟨rfl, rfl⟩ (fun i2 d ρ' acc hd hI => ?_) (ρ2 := [.own p (.ho u), .dat everyD, .dat (.int (0 + (i : Nat))), .own q (encP (smallN (ladle pot 3).2 10 (1 + (ladle pot 3).1).toNat).2), .dat (encB fs), .no, .no, .no, .no, .no]) (fun ρ' acc hI => ?_)))) ?_ nd)
        · obtain ⟨rfl, rfl⟩ := hI
          obtain ⟨a1, a2, a3⟩ := sm i2
          have hi : i2 < 3 := by
            have := (List.getElem?_eq_some_iff.mp hd).1
            rw [List.length_map, List.length_range] at this
            omega
          refine ⟨_, _, _, true, ?_, rfl, fun s H C cl fp => gx_name 9 nd, fun s H C cl fp => ets_nil, fun _ => ⟨_, .int (ladle (smallN (ladle pot 3).2 10 i2).2 10).1, fun s H C cl fp => ex_callO 3 FL hr (ea_cons (ex_own 3 rfl) (ea_cons ex_int ea_nil)) rfl ⟨_, 10, rfl, by decide, by decide, a1, rfl, rfl, rfl⟩, ?_, rfl, ?_⟩, (fun z => nomatch z)⟩
          · decide
          · rw [List.length_map, a2, sizeLine_eq]
            omega
          · show _ = ((smallN (ladle pot 3).2 10 i2).1 ++ [_]).map D.int
            rw [List.map_append]
            rfl
        · obtain ⟨rfl, rfl⟩ := hI
          rw [List.length_map, List.length_range]
          exact ⟨rfl, rfl⟩
        · have sp := (sm (1 + (ladle pot 3).1).toNat).1
          have ap := anyPos_ok sp
          refine ess_cons (es_for (I := fun k ρ' => ∃ x6, ρ' = [.own p (.ho u), .dat everyD, .dat (.int (0 + (i : Nat))), .own q (encP (anyPos (smallN (ladle pot 3).2 10 (1 + (ladle pot 3).1).toNat).2).2), .dat (encB fs), .dat (encR (smallN (ladle pot 3).2 10 (1 + (ladle pot 3).1).toNat).1), x6, .no, .no, .no]) PassesOwn.never rfl
            (ei_tup (ex_tup (ea_cons (ex_var 5 rfl) (ea_cons (ex_callO 3 FA hr (ea_cons (ex_own 3 rfl) ea_nil) rfl ⟨_, rfl, sp, rfl, rfl, rfl⟩) ea_nil)))) ⟨.no, rfl⟩ (fun j2 d ρ' hd hI => ?_) (fun ρ' hI => ?_))
          · obtain ⟨x6, rfl⟩ := hI
            obtain ⟨ps, hps, rfl⟩ : ∃ ps : List Int, PosOk ps ∧ d = encR ps := by
              match j2, hd with
              | 0, hd => exact ⟨_, sml, (Option.some.inj hd).symm⟩
              | 1, hd => exact ⟨_, ap.2, (Option.some.inj hd).symm⟩
            refine ⟨_, _, gx_name 6 nd, ?_⟩
            exact ess_cons (es_ifP false (et_eq (et_not (et_val (ex_call FR hr (ea_cons (ex_var 1 rfl) (ea_cons (ex_var 4 rfl) (ea_cons (ex_var 6 rfl) ea_nil))) ⟨fs, ps, hfs, hfl, hps, rfl, rfl⟩))) rfl) (fun z => nomatch z) (fun _ => ess_nil (ess_nil ⟨_, rfl⟩)))
          · obtain ⟨x6, rfl⟩ := hI
            exact ess_cons (es_ifP false (et_eq (et_not (et_val (ex_call FF hr (ea_cons (ex_var 4 rfl) ea_nil) ⟨fs, hfs, hfl, rfl, rfl⟩))) rfl) (fun z => nomatch z) (fun _ => ess_nil (ess_nil ⟨_, _, _, _, ap.1, rfl⟩)))
      · obtain ⟨pot, x4, x5, x6, hpot, rfl⟩ := hI
        exact ess_nil ⟨_, _, _, _, _, rfl⟩
    · obtain ⟨x2, x3, x4, x5, x6, rfl⟩ := hI
      refine ess_drop 6 ?_
      refine ess_cons (es_set 7 (d := encB bkK) (ex_tup (ea_cons (ex_tup (ea_cons ex_str (ea_cons (ex_tup (ea_cons ex_int ea_nil)) ea_nil))) (ea_cons (ex_tup (ea_cons ex_str (ea_cons (ex_tup (ea_cons ex_int ea_nil)) ea_nil))) ea_nil))) ?_ nd)
      refine ess_cons (LcOk.asg (xs := dueK.map fun m => .lst (m.map encM)) (own := [("_law_position", 6)]) 8 sc_law (LcOk.eq (lc_map (zs := posK) (enc := encR) (fun p => .lst ((sureBy (left bkK) p).map encM))
        (ei_tup (ex_tup (ea_cons (ex_tup (ea_cons ex_int ea_nil)) (ea_cons (ex_tup (ea_cons ex_int (ea_cons ex_int (ea_cons ex_int ea_nil)))) (ea_cons (ex_tup (ea_cons ex_int ea_nil)) ea_nil))))) (fun a _ s H C cl fp => gx_name 6 nd)
        (fun a ha s H C cl fp => ex_call F3 hr (ea_cons (ex_var 7 rfl) (ea_cons (ex_var 6 rfl) ea_nil)) (sure_R bkK_ok (by decide) (posK_ok a ha) bkK_ne)) (by rw [sizeLine_eq]; decide)) (by rw [← calc1, List.map_map]; rfl)) ?_)
      refine ess_cons (es_ifP false (et_eq (et_neD (n := 4) (m := 4) hr (ex_var 8 rfl) (ex_lst (ea_cons (ex_lst (ea_cons (ex_tup (ea_cons ex_int (ea_cons ex_int ea_nil))) ea_nil)) (ea_cons (ex_lst (ea_cons (ex_tup (ea_cons ex_int (ea_cons ex_int ea_nil))) (ea_cons (ex_tup (ea_cons ex_int (ea_cons ex_int ea_nil))) (ea_cons (ex_tup (ea_cons ex_int (ea_cons ex_int ea_nil))) ea_nil)))) (ea_cons (ex_lst ea_nil) ea_nil)))) (by decide +kernel) (by decide +kernel)) (by decide +kernel)) (fun z => nomatch z) (fun _ => ess_nil ?_))
      refine ess_cons (LcOk.asg (xs := dueK2.map encBM) (own := [("_law_position", 6)]) 8 sc_law (LcOk.eq (lc_map (zs := posK2) (enc := encR) (fun p => encBM (bestBy (left bkK) p))
        (ei_tup (ex_tup (ea_cons (ex_tup (ea_cons ex_int ea_nil)) (ea_cons (ex_tup (ea_cons ex_int ea_nil)) (ea_cons (ex_tup (ea_cons ex_int ea_nil)) (ea_cons (ex_tup (ea_cons ex_int (ea_cons ex_int ea_nil))) (ea_cons (ex_tup (ea_cons ex_int ea_nil)) ea_nil))))))) (fun a _ s H C cl fp => gx_name 6 nd)
        (fun a ha s H C cl fp => ex_call F4 hr (ea_cons (ex_var 7 rfl) (ea_cons (ex_var 6 rfl) ea_nil)) (best_R bkK_ok (by decide) (posK2_ok a ha) bkK_ne)) (by rw [sizeLine_eq]; decide)) (by rw [← calc2, List.map_map]; rfl)) ?_)
      refine ess_cons (es_ifP false (et_eq (et_neD (n := 4) (m := 4) hr (ex_var 8 rfl) (ex_lst (ea_cons (ex_tup (ea_cons ex_int (ea_cons (ex_lst (ea_cons (ex_tup (ea_cons ex_int (ea_cons ex_int ea_nil))) ea_nil)) ea_nil))) (ea_cons (ex_tup (ea_cons ex_int (ea_cons (ex_lst (ea_cons (ex_tup (ea_cons ex_int (ea_cons ex_int ea_nil))) ea_nil)) ea_nil)))
        (ea_cons (ex_tup (ea_cons ex_int (ea_cons (ex_lst ea_nil) ea_nil))) (ea_cons (ex_tup (ea_cons ex_int (ea_cons (ex_lst (ea_cons (ex_tup (ea_cons ex_int (ea_cons ex_int ea_nil))) ea_nil)) ea_nil))) (ea_cons (ex_tup (ea_cons ex_int (ea_cons (ex_lst ea_nil) ea_nil))) ea_nil)))))) (by decide +kernel) (by decide +kernel)) (by decide +kernel)) (fun z => nomatch z) (fun _ => ess_nil ?_))
      have r3 : R_best_moves CB CP CI [D.tup [], D.tup [D.int 2]] (.dat (encBM (32, [(0, 2)]))) := by
        rw [← calc3]
        exact best_R (fs := []) (fun _ h => nomatch h) (by decide) pos2_ok all_ne
      have r4 : R_sure_moves CB CP CI [D.tup [.tup [.str "may", .int 2], .tup [.str "not", .int 1]], D.tup [D.int 2]] (.dat (.lst ([((0 : Int), (2 : Int))].map encM))) := by
        rw [← calc4]
        exact sure_R mn_ok (by decide) pos2_ok mn_ne
      refine ess_cons (es_ifP false (et_eq (et_neD (n := 4) (m := 4) hr (ex_call F4 hr (ea_cons (ex_tup ea_nil) (ea_cons (ex_tup (ea_cons ex_int ea_nil)) ea_nil)) r3)
        (ex_tup (ea_cons ex_int (ea_cons (ex_lst (ea_cons (ex_tup (ea_cons ex_int (ea_cons ex_int ea_nil))) ea_nil)) ea_nil))) (by decide +kernel) (by decide +kernel)) (by decide +kernel)) (fun z => nomatch z) (fun _ => ess_nil ?_))
      refine ess_cons (es_ret (ex_eqD (n := 4) (m := 4) hr (ex_call F3 hr (ea_cons (ex_tup (ea_cons (ex_tup (ea_cons ex_str (ea_cons ex_int ea_nil))) (ea_cons (ex_tup (ea_cons ex_str (ea_cons ex_int ea_nil))) ea_nil))) (ea_cons (ex_tup (ea_cons ex_int ea_nil)) ea_nil)) r4)
        (ex_lst (ea_cons (ex_tup (ea_cons ex_int (ea_cons ex_int ea_nil))) ea_nil)) (by decide +kernel) (by decide +kernel)) ⟨?_, 0, rfl⟩)
      show Rs.dat _ = Rs.dat _
      congr 2
end
end Pf
set_option Elab.async false
open PySem PySem.W PyProof.Rows
set_option maxRecDepth 100000
set_option maxHeartbeats 8000000
open_top hd for PySem.Challenge.rw_heapsuntold_k07_moves_that_surely_win_or
set_option Elab.async false
set_option linter.all false
set_option maxRecDepth 100000
set_option maxHeartbeats 4000000
namespace Pf
open PySem PySem.Spec PyProof.Rows L2 DL HX LamX
/-- in a list of tables, one name for each -/
theorem apart_of : ∀ {T : Tb}, (T.map (·.1)).Nodup → ∀ {p : Addr × Str}, p ∈ T → ∀ q ∈ T, q.1 = p.1 → q.2 = p.2
  | [], _, p, m => by cases m
  | t :: r, nd, p, m => fun q hq e => by
    have nd2 := List.nodup_cons.mp nd
    rcases List.mem_cons.mp m with rfl | m2
    · rcases List.mem_cons.mp hq with rfl | hq
      · rfl
      · exact (nd2.1 (List.mem_map.mpr ⟨q, hq, e⟩)).elim
    · rcases List.mem_cons.mp hq with rfl | hq
      · exact (nd2.1 (List.mem_map.mpr ⟨p, m2, e.symm⟩)).elim
      · exact apart_of nd2.2 m2 q hq e
/-- what the top of the text has written -/
structure Txt (K : PySem.W.Frag) (mg : Str → Option Value) (CH C_Impossible C_InvalidBook C_InvalidPosition : Addr) : Prop where
  m_Mg : Mg mg
  m_Mg2 : Mg2 mg
  m_Mg3 : Mg3 mg
  m_Mg4 : Mg4 mg
  d_is_integer : Df K mg "is_integer" s_is_integer ["value", "low", "high"]
  d_is_position : Df K mg "is_position" s_is_position ["value"]
  d_is_fact : Df K mg "is_fact" s_is_fact ["value"]
  d_is_book : Df K mg "is_book" s_is_book ["value"]
  d_need_position : Df K mg "need_position" s_need_position ["value"]
  d_need_book : Df K mg "need_book" s_need_book ["value"]
  d_lots_from : Df K mg "lots_from" s_lots_from ["first", "last"]
  d_least_free : Df K mg "least_free" s_least_free ["numbers"]
  d_rounds_of : Df K mg "rounds_of" s_rounds_of ["rule"]
  d_told_by : Df K mg "told_by" s_told_by ["early", "again", "heap"]
  d_is_lost_by : Df K mg "is_lost_by" s_is_lost_by ["rule", "position"]
  d_goes_with : Df K mg "goes_with" s_goes_with ["rule", "fact"]
  d_all_rules : Df K mg "all_rules" s_all_rules []
  d_rules_with : Df K mg "rules_with" s_rules_with ["rules", "facts"]
  d_some_rules : Df K mg "some_rules" s_some_rules ["book"]
  d_behind_move : Df K mg "behind_move" s_behind_move ["position", "index", "take"]
  d_votes : Df K mg "votes" s_votes ["rules", "position"]
  d_sure_by : Df K mg "sure_by" s_sure_by ["rules", "position"]
  d_sure_moves : Df K mg "sure_moves" s_sure_moves ["book", "position"]
  d_best_moves : Df K mg "best_moves" s_best_moves ["book", "position"]
  d__law_pot : Df K mg "_law_pot" s_pot ["_law_script", "_law_k"]
  d__law_ladle : Df K mg "_law_ladle" s_ladle ["_law_pot_here", "_law_many"]
  d__law_choose : Df K mg "_law_choose" s_choose ["_law_pot_here", "_law_things"]
  d__law_every_rule : Df K mg "_law_every_rule" s_every_rule []
  d__law_any_rule : Df K mg "_law_any_rule" s_any_rule ["_law_pot_here"]
  d__law_first_worths : Df K mg "_law_first_worths" s_first_worths ["_law_rule", "_law_many"]
  d__law_known : Df K mg "_law_known" s_known ["_law_rule"]
  d__law_worth : Df K mg "_law_worth" s_worth ["_law_known_here", "_law_heap"]
  d__law_lost : Df K mg "_law_lost" s_lost ["_law_known_here", "_law_position"]
  d__law_any_heap : Df K mg "_law_any_heap" s_any_heap ["_law_pot_here"]
  d__law_any_position : Df K mg "_law_any_position" s_any_position ["_law_pot_here"]
  d__law_all_known : Df K mg "_law_all_known" s_all_known []
  d__law_goes : Df K mg "_law_goes" s_lgoes ["_law_every", "_law_rule", "_law_fact"]
  d__law_left : Df K mg "_law_left" s_left ["_law_every", "_law_facts"]
  d__law_any_fact : Df K mg "_law_any_fact" s_any_fact ["_law_every", "_law_pot_here", "_law_rule"]
  d__law_any_book : Df K mg "_law_any_book" s_any_book ["_law_every", "_law_pot_here", "_law_most"]
  d__law_behind : Df K mg "_law_behind" s_behind ["_law_position", "_law_index", "_law_take"]
  d__law_rows : Df K mg "_law_rows" s_rows ["_law_every", "_law_left_here", "_law_position"]
  d_law : Df K mg "law" s_law ["_law_script"]
  d__law_word : Df K mg "_law_word" s_word ["_law_call"]
  d__law_names : Df K mg "_law_names" s_names ["_law_error"]
  x_InvalidPosition : XCls K mg "InvalidPosition" C_InvalidPosition
  x_InvalidBook : XCls K mg "InvalidBook" C_InvalidBook
  x_Impossible : XCls K mg "Impossible" C_Impossible
  e_Impossible : ErrX K mg CH "Impossible" C_Impossible
  e_InvalidPosition : ErrX K mg CH "InvalidPosition" C_InvalidPosition
  e_InvalidBook : ErrX K mg CH "InvalidBook" C_InvalidBook
  g_HeapError : mg "HeapError" = some (.ref CH)
def errsOk (K : PySem.W.Frag) (D0 : Addr) (x : Str) (cs : List (Str × Addr)) : Bool := cs.all fun p => decide (PySem.W.kitOne K (.ref D0) (.ref p.2) = some (decide (p.1 = x)))
theorem errC_of {K : PySem.W.Frag} {mg : Str → Option Value} {x : Str} {D0 : Addr} (cs : List (Str × Addr)) (e : ExcC K D0) (hg : ∀ p ∈ cs, mg p.1 = some (.ref p.2)) (hn : cs.map (·.1) = errNames) (hk : errsOk K D0 x cs = true) (hv : PySem.W.kitOne K (.ref D0) (.type "ValueError") = some true) : ErrC K mg x D0 where
  e := e
  k := fun y hy => by
    rw [← hn] at hy
    obtain ⟨p, hp, rfl⟩ := List.mem_map.mp hy
    exact ⟨p.2, hg p hp, of_decide_eq_true (List.all_eq_true.mp hk p hp)⟩
  v := hv
theorem lam_mk {K : PySem.W.Frag} {mg : Str → Option Value} {base : Heap} {T : Tb} {hp : Heap} {x : Str} {st : Stmt} {ps : List Str} {f c Pt : Addr} {oc : Value} {od an : Option Addr} {osl : Array (Option Value)} {kV doc pm ct : Value} (KX : K.In hp) (G : hp.Ns mainGlobals mg)
    (a : PySem.W.nsIn K mainGlobals x = some (some (.ref f))) (l : K.lookup f = some ⟨oc, od, .func (PySem.W.fnOf x x (defArgs st) (defBody st) (defScope st) .none kV doc pm an (.ref c) ct), osl⟩) (cc : PySem.W.codeIn K (.ref c) x = true) (k : PySem.W.keepIn K (.ref f) = true)
    (b : ∀ (kV doc pm : Value) (an : Option Addr) (cdv ct : Value) (us : List Value), us.length = ps.length → bindArgs (PySem.W.fnOf x x (defArgs st) (defBody st) (defScope st) .none kV doc pm an cdv ct) ⟨us, []⟩ = pure (ps.zip us))
    (tb : TabB base mg c Pt) (hT : (Pt, x ++ ".<locals>." ++ "<lambda>") ∈ T) (hu : ∀ p ∈ T, p.1 = Pt → p.2 = x ++ ".<locals>." ++ "<lambda>") : LamD K mg base T x st ps :=
  ⟨_, _, c, Pt, PySem.W.mg_of KX G a, k, ⟨oc, od, kV, doc, pm, an, ct, osl, rfl, l, cc⟩, (fun_mk l cc k).binds b, tb, hT, hu⟩
section
variable {P : Program} {w : World} {K : PySem.W.Frag} {mg : Str → Option Value} {base : Heap} {T : Tb}
theorem word_ok {CH C_Impossible C_InvalidBook C_InvalidPosition : Addr} (X : Txt K mg CH C_Impossible C_InvalidBook C_InvalidPosition) : WordD P w K mg base T CH := by
  obtain ⟨g, fd, a1, a2, a3⟩ := X.d__law_word.ex
  obtain ⟨fN, fdN, b1, b2, b3⟩ := X.d__law_names.ex
  exact ⟨g, fd, fN, fdN, a1, a2.kp, a2, a3, X.g_HeapError, b1, b2.kp, b3, fun x D0 h => ok_names X.m_Mg X.m_Mg4 h b2⟩
theorem all_ok {CH C_Impossible C_InvalidBook C_InvalidPosition f : Addr} {fd : FuncData} (F : L2.Fun K "law" "law" s_law f fd) (T0 : Txt K mg CH C_Impossible C_InvalidBook C_InvalidPosition) (l__law_right : LamD K mg base T "_law_right" s_right ["_law_every", "_law_book", "_law_position"]) (l__law_refused : LamD K mg base T "_law_refused" s_refused ["_law_book"]) : FnOk P w K mg base CX0 14 f fd ["_law_script"] (spO K T R_law) := by
  have Wd : WordD P w K mg base T CH := word_ok T0
  have h_is_integer := ok_is_integer (P := P) (w := w) (base := base) (T := T) T0.m_Mg T0.d_is_integer
  have h_is_position := ok_is_position (P := P) (w := w) (base := base) (T := T) T0.m_Mg T0.d_is_position h_is_integer
  have h_is_fact := ok_is_fact (P := P) (w := w) (base := base) (T := T) T0.m_Mg T0.d_is_fact h_is_integer h_is_position
  have h_is_book := ok_is_book (P := P) (w := w) (base := base) (T := T) T0.m_Mg T0.d_is_book h_is_fact
  have h_need_position := ok_need_position (P := P) (w := w) (base := base) (T := T) T0.m_Mg T0.x_InvalidPosition T0.d_need_position h_is_position
  have h_need_book := ok_need_book (P := P) (w := w) (base := base) (T := T) T0.m_Mg T0.x_InvalidBook T0.d_need_book h_is_book
  have h_lots_from := fun n : Nat => ok_lots_from (P := P) (w := w) (base := base) (T := T) T0.m_Mg T0.d_lots_from n
  have h_least_free := ok_least_free (P := P) (w := w) (base := base) (T := T) T0.m_Mg T0.d_least_free
  have h_rounds_of := ok_rounds_of (P := P) (w := w) (base := base) (T := T) T0.m_Mg T0.d_rounds_of h_least_free
  have h_told_by := ok_told_by (P := P) (w := w) (base := base) (T := T) T0.m_Mg T0.d_told_by
  have h_is_lost_by := ok_is_lost_by (P := P) (w := w) (base := base) (T := T) T0.m_Mg T0.d_is_lost_by h_rounds_of h_told_by
  have h_goes_with := ok_goes_with (P := P) (w := w) (base := base) (T := T) T0.m_Mg T0.d_goes_with h_is_lost_by
  have h_all_rules := ok_all_rules (P := P) (w := w) (base := base) (T := T) T0.m_Mg T0.d_all_rules (h_lots_from 7)
  have h_rules_with := ok_rules_with (P := P) (w := w) (base := base) (T := T) T0.m_Mg T0.d_rules_with h_goes_with
  have h_some_rules := ok_some_rules (P := P) (w := w) (base := base) (T := T) T0.m_Mg T0.x_Impossible T0.d_some_rules h_all_rules h_rules_with
  have h_behind_move := ok_behind_move (P := P) (w := w) (base := base) (T := T) T0.m_Mg T0.d_behind_move
  have h_votes := ok_votes (P := P) (w := w) (base := base) (T := T) T0.m_Mg T0.m_Mg2 T0.d_votes h_behind_move h_is_lost_by
  have h_sure_by := ok_sure_by (P := P) (w := w) (base := base) (T := T) T0.m_Mg T0.d_sure_by h_votes
  have h_sure_moves := ok_sure_moves (P := P) (w := w) (base := base) (T := T) T0.m_Mg T0.d_sure_moves h_need_book h_need_position h_some_rules h_sure_by
  have h_best_moves := ok_best_moves (P := P) (w := w) (base := base) (T := T) T0.m_Mg T0.m_Mg2 T0.d_best_moves h_need_book h_need_position h_some_rules h_votes
  have h__law_pot := ok_pot (P := P) (w := w) (base := base) (T := T) T0.m_Mg T0.m_Mg3 T0.d__law_pot
  have h__law_ladle := ok_ladle (P := P) (w := w) (base := base) (T := T) T0.m_Mg T0.d__law_ladle
  have h__law_choose := ok_choose (P := P) (w := w) (base := base) (T := T) T0.m_Mg T0.d__law_choose h__law_ladle
  have h__law_every_rule := ok_every_rule (P := P) (w := w) (base := base) (T := T) T0.m_Mg T0.m_Mg3 T0.d__law_every_rule
  have h__law_any_rule := ok_any_rule (P := P) (w := w) (base := base) (T := T) T0.m_Mg T0.d__law_any_rule h__law_choose h__law_every_rule
  have h__law_first_worths := ok_first_worths (P := P) (w := w) (base := base) (T := T) T0.m_Mg T0.d__law_first_worths
  have h__law_known := ok_known (P := P) (w := w) (base := base) (T := T) T0.m_Mg T0.d__law_known h__law_first_worths
  have h__law_worth := ok_worth (P := P) (w := w) (base := base) (T := T) T0.m_Mg T0.d__law_worth
  have h__law_lost := ok_lost (P := P) (w := w) (base := base) (T := T) T0.m_Mg T0.d__law_lost h__law_worth
  have h__law_any_heap := ok_any_heap (P := P) (w := w) (base := base) (T := T) T0.m_Mg T0.d__law_any_heap h__law_ladle
  have h__law_any_position := ok_any_position (P := P) (w := w) (base := base) (T := T) T0.m_Mg T0.d__law_any_position h__law_ladle h__law_any_heap
  have h__law_all_known := ok_all_known (P := P) (w := w) (base := base) (T := T) T0.m_Mg T0.m_Mg3 T0.d__law_all_known h__law_every_rule h__law_known
  have h__law_goes := ok_lgoes (P := P) (w := w) (base := base) (T := T) T0.m_Mg T0.d__law_goes h__law_lost
  have h__law_left := ok_left (P := P) (w := w) (base := base) (T := T) T0.m_Mg T0.m_Mg3 T0.d__law_left h__law_goes
  have h__law_any_fact := ok_any_fact (P := P) (w := w) (base := base) (T := T) T0.m_Mg T0.d__law_any_fact h__law_ladle h__law_any_position h__law_lost
  have h__law_any_book := ok_any_book (P := P) (w := w) (base := base) (T := T) T0.m_Mg T0.d__law_any_book h__law_ladle h__law_any_rule h__law_any_fact
  have h__law_behind := ok_behind (P := P) (w := w) (base := base) (T := T) T0.m_Mg T0.d__law_behind
  have h__law_rows := ok_rows (P := P) (w := w) (base := base) (T := T) T0.m_Mg T0.m_Mg2 T0.d__law_rows h__law_behind h__law_lost
  have h__law_right := ok_right (P := P) (w := w) (base := base) (T := T) T0.m_Mg T0.m_Mg3 Wd T0.e_Impossible l__law_right h__law_left h__law_rows h_sure_moves h_best_moves
  have h__law_refused := ok_refused (P := P) (w := w) (base := base) (T := T) T0.m_Mg Wd T0.e_InvalidPosition T0.e_InvalidBook l__law_refused h_sure_moves h_best_moves
  exact ok_law T0.m_Mg T0.m_Mg2 F h__law_all_known h__law_pot h__law_ladle h__law_any_book h__law_any_position h__law_right h__law_refused h_sure_moves h_best_moves
end
/-- a def with lambdas, as the head shows it -/
structure LamH (K : PySem.W.Frag) (mg : Str → Option Value) (hp : Heap) (x : Str) (st : Stmt) (ps : List Str) (c Pt : Addr) : Prop where
  d : ∃ f fd, mg x = some (.ref f) ∧ PySem.W.keepIn K (.ref f) = true ∧ FunC K x x st f fd c ∧ Binds K fd ps []
  h : PySem.W.CodeHd hp c Pt
  t : hp.get? Pt = some { cls := .none, data := .fields #[] }
  n : K.lookup Pt = none
theorem lamH_mk {K : PySem.W.Frag} {mg : Str → Option Value} {hp : Heap} {x : Str} {st : Stmt} {ps : List Str} {f c Pt : Addr} {oc e : Value} {od an dd : Option Addr} {osl sl : Array (Option Value)} {vs : Array Value} {kV doc pm ct : Value} (KX : K.In hp) (G : hp.Ns mainGlobals mg)
    (a : PySem.W.nsIn K mainGlobals x = some (some (.ref f))) (l : K.lookup f = some ⟨oc, od, .func (PySem.W.fnOf x x (defArgs st) (defBody st) (defScope st) .none kV doc pm an (.ref c) ct), osl⟩) (cc : PySem.W.codeIn K (.ref c) x = true) (k : PySem.W.keepIn K (.ref f) = true)
    (lc : K.lookup c = some ⟨e, dd, .fields vs, sl⟩) (hv : vs[11]? = some (.ref Pt)) (hc : PySem.W.codeHdIn K c Pt = true) (tb : hp.get? Pt = some { cls := .none, data := .fields #[] }) (nk : K.lookup Pt = none)
    (b : ∀ (kV doc pm : Value) (an : Option Addr) (cdv ct : Value) (us : List Value), us.length = ps.length → bindArgs (PySem.W.fnOf x x (defArgs st) (defBody st) (defScope st) .none kV doc pm an cdv ct) ⟨us, []⟩ = pure (ps.zip us)) : LamH K mg hp x st ps c Pt :=
  ⟨⟨_, _, PySem.W.mg_of KX G a, k, ⟨oc, od, kV, doc, pm, an, ct, osl, rfl, l, cc⟩, (fun_mk l cc k).binds b⟩, PySem.W.codeHd_of_K KX hc, tb, nk⟩
theorem LamH.lam {K : PySem.W.Frag} {mg : Str → Option Value} {hp base : Heap} {T : Tb} {x : Str} {st : Stmt} {ps : List Str} {c Pt : Addr} (h : LamH K mg hp x st ps c Pt) (tb : TabB base mg c Pt) (hT : (Pt, x ++ ".<locals>." ++ "<lambda>") ∈ T) (hu : ∀ p ∈ T, p.1 = Pt → p.2 = x ++ ".<locals>." ++ "<lambda>") : LamD K mg base T x st ps := by
  obtain ⟨f, fd, a1, a2, a3, a4⟩ := h.d
  exact ⟨f, fd, c, Pt, a1, a2, a3, a4, tb, hT, hu⟩
inductive ErrsAt (mg : Str → Option Value) : List (Str × Addr) → Prop
  | nil : ErrsAt mg []
  | cons {x : Str} {C : Addr} {r : List (Str × Addr)} : mg x = some (.ref C) → ErrsAt mg r → ErrsAt mg ((x, C) :: r)
theorem ErrsAt.all {mg : Str → Option Value} : ∀ {cs : List (Str × Addr)}, ErrsAt mg cs → ∀ p ∈ cs, mg p.1 = some (.ref p.2)
  | _, .nil, p, hp => by cases hp
  | _, .cons a r, p, hp => by
    rcases List.mem_cons.mp hp with rfl | hp
    · exact a
    · exact r.all p hp
theorem xcls_mk {K : PySem.W.Frag} {mg : Str → Option Value} {hp : Heap} {x : Str} {C : Addr} (KX : K.In hp) (g : mg x = some (.ref C)) (q : PySem.W.excIn K C veB "ValueError.__new__" = true) (k : PySem.W.keepIn K (.ref C) = true) (b : PySem.W.subIn K (.ref C) (.type "BaseException") = some true) (t : PySem.W.typeIn K (.ref C) = some (.type "type")) : XCls K mg x C := ⟨g, q, k, b, t⟩
theorem errX_mk {K : PySem.W.Frag} {mg : Str → Option Value} {hp : Heap} {cs : List (Str × Addr)} {x : Str} {C CH : Addr} (KX : K.In hp) (errs : ErrsAt mg cs) (hn : cs.map (·.1) = errNames) (a : mg x = some (.ref C)) (ah : mg "HeapError" = some (.ref CH))
    (e1 : PySem.W.findIn K (.ref C) "__getattribute__" = some (some (.builtin "BaseException.__getattribute__"))) (e2 : PySem.W.findIn K (.ref C) "__getattr__" = some none) (e3 : PySem.W.subIn K (.ref C) (.type "BaseException") = some true) (e4 : PySem.W.hasDictIn K C = true)
    (e5 : PySem.W.findIn K (.ref C) "__class__" = some (some (.builtin "object.__class__"))) (e6 : PySem.W.specialIn K (.builtin "object.__class__") "__get__" = some (some (.builtin "getset_descriptor.__get__"))) (e7 : PySem.W.takesIn K (.builtin "object.__class__") = some true) (e8 : PySem.W.mroIn K C (.type "object") = some true)
    (hk : errsOk K C x cs = true) (hv : PySem.W.kitOne K (.ref C) (.type "ValueError") = some true) (hx : PySem.W.exmOne K (.ref C) (.ref CH) = some true) : ErrX K mg CH x C :=
  ⟨errC_of cs ⟨e1, e2, e3, e4, e5, e6, e7, e8⟩ errs.all hn hk hv, hx⟩
theorem noLists_mk {K : PySem.W.Frag} {hp : Heap} (KX : K.In hp) (h : noLists K = true) : noLists K = true := h
theorem ci_loose {lv : List (Str × PySem.W.WData)} {mg : Str → Option Value} {hp : Heap} {x : Str} {i : Int} (X : PySem.W.LooseAre lv mg hp) (m : (x, PySem.W.WData.int i) ∈ lv) : CI mg x i := by
  obtain ⟨v, h1, h2⟩ := X.val _ m
  cases h2 with
  | int i t => exact ⟨t, h1⟩
theorem law_at {w : World} {K : PySem.W.Frag} {mg : Str → Option Value} {hp : Heap} {CH C_Impossible C_InvalidBook C_InvalidPosition fa c__law_right P__law_right c__law_refused P__law_refused : Addr} (T0 : Txt K mg CH C_Impossible C_InvalidBook C_InvalidPosition) (no : noLists K = true) (L__law_right : LamH K mg hp "_law_right" s_right ["_law_every", "_law_book", "_law_position"] c__law_right P__law_right) (L__law_refused : LamH K mg hp "_law_refused" s_refused ["_law_book"] c__law_refused P__law_refused) (hfa : mg "law" = some (.ref fa)) (ne : [P__law_right, P__law_refused].Nodup) :
    LawAtS PySem.Challenge.rw_heapsuntold_k07_moves_that_surely_win_or w K CX0 14 63 "_law_script" mg fa hp := by
  obtain ⟨f, fd, a1, F, b⟩ := T0.d_law.ex
  have e := hfa.symm.trans a1
  cases e
  have hbind : ∀ (s : Shared) (u : Value), BindsTo s fd ⟨[u], []⟩ [("_law_script", u)] := by
    obtain ⟨oc, od, kV, doc, pm, an, cdv, ct, osl, rfl, lk, hcd⟩ := F.ex
    exact fun s u => .of_eq rfl
  refine ⟨fd, [(c__law_right, P__law_right), (c__law_refused, P__law_refused)], spO K [(P__law_right, ("_law_right" : Str) ++ ".<locals>." ++ "<lambda>"), (P__law_refused, ("_law_refused" : Str) ++ ".<locals>." ++ "<lambda>")] R_law, ?_, ?_, ?_, hbind, fun H a ns hl _ ht hS => ?_, fun base _ _ tb => ?_⟩
  · intro p hp
    simp only [List.mem_cons, List.not_mem_nil, or_false] at hp
    rcases hp with rfl | rfl
    · exact L__law_right.t
    · exact L__law_refused.t
  · intro p hp
    simp only [List.mem_cons, List.not_mem_nil, or_false] at hp
    rcases hp with rfl | rfl
    · exact L__law_right.n
    · exact L__law_refused.n
  · intro p hp
    simp only [List.mem_cons, List.not_mem_nil, or_false] at hp
    rcases hp with rfl | rfl
    · exact L__law_right.h
    · exact L__law_refused.h
  · obtain ⟨u, e, hu⟩ := scr_of no hS
    refine ⟨_, _, [.raw (.ref a)], a, .ho u, .ho u, .dat (.bl true), sta_law e hu fun p hp => ?_, .cons (.raw _) .nil, ⟨u, ns, rfl, hl, hu, rfl, rfl, rfl⟩, fun G' H' _ _ => ⟨fun v r => r.bl_inv, fun C z => nomatch z⟩⟩
    simp only [List.mem_cons, List.not_mem_nil, or_false] at hp
    rcases hp with rfl | rfl
    · exact ht (c__law_right, P__law_right) (by simp)
    · exact ht (c__law_refused, P__law_refused) (by simp)
  · refine all_ok F T0 ?_ ?_
    · exact L__law_right.lam (tb (c__law_right, P__law_right) (by simp)) (by simp) (apart_of (T := [(P__law_right, ("_law_right" : Str) ++ ".<locals>." ++ "<lambda>"), (P__law_refused, ("_law_refused" : Str) ++ ".<locals>." ++ "<lambda>")]) (p := (P__law_right, ("_law_right" : Str) ++ ".<locals>." ++ "<lambda>")) ne (by simp))
    · exact L__law_refused.lam (tb (c__law_refused, P__law_refused) (by simp)) (by simp) (apart_of (T := [(P__law_right, ("_law_right" : Str) ++ ".<locals>." ++ "<lambda>"), (P__law_refused, ("_law_refused" : Str) ++ ".<locals>." ++ "<lambda>")]) (p := (P__law_refused, ("_law_refused" : Str) ++ ".<locals>." ++ "<lambda>")) ne (by simp))
end Pf
set_option Elab.async false
set_option linter.all false
open PySem PySem.W PyProof.Rows DL
set_option maxRecDepth 100000 in
set_option maxHeartbeats 8000000 in
theorem PySem.Challenge.cw_heapsuntold_k07_moves_that_surely_win_or_holds : PySem.Challenge.rw_heapsuntold_k07_moves_that_surely_win_or.Holds :=
  hd (by
    k_fill
    refine DL.walk_loose (l := PySem.Challenge.rw_heapsuntold_k07_moves_that_surely_win_or) (most := 63) (k := 14) (x := "_law_script") (CX := fun _ => L2.CX0) rfl (by decide) rfl ⟨rfl, by decide, by decide⟩ ?F (fun _ _ _ _ _ z => z)
    case F =>
      intro w mg fa hp Y XP G hmg
      have KX := PySem.W.km_in_of Y
      have TBS := PySem.W.km_tabs_of Y
      refine ⟨_, KX, ?_⟩
      refine' DL.keep (p := Df _ mg "is_integer" Pf.s_is_integer ["value", "low", "high"]) (DL.df_mk KX G ?a ?l ?c ?k (fun _ _ _ _ _ _ us hl => match us, hl with | [_, _, _], _ => rfl)) ?_
      (case a => k_is); (case l => k_is); (case c => k_is); (case k => k_is)
      intro d_is_integer
      refine' DL.keep (p := Df _ mg "is_position" Pf.s_is_position ["value"]) (DL.df_mk KX G ?a ?l ?c ?k (fun _ _ _ _ _ _ us hl => match us, hl with | [_], _ => rfl)) ?_
      (case a => k_is); (case l => k_is); (case c => k_is); (case k => k_is)
      intro d_is_position
      refine' DL.keep (p := Df _ mg "is_fact" Pf.s_is_fact ["value"]) (DL.df_mk KX G ?a ?l ?c ?k (fun _ _ _ _ _ _ us hl => match us, hl with | [_], _ => rfl)) ?_
      (case a => k_is); (case l => k_is); (case c => k_is); (case k => k_is)
      intro d_is_fact
      refine' DL.keep (p := Df _ mg "is_book" Pf.s_is_book ["value"]) (DL.df_mk KX G ?a ?l ?c ?k (fun _ _ _ _ _ _ us hl => match us, hl with | [_], _ => rfl)) ?_
      (case a => k_is); (case l => k_is); (case c => k_is); (case k => k_is)
      intro d_is_book
      refine' DL.keep (p := Df _ mg "need_position" Pf.s_need_position ["value"]) (DL.df_mk KX G ?a ?l ?c ?k (fun _ _ _ _ _ _ us hl => match us, hl with | [_], _ => rfl)) ?_
      (case a => k_is); (case l => k_is); (case c => k_is); (case k => k_is)
      intro d_need_position
      refine' DL.keep (p := Df _ mg "need_book" Pf.s_need_book ["value"]) (DL.df_mk KX G ?a ?l ?c ?k (fun _ _ _ _ _ _ us hl => match us, hl with | [_], _ => rfl)) ?_
      (case a => k_is); (case l => k_is); (case c => k_is); (case k => k_is)
      intro d_need_book
      refine' DL.keep (p := Df _ mg "lots_from" Pf.s_lots_from ["first", "last"]) (DL.df_mk KX G ?a ?l ?c ?k (fun _ _ _ _ _ _ us hl => match us, hl with | [_, _], _ => rfl)) ?_
      (case a => k_is); (case l => k_is); (case c => k_is); (case k => k_is)
      intro d_lots_from
      refine' DL.keep (p := Df _ mg "least_free" Pf.s_least_free ["numbers"]) (DL.df_mk KX G ?a ?l ?c ?k (fun _ _ _ _ _ _ us hl => match us, hl with | [_], _ => rfl)) ?_
      (case a => k_is); (case l => k_is); (case c => k_is); (case k => k_is)
      intro d_least_free
      refine' DL.keep (p := Df _ mg "rounds_of" Pf.s_rounds_of ["rule"]) (DL.df_mk KX G ?a ?l ?c ?k (fun _ _ _ _ _ _ us hl => match us, hl with | [_], _ => rfl)) ?_
      (case a => k_is); (case l => k_is); (case c => k_is); (case k => k_is)
      intro d_rounds_of
      refine' DL.keep (p := Df _ mg "told_by" Pf.s_told_by ["early", "again", "heap"]) (DL.df_mk KX G ?a ?l ?c ?k (fun _ _ _ _ _ _ us hl => match us, hl with | [_, _, _], _ => rfl)) ?_
      (case a => k_is); (case l => k_is); (case c => k_is); (case k => k_is)
      intro d_told_by
      refine' DL.keep (p := Df _ mg "is_lost_by" Pf.s_is_lost_by ["rule", "position"]) (DL.df_mk KX G ?a ?l ?c ?k (fun _ _ _ _ _ _ us hl => match us, hl with | [_, _], _ => rfl)) ?_
      (case a => k_is); (case l => k_is); (case c => k_is); (case k => k_is)
      intro d_is_lost_by
      refine' DL.keep (p := Df _ mg "goes_with" Pf.s_goes_with ["rule", "fact"]) (DL.df_mk KX G ?a ?l ?c ?k (fun _ _ _ _ _ _ us hl => match us, hl with | [_, _], _ => rfl)) ?_
      (case a => k_is); (case l => k_is); (case c => k_is); (case k => k_is)
      intro d_goes_with
      refine' DL.keep (p := Df _ mg "all_rules" Pf.s_all_rules []) (DL.df_mk KX G ?a ?l ?c ?k (fun _ _ _ _ _ _ us hl => match us, hl with | [], _ => rfl)) ?_
      (case a => k_is); (case l => k_is); (case c => k_is); (case k => k_is)
      intro d_all_rules
      refine' DL.keep (p := Df _ mg "rules_with" Pf.s_rules_with ["rules", "facts"]) (DL.df_mk KX G ?a ?l ?c ?k (fun _ _ _ _ _ _ us hl => match us, hl with | [_, _], _ => rfl)) ?_
      (case a => k_is); (case l => k_is); (case c => k_is); (case k => k_is)
      intro d_rules_with
      refine' DL.keep (p := Df _ mg "some_rules" Pf.s_some_rules ["book"]) (DL.df_mk KX G ?a ?l ?c ?k (fun _ _ _ _ _ _ us hl => match us, hl with | [_], _ => rfl)) ?_
      (case a => k_is); (case l => k_is); (case c => k_is); (case k => k_is)
      intro d_some_rules
      refine' DL.keep (p := Df _ mg "behind_move" Pf.s_behind_move ["position", "index", "take"]) (DL.df_mk KX G ?a ?l ?c ?k (fun _ _ _ _ _ _ us hl => match us, hl with | [_, _, _], _ => rfl)) ?_
      (case a => k_is); (case l => k_is); (case c => k_is); (case k => k_is)
      intro d_behind_move
      refine' DL.keep (p := Df _ mg "votes" Pf.s_votes ["rules", "position"]) (DL.df_mk KX G ?a ?l ?c ?k (fun _ _ _ _ _ _ us hl => match us, hl with | [_, _], _ => rfl)) ?_
      (case a => k_is); (case l => k_is); (case c => k_is); (case k => k_is)
      intro d_votes
      refine' DL.keep (p := Df _ mg "sure_by" Pf.s_sure_by ["rules", "position"]) (DL.df_mk KX G ?a ?l ?c ?k (fun _ _ _ _ _ _ us hl => match us, hl with | [_, _], _ => rfl)) ?_
      (case a => k_is); (case l => k_is); (case c => k_is); (case k => k_is)
      intro d_sure_by
      refine' DL.keep (p := Df _ mg "sure_moves" Pf.s_sure_moves ["book", "position"]) (DL.df_mk KX G ?a ?l ?c ?k (fun _ _ _ _ _ _ us hl => match us, hl with | [_, _], _ => rfl)) ?_
      (case a => k_is); (case l => k_is); (case c => k_is); (case k => k_is)
      intro d_sure_moves
      refine' DL.keep (p := Df _ mg "best_moves" Pf.s_best_moves ["book", "position"]) (DL.df_mk KX G ?a ?l ?c ?k (fun _ _ _ _ _ _ us hl => match us, hl with | [_, _], _ => rfl)) ?_
      (case a => k_is); (case l => k_is); (case c => k_is); (case k => k_is)
      intro d_best_moves
      refine' DL.keep (p := Df _ mg "_law_pot" Pf.s_pot ["_law_script", "_law_k"]) (DL.df_mk KX G ?a ?l ?c ?k (fun _ _ _ _ _ _ us hl => match us, hl with | [_, _], _ => rfl)) ?_
      (case a => k_is); (case l => k_is); (case c => k_is); (case k => k_is)
      intro d__law_pot
      refine' DL.keep (p := Df _ mg "_law_ladle" Pf.s_ladle ["_law_pot_here", "_law_many"]) (DL.df_mk KX G ?a ?l ?c ?k (fun _ _ _ _ _ _ us hl => match us, hl with | [_, _], _ => rfl)) ?_
      (case a => k_is); (case l => k_is); (case c => k_is); (case k => k_is)
      intro d__law_ladle
      refine' DL.keep (p := Df _ mg "_law_choose" Pf.s_choose ["_law_pot_here", "_law_things"]) (DL.df_mk KX G ?a ?l ?c ?k (fun _ _ _ _ _ _ us hl => match us, hl with | [_, _], _ => rfl)) ?_
      (case a => k_is); (case l => k_is); (case c => k_is); (case k => k_is)
      intro d__law_choose
      refine' DL.keep (p := Df _ mg "_law_every_rule" Pf.s_every_rule []) (DL.df_mk KX G ?a ?l ?c ?k (fun _ _ _ _ _ _ us hl => match us, hl with | [], _ => rfl)) ?_
      (case a => k_is); (case l => k_is); (case c => k_is); (case k => k_is)
      intro d__law_every_rule
      refine' DL.keep (p := Df _ mg "_law_any_rule" Pf.s_any_rule ["_law_pot_here"]) (DL.df_mk KX G ?a ?l ?c ?k (fun _ _ _ _ _ _ us hl => match us, hl with | [_], _ => rfl)) ?_
      (case a => k_is); (case l => k_is); (case c => k_is); (case k => k_is)
      intro d__law_any_rule
      refine' DL.keep (p := Df _ mg "_law_first_worths" Pf.s_first_worths ["_law_rule", "_law_many"]) (DL.df_mk KX G ?a ?l ?c ?k (fun _ _ _ _ _ _ us hl => match us, hl with | [_, _], _ => rfl)) ?_
      (case a => k_is); (case l => k_is); (case c => k_is); (case k => k_is)
      intro d__law_first_worths
      refine' DL.keep (p := Df _ mg "_law_known" Pf.s_known ["_law_rule"]) (DL.df_mk KX G ?a ?l ?c ?k (fun _ _ _ _ _ _ us hl => match us, hl with | [_], _ => rfl)) ?_
      (case a => k_is); (case l => k_is); (case c => k_is); (case k => k_is)
      intro d__law_known
      refine' DL.keep (p := Df _ mg "_law_worth" Pf.s_worth ["_law_known_here", "_law_heap"]) (DL.df_mk KX G ?a ?l ?c ?k (fun _ _ _ _ _ _ us hl => match us, hl with | [_, _], _ => rfl)) ?_
      (case a => k_is); (case l => k_is); (case c => k_is); (case k => k_is)
      intro d__law_worth
      refine' DL.keep (p := Df _ mg "_law_lost" Pf.s_lost ["_law_known_here", "_law_position"]) (DL.df_mk KX G ?a ?l ?c ?k (fun _ _ _ _ _ _ us hl => match us, hl with | [_, _], _ => rfl)) ?_
      (case a => k_is); (case l => k_is); (case c => k_is); (case k => k_is)
      intro d__law_lost
      refine' DL.keep (p := Df _ mg "_law_any_heap" Pf.s_any_heap ["_law_pot_here"]) (DL.df_mk KX G ?a ?l ?c ?k (fun _ _ _ _ _ _ us hl => match us, hl with | [_], _ => rfl)) ?_
      (case a => k_is); (case l => k_is); (case c => k_is); (case k => k_is)
      intro d__law_any_heap
      refine' DL.keep (p := Df _ mg "_law_any_position" Pf.s_any_position ["_law_pot_here"]) (DL.df_mk KX G ?a ?l ?c ?k (fun _ _ _ _ _ _ us hl => match us, hl with | [_], _ => rfl)) ?_
      (case a => k_is); (case l => k_is); (case c => k_is); (case k => k_is)
      intro d__law_any_position
      refine' DL.keep (p := Df _ mg "_law_all_known" Pf.s_all_known []) (DL.df_mk KX G ?a ?l ?c ?k (fun _ _ _ _ _ _ us hl => match us, hl with | [], _ => rfl)) ?_
      (case a => k_is); (case l => k_is); (case c => k_is); (case k => k_is)
      intro d__law_all_known
      refine' DL.keep (p := Df _ mg "_law_goes" Pf.s_lgoes ["_law_every", "_law_rule", "_law_fact"]) (DL.df_mk KX G ?a ?l ?c ?k (fun _ _ _ _ _ _ us hl => match us, hl with | [_, _, _], _ => rfl)) ?_
      (case a => k_is); (case l => k_is); (case c => k_is); (case k => k_is)
      intro d__law_goes
      refine' DL.keep (p := Df _ mg "_law_left" Pf.s_left ["_law_every", "_law_facts"]) (DL.df_mk KX G ?a ?l ?c ?k (fun _ _ _ _ _ _ us hl => match us, hl with | [_, _], _ => rfl)) ?_
      (case a => k_is); (case l => k_is); (case c => k_is); (case k => k_is)
      intro d__law_left
      refine' DL.keep (p := Df _ mg "_law_any_fact" Pf.s_any_fact ["_law_every", "_law_pot_here", "_law_rule"]) (DL.df_mk KX G ?a ?l ?c ?k (fun _ _ _ _ _ _ us hl => match us, hl with | [_, _, _], _ => rfl)) ?_
      (case a => k_is); (case l => k_is); (case c => k_is); (case k => k_is)
      intro d__law_any_fact
      refine' DL.keep (p := Df _ mg "_law_any_book" Pf.s_any_book ["_law_every", "_law_pot_here", "_law_most"]) (DL.df_mk KX G ?a ?l ?c ?k (fun _ _ _ _ _ _ us hl => match us, hl with | [_, _, _], _ => rfl)) ?_
      (case a => k_is); (case l => k_is); (case c => k_is); (case k => k_is)
      intro d__law_any_book
      refine' DL.keep (p := Df _ mg "_law_behind" Pf.s_behind ["_law_position", "_law_index", "_law_take"]) (DL.df_mk KX G ?a ?l ?c ?k (fun _ _ _ _ _ _ us hl => match us, hl with | [_, _, _], _ => rfl)) ?_
      (case a => k_is); (case l => k_is); (case c => k_is); (case k => k_is)
      intro d__law_behind
      refine' DL.keep (p := Df _ mg "_law_rows" Pf.s_rows ["_law_every", "_law_left_here", "_law_position"]) (DL.df_mk KX G ?a ?l ?c ?k (fun _ _ _ _ _ _ us hl => match us, hl with | [_, _, _], _ => rfl)) ?_
      (case a => k_is); (case l => k_is); (case c => k_is); (case k => k_is)
      intro d__law_rows
      refine' DL.keep (p := Df _ mg "law" Pf.s_law ["_law_script"]) (DL.df_mk KX G ?a ?l ?c ?k (fun _ _ _ _ _ _ us hl => match us, hl with | [_], _ => rfl)) ?_
      (case a => k_is); (case l => k_is); (case c => k_is); (case k => k_is)
      intro d_law
      refine' DL.keep (p := Df _ mg "_law_word" Pf.s_word ["_law_call"]) (DL.df_mk KX G ?a ?l ?c ?k (fun _ _ _ _ _ _ us hl => match us, hl with | [_], _ => rfl)) ?_
      (case a => k_is); (case l => k_is); (case c => k_is); (case k => k_is)
      intro d__law_word
      refine' DL.keep (p := Df _ mg "_law_names" Pf.s_names ["_law_error"]) (DL.df_mk KX G ?a ?l ?c ?k (fun _ _ _ _ _ _ us hl => match us, hl with | [_], _ => rfl)) ?_
      (case a => k_is); (case l => k_is); (case c => k_is); (case k => k_is)
      intro d__law_names
      refine' DL.keep (PySem.W.mg_none_of (n := "isinstance") KX G ?a) ?_
      (case a => k_is)
      intro z_isinstance
      refine' DL.keep (PySem.W.mg_none_of (n := "int") KX G ?a) ?_
      (case a => k_is)
      intro z_int
      refine' DL.keep (PySem.W.mg_none_of (n := "bool") KX G ?a) ?_
      (case a => k_is)
      intro z_bool
      refine' DL.keep (PySem.W.mg_none_of (n := "tuple") KX G ?a) ?_
      (case a => k_is)
      intro z_tuple
      refine' DL.keep (PySem.W.mg_none_of (n := "str") KX G ?a) ?_
      (case a => k_is)
      intro z_str
      refine' DL.keep (PySem.W.mg_none_of (n := "len") KX G ?a) ?_
      (case a => k_is)
      intro z_len
      refine' DL.keep (PySem.W.mg_none_of (n := "all") KX G ?a) ?_
      (case a => k_is)
      intro z_all
      refine' DL.keep (PySem.W.mg_none_of (n := "range") KX G ?a) ?_
      (case a => k_is)
      intro z_range
      refine' DL.keep (DL.ci_at (x := "MOST_TAKE") (i := 6) KX G ?a) ?_
      (case a => k_is)
      intro z_MOST_TAKE
      refine' DL.keep (Pf.ci_loose (x := "MOST_HEAP") (i := 1000000000000000000000000000000) XP.2 List.mem_cons_self) ?_
      intro z_MOST_HEAP
      refine' DL.keep (DL.ci_at (x := "MOST_HEAPS") (i := 3) KX G ?a) ?_
      (case a => k_is)
      intro z_MOST_HEAPS
      refine' DL.keep (DL.ci_at (x := "MOST_FACTS") (i := 8) KX G ?a) ?_
      (case a => k_is)
      intro z_MOST_FACTS
      refine' DL.keep (PySem.W.mg_none_of (n := "min") KX G ?a) ?_
      (case a => k_is)
      intro z_min
      refine' DL.keep (PySem.W.mg_none_of (n := "max") KX G ?a) ?_
      (case a => k_is)
      intro z_max
      refine' DL.keep (PySem.W.mg_none_of (n := "enumerate") KX G ?a) ?_
      (case a => k_is)
      intro z_enumerate
      refine' DL.keep (PySem.W.mg_none_of (n := "abs") KX G ?a) ?_
      (case a => k_is)
      intro z_abs
      refine' DL.keep (PySem.W.mg_none_of (n := "sorted") KX G ?a) ?_
      (case a => k_is)
      intro z_sorted
      refine' DL.keep (PySem.W.mg_none_of (n := "dict") KX G ?a) ?_
      (case a => k_is)
      intro z_dict
      refine' DL.keep (PySem.W.mg_none_of (n := "list") KX G ?a) ?_
      (case a => k_is)
      intro z_list
      refine' DL.keep (PySem.W.mg_none_of (n := "zip") KX G ?a) ?_
      (case a => k_is)
      intro z_zip
      refine' DL.keep (PySem.W.mg_none_of (n := "ValueError") KX G ?a) ?_
      (case a => k_is)
      intro z_ValueError
      refine' DL.keep (PySem.W.mg_of (n := "HeapError") KX G ?a) ?_
      (case a => k_is)
      intro a_HeapError
      refine' DL.keep (PySem.W.mg_of (n := "InvalidRule") KX G ?a) ?_
      (case a => k_is)
      intro a_InvalidRule
      refine' DL.keep (PySem.W.mg_of (n := "InvalidPosition") KX G ?a) ?_
      (case a => k_is)
      intro a_InvalidPosition
      refine' DL.keep (PySem.W.mg_of (n := "InvalidHeap") KX G ?a) ?_
      (case a => k_is)
      intro a_InvalidHeap
      refine' DL.keep (PySem.W.mg_of (n := "InvalidBook") KX G ?a) ?_
      (case a => k_is)
      intro a_InvalidBook
      refine' DL.keep (PySem.W.mg_of (n := "InvalidFact") KX G ?a) ?_
      (case a => k_is)
      intro a_InvalidFact
      refine' DL.keep (PySem.W.mg_of (n := "InvalidTable") KX G ?a) ?_
      (case a => k_is)
      intro a_InvalidTable
      refine' DL.keep (PySem.W.mg_of (n := "InvalidNumber") KX G ?a) ?_
      (case a => k_is)
      intro a_InvalidNumber
      refine' DL.keep (PySem.W.mg_of (n := "InvalidTake") KX G ?a) ?_
      (case a => k_is)
      intro a_InvalidTake
      refine' DL.keep (PySem.W.mg_of (n := "InvalidIndex") KX G ?a) ?_
      (case a => k_is)
      intro a_InvalidIndex
      refine' DL.keep (PySem.W.mg_of (n := "InvalidWord") KX G ?a) ?_
      (case a => k_is)
      intro a_InvalidWord
      refine' DL.keep (PySem.W.mg_of (n := "Impossible") KX G ?a) ?_
      (case a => k_is)
      intro a_Impossible
      refine' DL.keep (PySem.W.mg_of (n := "Unlike") KX G ?a) ?_
      (case a => k_is)
      intro a_Unlike
      refine' DL.keep (PySem.W.mg_of (n := "NothingToUndo") KX G ?a) ?_
      (case a => k_is)
      intro a_NothingToUndo
      refine' DL.keep (PySem.W.mg_of (n := "TooMany") KX G ?a) ?_
      (case a => k_is)
      intro a_TooMany
      refine' DL.keep (PySem.W.mg_of (n := "InvalidText") KX G ?a) ?_
      (case a => k_is)
      intro a_InvalidText
      refine' DL.keep (PySem.W.mg_of (n := "Failed") KX G ?a) ?_
      (case a => k_is)
      intro a_Failed
      refine' DL.keep (show Pf.ErrsAt mg _ from .cons a_InvalidRule (.cons a_InvalidPosition (.cons a_InvalidHeap (.cons a_InvalidBook (.cons a_InvalidFact (.cons a_InvalidTable (.cons a_InvalidNumber (.cons a_InvalidTake (.cons a_InvalidIndex (.cons a_InvalidWord (.cons a_Impossible (.cons a_Unlike (.cons a_NothingToUndo (.cons a_TooMany (.cons a_InvalidText (.cons a_Failed (.nil))))))))))))))))) ?_
      intro errs
      refine' DL.keep (Pf.xcls_mk KX a_InvalidPosition ?q ?k ?b ?t) ?_
      (case q => kernel_rfl); (case k => k_is); (case b => k_is); (case t => k_is)
      intro x_InvalidPosition
      refine' DL.keep (Pf.xcls_mk KX a_InvalidBook ?q ?k ?b ?t) ?_
      (case q => kernel_rfl); (case k => k_is); (case b => k_is); (case t => k_is)
      intro x_InvalidBook
      refine' DL.keep (Pf.xcls_mk KX a_Impossible ?q ?k ?b ?t) ?_
      (case q => kernel_rfl); (case k => k_is); (case b => k_is); (case t => k_is)
      intro x_Impossible
      refine' DL.keep (Pf.errX_mk KX errs rfl a_Impossible a_HeapError ?e1 ?e2 ?e3 ?e4 ?e5 ?e6 ?e7 ?e8 ?hk ?hv ?hx) ?_
      (case e1 => k_is); (case e2 => k_is); (case e3 => k_is); (case e4 => k_is); (case e5 => k_is); (case e6 => k_is); (case e7 => k_is); (case e8 => k_is)
      (case hk => kernel_rfl); (case hv => kernel_rfl); (case hx => kernel_rfl)
      intro e_Impossible
      refine' DL.keep (Pf.errX_mk KX errs rfl a_InvalidPosition a_HeapError ?e1 ?e2 ?e3 ?e4 ?e5 ?e6 ?e7 ?e8 ?hk ?hv ?hx) ?_
      (case e1 => k_is); (case e2 => k_is); (case e3 => k_is); (case e4 => k_is); (case e5 => k_is); (case e6 => k_is); (case e7 => k_is); (case e8 => k_is)
      (case hk => kernel_rfl); (case hv => kernel_rfl); (case hx => kernel_rfl)
      intro e_InvalidPosition
      refine' DL.keep (Pf.errX_mk KX errs rfl a_InvalidBook a_HeapError ?e1 ?e2 ?e3 ?e4 ?e5 ?e6 ?e7 ?e8 ?hk ?hv ?hx) ?_
      (case e1 => k_is); (case e2 => k_is); (case e3 => k_is); (case e4 => k_is); (case e5 => k_is); (case e6 => k_is); (case e7 => k_is); (case e8 => k_is)
      (case hk => kernel_rfl); (case hv => kernel_rfl); (case hx => kernel_rfl)
      intro e_InvalidBook
      refine' DL.keep (Pf.lamH_mk (x := "_law_right") (st := Pf.s_right) (ps := ["_law_every", "_law_book", "_law_position"]) KX G ?a ?l ?c ?k ?lc ?hv ?hc ?tb ?nk (fun _ _ _ _ _ _ us hl => match us, hl with | [_, _, _], _ => rfl)) ?_
      (case a => k_is); (case l => k_is); (case c => k_is); (case k => k_is); (case lc => k_is); (case hv => rfl); (case hc => kernel_rfl); (case tb => exact TBS _ (by decide)); (case nk => kernel_rfl)
      intro L__law_right
      refine' DL.keep (Pf.lamH_mk (x := "_law_refused") (st := Pf.s_refused) (ps := ["_law_book"]) KX G ?a ?l ?c ?k ?lc ?hv ?hc ?tb ?nk (fun _ _ _ _ _ _ us hl => match us, hl with | [_], _ => rfl)) ?_
      (case a => k_is); (case l => k_is); (case c => k_is); (case k => k_is); (case lc => k_is); (case hv => rfl); (case hc => kernel_rfl); (case tb => exact TBS _ (by decide)); (case nk => kernel_rfl)
      intro L__law_refused
      refine' DL.keep (Pf.noLists_mk KX ?no) ?_
      (case no => kernel_rfl)
      intro no
      exact Pf.law_at (Pf.Txt.mk ⟨z_isinstance, z_int, z_bool, z_tuple, z_str, z_len, z_all, z_range, z_MOST_TAKE, z_MOST_HEAP, z_MOST_HEAPS, z_MOST_FACTS⟩ ⟨z_min, z_max, z_enumerate⟩ ⟨z_abs, z_sorted, z_dict, z_list⟩ ⟨z_zip, z_ValueError⟩ d_is_integer d_is_position d_is_fact d_is_book d_need_position d_need_book d_lots_from d_least_free d_rounds_of d_told_by d_is_lost_by d_goes_with d_all_rules d_rules_with d_some_rules d_behind_move d_votes d_sure_by d_sure_moves d_best_moves d__law_pot d__law_ladle d__law_choose d__law_every_rule d__law_any_rule d__law_first_worths d__law_known d__law_worth d__law_lost d__law_any_heap d__law_any_position d__law_all_known d__law_goes d__law_left d__law_any_fact d__law_any_book d__law_behind d__law_rows d_law d__law_word d__law_names x_InvalidPosition x_InvalidBook x_Impossible e_Impossible e_InvalidPosition e_InvalidBook a_HeapError) no L__law_right L__law_refused hmg (by decide))
